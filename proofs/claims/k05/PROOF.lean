import PyProof.Rows.All
import Wide.All
import OpenK.AllK
import Wide.FinOn
import HandS.ForMost
import HandS.IsInst
import HandS.DictComp
import HandS.Walk
import HandS.More
import HandS.Conv
import HandS.Replace
import HandS.Style
import HandS.Wide
import HandS.StrMore
import HandS.SortInts
import PyProof.CollectStr
import PyProof.ListStr
import HandS.Codes
import PySem.Challenge.RW_nodoubt_k05_whole_turned_and_renamed
set_option linter.all false
/-! K05 mathematics: expressions as a tree, the words they match, turned and renamed. Plain Lean. -/
namespace KM
abbrev Wd := List Nat
inductive Ex where
  | leaf (w : Wd)
  | row (j : Bool) (ps : List Ex)
  | one (m : Bool) (p : Ex)
theorem Ex.ind {P : Ex → Prop} (hl : ∀ w, P (.leaf w)) (hr : ∀ j ps, (∀ p ∈ ps, P p) → P (.row j ps)) (ho : ∀ m p, P p → P (.one m p)) (e : Ex) : P e :=
  Ex.rec (motive_1 := P) (motive_2 := fun ps => ∀ p ∈ ps, P p) hl (fun j ps h => hr j ps h) (fun m p h => ho m p h)
    (fun _ h => nomatch h) (fun p ps h hs q hq => by
      rcases List.mem_cons.mp hq with e | hq
      · exact e ▸ h
      · exact hs q hq) e
mutual
def depth : Ex → Nat
  | .leaf _ => 0
  | .row _ ps => depths ps + 1
  | .one _ p => depth p + 1
def depths : List Ex → Nat
  | [] => 0
  | p :: ps => max (depth p) (depths ps)
end
mutual
def lets : Ex → Wd
  | .leaf w => w
  | .row _ ps => letss ps
  | .one _ p => lets p
def letss : List Ex → Wd
  | [] => []
  | p :: ps => lets p ++ letss ps
end
mutual
def cnt : Ex → Nat
  | .leaf _ => 1
  | .row _ ps => 1 + cnts ps
  | .one _ p => 1 + cnt p
def cnts : List Ex → Nat
  | [] => 0
  | p :: ps => cnt p + cnts ps
end
mutual
def turn : Ex → Ex
  | .leaf w => .leaf w
  | .row j ps => .row j (turns ps)
  | .one m p => .one m (turn p)
def turns : List Ex → List Ex
  | [] => []
  | p :: ps => turns ps ++ [turn p]
end
mutual
def ren (o : Nat → Nat) : Ex → Ex
  | .leaf w => .leaf (w.map o)
  | .row j ps => .row j (rens o ps)
  | .one m p => .one m (ren o p)
def rens (o : Nat → Nat) : List Ex → List Ex
  | [] => []
  | p :: ps => ren o p :: rens o ps
end
inductive Star (P : Wd → Prop) : Wd → Prop
  | nil : Star P []
  | cons {u v : Wd} : P u → Star P v → Star P (u ++ v)
mutual
def Lang : Ex → Wd → Prop
  | .leaf w, x => x = w
  | .row true ps, x => LJ ps x
  | .row false ps, x => LO ps x
  | .one false p, x => x = [] ∨ Lang p x
  | .one true p, x => Star (Lang p) x
def LJ : List Ex → Wd → Prop
  | [], x => x = []
  | p :: ps, x => ∃ u v, x = u ++ v ∧ Lang p u ∧ LJ ps v
def LO : List Ex → Wd → Prop
  | [], _ => False
  | p :: ps, x => Lang p x ∨ LO ps x
end
def Abc (c : Nat) : Prop := c = 97 ∨ c = 98 ∨ c = 99 ∨ c = 100
mutual
def Ok : Option Bool → Ex → Prop
  | _, .leaf w => w = [] ∨ ∃ c, w = [c] ∧ Abc c
  | o, .row j ps => o ≠ some j ∧ 2 ≤ ps.length ∧ ps.length ≤ 3 ∧ Oks (some j) ps
  | _, .one _ p => Ok none p
def Oks : Option Bool → List Ex → Prop
  | _, [] => True
  | o, p :: ps => Ok o p ∧ Oks o ps
end
/-- the parts directly in it -/
def parts : Ex → List Ex
  | .leaf _ => []
  | .row _ ps => ps
  | .one _ p => [p]

/-! ### lists of parts -/
theorem depths_le {ps : List Ex} {p : Ex} (h : p ∈ ps) : depth p ≤ depths ps := by
  induction ps with
  | nil => cases h
  | cons q r ih =>
    rw [depths]
    rcases List.mem_cons.mp h with e | h
    · subst e; omega
    · have := ih h; omega
theorem depths_lt {ps : List Ex} {n : Nat} (h : ∀ p ∈ ps, depth p ≤ n) : depths ps ≤ n := by
  induction ps with
  | nil => rw [depths]; omega
  | cons q r ih =>
    rw [depths]
    have h1 := h q List.mem_cons_self
    have h2 := ih fun p hp => h p (List.mem_cons_of_mem _ hp)
    omega
theorem oks_iff {o : Option Bool} {ps : List Ex} : Oks o ps ↔ ∀ p ∈ ps, Ok o p := by
  induction ps with
  | nil => rw [Oks]; simp
  | cons q r ih => rw [Oks, ih]; simp
theorem lo_iff {ps : List Ex} {x : Wd} : LO ps x ↔ ∃ p ∈ ps, Lang p x := by
  induction ps with
  | nil => rw [LO]; simp
  | cons q r ih => rw [LO, ih]; simp
theorem letss_eq (ps : List Ex) : letss ps = (ps.map lets).flatten := by
  induction ps with
  | nil => rw [letss]; rfl
  | cons q r ih => rw [letss, ih]; rfl
theorem cnts_eq (ps : List Ex) : cnts ps = (ps.map cnt).sum := by
  induction ps with
  | nil => rw [cnts]; rfl
  | cons q r ih => rw [cnts, ih, List.map_cons, List.sum_cons]
theorem rens_eq (o : Nat → Nat) (ps : List Ex) : rens o ps = ps.map (ren o) := by
  induction ps with
  | nil => rw [rens]; rfl
  | cons q r ih => rw [rens, ih]; rfl
theorem turns_eq (ps : List Ex) : turns ps = (ps.map turn).reverse := by
  induction ps with
  | nil => rw [turns]; rfl
  | cons q r ih => rw [turns, ih, List.map_cons, List.reverse_cons]
theorem mem_turns {ps : List Ex} {q : Ex} : q ∈ turns ps ↔ ∃ p ∈ ps, turn p = q := by rw [turns_eq]; simp
theorem mem_rens {o : Nat → Nat} {ps : List Ex} {q : Ex} : q ∈ rens o ps ↔ ∃ p ∈ ps, ren o p = q := by rw [rens_eq]; simp
theorem parts_depth {e p : Ex} (h : p ∈ parts e) : depth p < depth e := by
  cases e with
  | leaf w => cases h
  | row j ps => have := depths_le (show p ∈ ps from h); rw [depth]; omega
  | one m q =>
    have e : p = q := by simpa [parts] using h
    subst e
    rw [depth]; omega
theorem lets_parts {e : Ex} (h : ∀ w, e ≠ .leaf w) : lets e = ((parts e).map lets).flatten := by
  cases e with
  | leaf w => exact absurd rfl (h w)
  | row j ps => rw [lets, letss_eq]; rfl
  | one m q => rw [lets]; simp [parts]
theorem cnt_parts (e : Ex) : cnt e = 1 + ((parts e).map cnt).sum := by
  cases e with
  | leaf w => rw [cnt]; rfl
  | row j ps => rw [cnt, cnts_eq]; rfl
  | one m q => rw [cnt]; simp [parts]

/-! ### turned -/
theorem turn_turn (e : Ex) : turn (turn e) = e := by
  induction e using Ex.ind with
  | hl w => rw [turn, turn]
  | ho m p ih => rw [turn, turn, ih]
  | hr j ps ih =>
    rw [turn, turn, turns_eq, turns_eq, List.map_reverse, List.reverse_reverse, List.map_map]
    congr 1
    calc ps.map (turn ∘ turn) = ps.map id := List.map_congr_left fun p hp => ih p hp
      _ = ps := List.map_id ps
theorem depths_perm_le {ps qs : List Ex} (h : ∀ p ∈ ps, p ∈ qs) : depths ps ≤ depths qs := depths_lt fun p hp => depths_le (h p hp)
theorem depth_turn (e : Ex) : depth (turn e) = depth e := by
  induction e using Ex.ind with
  | hl w => rw [turn]
  | ho m p ih => rw [turn, depth, depth, ih]
  | hr j ps ih =>
    rw [turn, depth, depth]
    congr 1
    apply Nat.le_antisymm
    · refine depths_lt fun q hq => ?_
      obtain ⟨p, hp, rfl⟩ := mem_turns.mp hq
      rw [ih p hp]; exact depths_le hp
    · refine depths_lt fun p hp => ?_
      rw [← ih p hp]; exact depths_le (mem_turns.mpr ⟨p, hp, rfl⟩)
theorem turns_length (ps : List Ex) : (turns ps).length = ps.length := by rw [turns_eq]; simp
theorem rens_length (o : Nat → Nat) (ps : List Ex) : (rens o ps).length = ps.length := by rw [rens_eq]; simp
theorem ok_turn (e : Ex) : ∀ o, Ok o e → Ok o (turn e) := by
  induction e using Ex.ind with
  | hl w => intro o h; rw [turn]; exact h
  | ho m p ih => intro o h; rw [turn, Ok]; rw [Ok] at h; exact ih none h
  | hr j ps ih =>
    intro o h
    rw [turn, Ok, turns_length]; rw [Ok] at h
    refine ⟨h.1, h.2.1, h.2.2.1, oks_iff.mpr fun q hq => ?_⟩
    obtain ⟨p, hp, rfl⟩ := mem_turns.mp hq
    exact ih p hp _ (oks_iff.mp h.2.2.2 p hp)
theorem cnt_turn (e : Ex) : cnt (turn e) = cnt e := by
  induction e using Ex.ind with
  | hl w => rw [turn]
  | ho m p ih => rw [turn, cnt, cnt, ih]
  | hr j ps ih =>
    rw [turn, cnt, cnt, cnts_eq, cnts_eq, turns_eq, List.map_reverse, List.sum_reverse, List.map_map]
    congr 2
    exact List.map_congr_left fun p hp => ih p hp
theorem flat_len {l : List Wd} : l.flatten.length = (l.map List.length).sum := by rw [List.length_flatten]
theorem lets_turn_len (e : Ex) : (lets (turn e)).length = (lets e).length := by
  induction e using Ex.ind with
  | hl w => rw [turn]
  | ho m p ih => rw [turn, lets, lets, ih]
  | hr j ps ih =>
    rw [turn, lets, lets, letss_eq, letss_eq, turns_eq, flat_len, flat_len, List.map_reverse, List.map_reverse, List.sum_reverse, List.map_map, List.map_map, List.map_map]
    congr 1
    exact List.map_congr_left fun p hp => ih p hp

theorem Star.append {P : Wd → Prop} {u v : Wd} (h : Star P u) (k : Star P v) : Star P (u ++ v) := by
  induction h with
  | nil => exact k
  | @cons a b ha _ ih => rw [List.append_assoc]; exact .cons ha ih
theorem Star.single {P : Wd → Prop} {u : Wd} (h : P u) : Star P u := by
  have := Star.cons h Star.nil
  rwa [List.append_nil] at this
theorem Star.rev {P Q : Wd → Prop} (h : ∀ u, P u → Q u.reverse) {x : Wd} (s : Star P x) : Star Q x.reverse := by
  induction s with
  | nil => exact .nil
  | @cons u v hu _ ih => rw [List.reverse_append]; exact ih.append (.single (h u hu))
theorem Star.imp {P Q : Wd → Prop} (h : ∀ u, P u → Q u) {x : Wd} (s : Star P x) : Star Q x := by
  induction s with
  | nil => exact .nil
  | @cons u v hu _ ih => exact .cons (h u hu) ih
theorem lj_append {ps qs : List Ex} {x : Wd} : LJ (ps ++ qs) x ↔ ∃ u v, x = u ++ v ∧ LJ ps u ∧ LJ qs v := by
  induction ps generalizing x with
  | nil =>
    rw [List.nil_append]
    constructor
    · intro h; exact ⟨[], x, rfl, by rw [LJ], h⟩
    · rintro ⟨u, v, rfl, h1, h2⟩
      rw [LJ] at h1; subst h1; exact h2
  | cons p r ih =>
    rw [List.cons_append, LJ]
    constructor
    · rintro ⟨u, v, rfl, h1, h2⟩
      obtain ⟨a, b, rfl, h3, h4⟩ := ih.mp h2
      exact ⟨u ++ a, b, by rw [List.append_assoc], by rw [LJ]; exact ⟨u, a, rfl, h1, h3⟩, h4⟩
    · rintro ⟨u, v, rfl, h1, h2⟩
      rw [LJ] at h1
      obtain ⟨a, b, rfl, h3, h4⟩ := h1
      exact ⟨a, b ++ v, by rw [List.append_assoc], h3, ih.mpr ⟨b, v, rfl, h4, h2⟩⟩
theorem lj_one {p : Ex} {x : Wd} : LJ [p] x ↔ Lang p x := by
  rw [LJ]
  constructor
  · rintro ⟨u, v, rfl, h1, h2⟩
    rw [LJ] at h2; subst h2; rw [List.append_nil]; exact h1
  · intro h; exact ⟨x, [], by rw [List.append_nil], h, by rw [LJ]⟩
theorem lj_snoc {ps : List Ex} {p : Ex} {x : Wd} : LJ (ps ++ [p]) x ↔ ∃ u v, x = u ++ v ∧ LJ ps u ∧ Lang p v := by
  rw [lj_append]
  constructor
  · rintro ⟨u, v, e, h1, h2⟩; exact ⟨u, v, e, h1, lj_one.mp h2⟩
  · rintro ⟨u, v, e, h1, h2⟩; exact ⟨u, v, e, h1, lj_one.mpr h2⟩

theorem turn_lang1 (e : Ex) : ∀ o, Ok o e → ∀ x, Lang e x → Lang (turn e) x.reverse := by
  induction e using Ex.ind with
  | hl w =>
    intro o h x hx
    rw [turn, Lang]; rw [Lang] at hx; subst hx
    rw [Ok] at h
    rcases h with rfl | ⟨c, rfl, _⟩ <;> rfl
  | ho m p ih =>
    intro o h x hx
    rw [Ok] at h
    rw [turn]
    cases m with
    | false =>
      rw [Lang] at hx ⊢
      rcases hx with rfl | hx
      · exact .inl rfl
      · exact .inr (ih none h x hx)
    | true =>
      rw [Lang] at hx ⊢
      exact hx.rev fun u hu => ih none h u hu
  | hr j ps ih =>
    intro o h x hx
    rw [Ok] at h
    have hp := oks_iff.mp h.2.2.2
    rw [turn]
    cases j with
    | false =>
      rw [Lang] at hx ⊢
      obtain ⟨p, hm, hx⟩ := lo_iff.mp hx
      exact lo_iff.mpr ⟨turn p, mem_turns.mpr ⟨p, hm, rfl⟩, ih p hm _ (hp p hm) x hx⟩
    | true =>
      rw [Lang] at hx ⊢
      clear h
      induction ps generalizing x with
      | nil => rw [LJ] at hx; subst hx; rw [turns, LJ]; rfl
      | cons q r ihr =>
        rw [LJ] at hx
        obtain ⟨u, v, rfl, h1, h2⟩ := hx
        rw [turns, List.reverse_append]
        exact lj_snoc.mpr ⟨v.reverse, u.reverse, rfl, ihr (fun p hm => ih p (List.mem_cons_of_mem _ hm)) v h2 (fun p hm => hp p (List.mem_cons_of_mem _ hm)), ih q List.mem_cons_self _ (hp q List.mem_cons_self) u h1⟩
theorem turn_lang {e : Ex} {o : Option Bool} (h : Ok o e) (x : Wd) : Lang (turn e) x.reverse ↔ Lang e x := by
  constructor
  · intro k
    have := turn_lang1 (turn e) o (ok_turn e o h) _ k
    rwa [turn_turn, List.reverse_reverse] at this
  · exact turn_lang1 e o h x

/-! ### renamed -/
theorem depth_ren (o : Nat → Nat) (e : Ex) : depth (ren o e) = depth e := by
  induction e using Ex.ind with
  | hl w => rw [ren, depth, depth]
  | ho m p ih => rw [ren, depth, depth, ih]
  | hr j ps ih =>
    rw [ren, depth, depth]
    congr 1
    apply Nat.le_antisymm
    · refine depths_lt fun q hq => ?_
      obtain ⟨p, hp, rfl⟩ := mem_rens.mp hq
      rw [ih p hp]; exact depths_le hp
    · refine depths_lt fun p hp => ?_
      rw [← ih p hp]; exact depths_le (mem_rens.mpr ⟨p, hp, rfl⟩)
theorem cnt_ren (o : Nat → Nat) (e : Ex) : cnt (ren o e) = cnt e := by
  induction e using Ex.ind with
  | hl w => rw [ren, cnt, cnt]
  | ho m p ih => rw [ren, cnt, cnt, ih]
  | hr j ps ih =>
    rw [ren, cnt, cnt, cnts_eq, cnts_eq, rens_eq, List.map_map]
    congr 2
    exact List.map_congr_left fun p hp => ih p hp
theorem lets_ren (o : Nat → Nat) (e : Ex) : lets (ren o e) = (lets e).map o := by
  induction e using Ex.ind with
  | hl w => rw [ren, lets, lets]
  | ho m p ih => rw [ren, lets, lets, ih]
  | hr j ps ih =>
    rw [ren, lets, lets, letss_eq, letss_eq, rens_eq, List.map_flatten, List.map_map, List.map_map]
    congr 1
    exact List.map_congr_left fun p hp => ih p hp
theorem ok_ren {o : Nat → Nat} (ho : ∀ c, Abc c → Abc (o c)) (e : Ex) : ∀ k, Ok k e → Ok k (ren o e) := by
  induction e using Ex.ind with
  | hl w =>
    intro k h; rw [ren, Ok]; rw [Ok] at h
    rcases h with rfl | ⟨c, rfl, hc⟩
    · exact .inl rfl
    · exact .inr ⟨o c, rfl, ho c hc⟩
  | ho m p ih => intro k h; rw [ren, Ok]; rw [Ok] at h; exact ih none h
  | hr j ps ih =>
    intro k h
    rw [ren, Ok, rens_length]; rw [Ok] at h
    refine ⟨h.1, h.2.1, h.2.2.1, oks_iff.mpr fun q hq => ?_⟩
    obtain ⟨p, hp, rfl⟩ := mem_rens.mp hq
    exact ih p hp _ (oks_iff.mp h.2.2.2 p hp)
theorem star_map {P Q : Wd → Prop} {o : Nat → Nat} (h : ∀ y, Q y ↔ ∃ x, y = x.map o ∧ P x) (y : Wd) : Star Q y ↔ ∃ x, y = x.map o ∧ Star P x := by
  constructor
  · intro s
    induction s with
    | nil => exact ⟨[], rfl, .nil⟩
    | @cons u v hu _ ih =>
      obtain ⟨a, rfl, ha⟩ := (h u).mp hu
      obtain ⟨b, rfl, hb⟩ := ih
      exact ⟨a ++ b, by rw [List.map_append], .cons ha hb⟩
  · rintro ⟨x, rfl, s⟩
    induction s with
    | nil => exact .nil
    | @cons u v hu _ ih => rw [List.map_append]; exact .cons ((h _).mpr ⟨u, rfl, hu⟩) ih
theorem ren_lang0 (o : Nat → Nat) (e : Ex) : ∀ y, Lang (ren o e) y ↔ ∃ x, y = x.map o ∧ Lang e x := by
  induction e using Ex.ind with
  | hl w =>
    intro y; rw [ren, Lang]
    constructor
    · intro h; exact ⟨w, h, by rw [Lang]⟩
    · rintro ⟨x, rfl, h⟩; rw [Lang] at h; rw [h]
  | ho m p ih =>
    intro y
    rw [ren]
    cases m with
    | false =>
      rw [Lang, ih]
      constructor
      · rintro (rfl | ⟨x, rfl, h⟩)
        · exact ⟨[], rfl, by rw [Lang]; exact .inl rfl⟩
        · exact ⟨x, rfl, by rw [Lang]; exact .inr h⟩
      · rintro ⟨x, rfl, h⟩
        rw [Lang] at h
        rcases h with rfl | h
        · exact .inl rfl
        · exact .inr ⟨x, rfl, h⟩
    | true =>
      rw [Lang, star_map ih]
      constructor
      · rintro ⟨x, rfl, h⟩; exact ⟨x, rfl, by rw [Lang]; exact h⟩
      · rintro ⟨x, rfl, h⟩; rw [Lang] at h; exact ⟨x, rfl, h⟩
  | hr j ps ih =>
    intro y
    rw [ren]
    cases j with
    | false =>
      rw [Lang, lo_iff]
      constructor
      · rintro ⟨q, hq, h⟩
        obtain ⟨p, hp, rfl⟩ := mem_rens.mp hq
        obtain ⟨x, rfl, h'⟩ := (ih p hp y).mp h
        exact ⟨x, rfl, by rw [Lang]; exact lo_iff.mpr ⟨p, hp, h'⟩⟩
      · rintro ⟨x, rfl, h⟩
        rw [Lang] at h
        obtain ⟨p, hp, h⟩ := lo_iff.mp h
        exact ⟨ren o p, mem_rens.mpr ⟨p, hp, rfl⟩, (ih p hp _).mpr ⟨x, rfl, h⟩⟩
    | true =>
      have key : LJ (rens o ps) y ↔ ∃ x, y = x.map o ∧ LJ ps x := by
        induction ps generalizing y with
        | nil =>
          rw [rens, LJ]
          constructor
          · rintro rfl; exact ⟨[], rfl, by rw [LJ]⟩
          · rintro ⟨x, rfl, h⟩; rw [LJ] at h; subst h; rfl
        | cons q r ihr =>
          rw [rens, LJ]
          constructor
          · rintro ⟨u, v, rfl, h1, h2⟩
            obtain ⟨a, rfl, ha⟩ := (ih q List.mem_cons_self u).mp h1
            obtain ⟨b, rfl, hb⟩ := (ihr (fun p hp => ih p (List.mem_cons_of_mem _ hp)) v).mp h2
            exact ⟨a ++ b, by rw [List.map_append], by rw [LJ]; exact ⟨a, b, rfl, ha, hb⟩⟩
          · rintro ⟨x, rfl, h⟩
            rw [LJ] at h
            obtain ⟨a, b, rfl, ha, hb⟩ := h
            exact ⟨a.map o, b.map o, by rw [List.map_append], (ih q List.mem_cons_self _).mpr ⟨a, rfl, ha⟩, (ihr (fun p hp => ih p (List.mem_cons_of_mem _ hp)) _).mpr ⟨b, rfl, hb⟩⟩
      rw [Lang, key]
      constructor
      · rintro ⟨x, rfl, h⟩; exact ⟨x, rfl, by rw [Lang]; exact h⟩
      · rintro ⟨x, rfl, h⟩; rw [Lang] at h; exact ⟨x, rfl, h⟩
theorem lang_lets (e : Ex) : ∀ x, Lang e x → ∀ c ∈ x, c ∈ lets e := by
  induction e using Ex.ind with
  | hl w => intro x h c hc; rw [Lang] at h; rw [lets, ← h]; exact hc
  | ho m p ih =>
    intro x h c hc
    rw [lets]
    cases m with
    | false =>
      rw [Lang] at h
      rcases h with rfl | h
      · cases hc
      · exact ih x h c hc
    | true =>
      rw [Lang] at h
      induction h with
      | nil => cases hc
      | @cons u v hu _ ih2 =>
        rcases List.mem_append.mp hc with hc | hc
        · exact ih u hu c hc
        · exact ih2 hc
  | hr j ps ih =>
    intro x h c hc
    rw [lets, letss_eq]
    have mem : ∀ p ∈ ps, c ∈ lets p → c ∈ (ps.map lets).flatten := fun p hp h => List.mem_flatten.mpr ⟨lets p, List.mem_map.mpr ⟨p, hp, rfl⟩, h⟩
    cases j with
    | false =>
      rw [Lang] at h
      obtain ⟨p, hp, h⟩ := lo_iff.mp h
      exact mem p hp (ih p hp x h c hc)
    | true =>
      rw [Lang] at h
      have key : ∃ p ∈ ps, c ∈ lets p := by
        clear mem
        induction ps generalizing x with
        | nil => rw [LJ] at h; subst h; cases hc
        | cons q r ihr =>
          rw [LJ] at h
          obtain ⟨u, v, rfl, h1, h2⟩ := h
          rcases List.mem_append.mp hc with hc | hc
          · exact ⟨q, List.mem_cons_self, ih q List.mem_cons_self u h1 c hc⟩
          · obtain ⟨p, hp, z⟩ := ihr (fun p hp => ih p (List.mem_cons_of_mem _ hp)) v hc h2
            exact ⟨p, List.mem_cons_of_mem _ hp, z⟩
      obtain ⟨p, hp, z⟩ := key
      exact mem p hp z
theorem ok_lets (e : Ex) : ∀ o, Ok o e → ∀ c ∈ lets e, Abc c := by
  induction e using Ex.ind with
  | hl w =>
    intro o h c hc; rw [Ok] at h; rw [lets] at hc
    rcases h with rfl | ⟨d, rfl, hd⟩
    · cases hc
    · have : c = d := by simpa using hc
      rw [this]; exact hd
  | ho m p ih => intro o h c hc; rw [Ok] at h; rw [lets] at hc; exact ih none h c hc
  | hr j ps ih =>
    intro o h c hc
    rw [Ok] at h
    rw [lets, letss_eq] at hc
    obtain ⟨l, hl, hc⟩ := List.mem_flatten.mp hc
    obtain ⟨p, hp, rfl⟩ := List.mem_map.mp hl
    exact ih p hp _ (oks_iff.mp h.2.2.2 p hp) c hc
theorem map_inj_on {o : Nat → Nat} (hi : ∀ c d, Abc c → Abc d → o c = o d → c = d) : ∀ {x y : Wd}, (∀ c ∈ x, Abc c) → (∀ c ∈ y, Abc c) → x.map o = y.map o → x = y
  | [], [], _, _, _ => rfl
  | [], _ :: _, _, _, h => by simp at h
  | _ :: _, [], _, _, h => by simp at h
  | a :: r, b :: t, hx, hy, h => by
    rw [List.map_cons, List.map_cons] at h
    injection h with h1 h2
    rw [hi a b (hx a List.mem_cons_self) (hy b List.mem_cons_self) h1, map_inj_on hi (fun c hc => hx c (List.mem_cons_of_mem _ hc)) (fun c hc => hy c (List.mem_cons_of_mem _ hc)) h2]
theorem ren_lang {o : Nat → Nat} (hi : ∀ c d, Abc c → Abc d → o c = o d → c = d) {e : Ex} {k : Option Bool} (h : Ok k e) {x : Wd} (hx : ∀ c ∈ x, Abc c) : Lang (ren o e) (x.map o) ↔ Lang e x := by
  rw [ren_lang0]
  constructor
  · rintro ⟨y, ey, hy⟩
    have := map_inj_on hi hx (fun c hc => ok_lets e k h c (lang_lets e y hy c hc)) ey
    rw [this]; exact hy
  · intro z; exact ⟨x, rfl, z⟩
end KM
namespace KM
/-! ### where what an expression matches can end -/
def Hit (L : Wd → Prop) (w : Wd) (i j : Nat) : Prop := ∃ u v, w.drop i = u ++ v ∧ L u ∧ j = i + u.length
theorem Hit.imp {L M : Wd → Prop} (h : ∀ u, L u → M u) {w : Wd} {i j : Nat} (k : Hit L w i j) : Hit M w i j :=
  let ⟨u, v, a, b, c⟩ := k; ⟨u, v, a, h u b, c⟩
theorem Hit.le {L : Wd → Prop} {w : Wd} {i j : Nat} (hi : i ≤ w.length) (k : Hit L w i j) : i ≤ j ∧ j ≤ w.length := by
  obtain ⟨u, v, a, b, rfl⟩ := k
  have e := congrArg List.length a
  rw [List.length_drop, List.length_append] at e
  omega
theorem hit_leaf {x w : Wd} {i j : Nat} : Hit (Lang (.leaf x)) w i j ↔ (w.drop i).take x.length = x ∧ j = i + x.length := by
  constructor
  · rintro ⟨u, v, a, b, rfl⟩
    rw [Lang] at b; subst b
    exact ⟨by rw [a]; simp, rfl⟩
  · rintro ⟨a, rfl⟩
    refine ⟨x, (w.drop i).drop x.length, ?_, by rw [Lang], rfl⟩
    conv => rhs; lhs; rw [← a]
    rw [List.take_append_drop]
theorem hit_nil {w : Wd} {i j : Nat} : Hit (LJ []) w i j ↔ j = i := by
  constructor
  · rintro ⟨u, v, a, b, rfl⟩
    rw [LJ] at b; subst b; rfl
  · rintro rfl; exact ⟨[], w.drop j, rfl, by rw [LJ], rfl⟩
theorem hit_cat {P Q R : Wd → Prop} (h : ∀ x, R x ↔ ∃ u v, x = u ++ v ∧ P u ∧ Q v) {w : Wd} {i j : Nat} : Hit R w i j ↔ ∃ k, Hit P w i k ∧ Hit Q w k j := by
  constructor
  · rintro ⟨x, v, a, b, rfl⟩
    obtain ⟨p, q, rfl, hp, hq⟩ := (h x).mp b
    refine ⟨i + p.length, ⟨p, q ++ v, by rw [a, List.append_assoc], hp, rfl⟩, q, v, ?_, hq, by rw [List.length_append]; omega⟩
    rw [← List.drop_drop, a, List.append_assoc, List.drop_left]
  · rintro ⟨k, ⟨p, v, a, hp, rfl⟩, q, v2, b, hq, rfl⟩
    refine ⟨p ++ q, v2, ?_, (h _).mpr ⟨p, q, rfl, hp, hq⟩, by rw [List.length_append]; omega⟩
    rw [← List.drop_drop, a, List.drop_left] at b
    rw [a, b, List.append_assoc]
theorem hit_snoc {ps : List Ex} {p : Ex} {w : Wd} {i j : Nat} : Hit (LJ (ps ++ [p])) w i j ↔ ∃ k, Hit (LJ ps) w i k ∧ Hit (Lang p) w k j :=
  hit_cat fun _ => lj_snoc
theorem hit_or {ps : List Ex} {w : Wd} {i j : Nat} : Hit (LO ps) w i j ↔ ∃ p ∈ ps, Hit (Lang p) w i j := by
  constructor
  · rintro ⟨u, v, a, b, c⟩
    obtain ⟨p, hp, b⟩ := lo_iff.mp b
    exact ⟨p, hp, u, v, a, b, c⟩
  · rintro ⟨p, hp, u, v, a, b, c⟩
    exact ⟨u, v, a, lo_iff.mpr ⟨p, hp, b⟩, c⟩
theorem hit_maybe {p : Ex} {w : Wd} {i j : Nat} : Hit (Lang (.one false p)) w i j ↔ j = i ∨ Hit (Lang p) w i j := by
  constructor
  · rintro ⟨u, v, a, b, rfl⟩
    rw [Lang] at b
    rcases b with rfl | b
    · exact .inl rfl
    · exact .inr ⟨u, v, a, b, rfl⟩
  · rintro (rfl | ⟨u, v, a, b, rfl⟩)
    · exact ⟨[], w.drop j, rfl, by rw [Lang]; exact .inl rfl, rfl⟩
    · exact ⟨u, v, a, by rw [Lang]; exact .inr b, rfl⟩
inductive RT (R : Nat → Nat → Prop) : Nat → Nat → Prop
  | refl (i : Nat) : RT R i i
  | head {i k j : Nat} : R i k → RT R k j → RT R i j
theorem RT.snoc {R : Nat → Nat → Prop} {i k j : Nat} (h : RT R i k) (r : R k j) : RT R i j := by
  induction h with
  | refl i => exact .head r (.refl j)
  | head a _ ih => exact .head a (ih r)
theorem star_iff {P : Wd → Prop} (x : Wd) : Star P x ↔ x = [] ∨ ∃ u v, x = u ++ v ∧ P u ∧ Star P v := by
  constructor
  · intro h
    cases h with
    | nil => exact .inl rfl
    | @cons u v a b => exact .inr ⟨u, v, rfl, a, b⟩
  · rintro (rfl | ⟨u, v, rfl, a, b⟩)
    · exact .nil
    · exact .cons a b
theorem star_rt {P : Wd → Prop} {w u : Wd} (s : Star P u) : ∀ (i : Nat) (v : Wd), w.drop i = u ++ v → RT (Hit P w) i (i + u.length) := by
  induction s with
  | nil => intro i v a; exact .refl i
  | @cons p q hp _ ih =>
    intro i v a
    have r := ih (i + p.length) v (by rw [← List.drop_drop, a, List.append_assoc, List.drop_left])
    have e : i + (p ++ q).length = i + p.length + q.length := by rw [List.length_append]; omega
    rw [e]
    exact .head ⟨p, q ++ v, by rw [a, List.append_assoc], hp, rfl⟩ r
theorem hit_many {P : Wd → Prop} {w : Wd} {i j : Nat} : Hit (Star P) w i j ↔ RT (Hit P w) i j := by
  constructor
  · rintro ⟨u, v, a, s, rfl⟩
    exact star_rt s i v a
  · intro h
    induction h with
    | refl i => exact ⟨[], w.drop i, rfl, .nil, rfl⟩
    | @head i k j a _ ih =>
      exact (hit_cat (P := P) (Q := Star P) (R := fun x => ∃ u v, x = u ++ v ∧ P u ∧ Star P v) fun _ => Iff.rfl).mpr ⟨k, a, ih⟩ |>.imp fun x ⟨u, v, e, a, b⟩ => e ▸ .cons a b
theorem hit_all {L : Wd → Prop} {w : Wd} : Hit L w 0 w.length ↔ L w := by
  constructor
  · rintro ⟨u, v, a, b, e⟩
    have e2 := congrArg List.length a
    rw [List.drop_zero, List.length_append] at e2
    have : v = [] := List.length_eq_zero_iff.mp (by omega)
    subst this
    rw [List.drop_zero, List.append_nil] at a
    rw [a]; exact b
  · intro h; exact ⟨w, [], by simp, h, by simp⟩

/-! ### lists without repetition, filled in order -/
section
variable {α : Type} [DecidableEq α]
def addA (ks : List α) (k : α) : List α := if k ∈ ks then ks else ks ++ [k]
def addAll (ks ls : List α) : List α := ls.foldl addA ks
theorem mem_addA {ks : List α} {k x : α} : x ∈ addA ks k ↔ x ∈ ks ∨ x = k := by
  unfold addA
  split
  · rename_i h
    constructor
    · exact .inl
    · rintro (h2 | rfl)
      · exact h2
      · exact h
  · simp
theorem nodup_addA {ks : List α} {k : α} (h : ks.Nodup) : (addA ks k).Nodup := by
  unfold addA
  split
  · exact h
  · rename_i hk
    rw [List.nodup_append]
    exact ⟨h, by simp, fun a ha b hb e => hk (by have : b = k := by simpa using hb
                                                 rw [← this, ← e]; exact ha)⟩
theorem len_addA {ks : List α} {k : α} : (addA ks k).length ≤ ks.length + 1 := by
  unfold addA
  split
  · omega
  · simp
theorem mem_addAll {ls : List α} : ∀ {ks : List α} {x : α}, x ∈ addAll ks ls ↔ x ∈ ks ∨ x ∈ ls := by
  induction ls with
  | nil => intro ks x; simp [addAll]
  | cons a r ih =>
    intro ks x
    show x ∈ addAll (addA ks a) r ↔ _
    rw [ih, mem_addA, List.mem_cons, or_assoc]
theorem nodup_addAll {ls : List α} : ∀ {ks : List α}, ks.Nodup → (addAll ks ls).Nodup := by
  induction ls with
  | nil => intro ks h; exact h
  | cons a r ih => intro ks h; exact ih (nodup_addA h)
theorem len_addAll {ls : List α} : ∀ {ks : List α}, (addAll ks ls).length ≤ ks.length + ls.length := by
  induction ls with
  | nil => intro ks; exact Nat.le_refl _
  | cons a r ih =>
    intro ks
    have h1 := ih (ks := addA ks a)
    have h2 := len_addA (ks := ks) (k := a)
    show (addAll (addA ks a) r).length ≤ _
    rw [List.length_cons]
    omega
theorem addAll_snoc {ks ls : List α} {a : α} : addAll ks (ls ++ [a]) = addA (addAll ks ls) a := by
  unfold addAll
  rw [List.foldl_append]; rfl
theorem nodup_sub {l : List α} : ∀ {m : List α}, l.Nodup → (∀ x ∈ l, x ∈ m) → l.length ≤ m.length := by
  induction l with
  | nil => intro m _ _; exact Nat.zero_le _
  | cons a r ih =>
    intro m hn hs
    have ha := hs a List.mem_cons_self
    rw [List.nodup_cons] at hn
    have := ih (m := m.erase a) hn.2 fun x hx => (List.mem_erase_of_ne (fun (e : x = a) => hn.1 (by rw [← e]; exact hx))).mpr (hs x (List.mem_cons_of_mem _ hx))
    rw [List.length_erase_of_mem ha] at this
    have h0 : 0 < m.length := List.length_pos_of_mem ha
    rw [List.length_cons]; omega
end
theorem nodup_le {l : List Nat} {n : Nat} (h : l.Nodup) (hb : ∀ x ∈ l, x ≤ n) : l.length ≤ n + 1 := by
  have := nodup_sub (m := List.range (n + 1)) h fun x hx => List.mem_range.mpr (by have := hb x hx; omega)
  rwa [List.length_range] at this

/-! ### the loop that follows a relation from fresh indexes -/
structure Chase (R : Nat → Nat → Prop) (S F f : List Nat) : Prop where
  sound : ∀ j ∈ F, ∃ i ∈ S, RT R i j
  start : ∀ i ∈ S, i ∈ F
  fresh : ∀ j ∈ f, j ∈ F
  shut : ∀ a ∈ F, a ∉ f → ∀ b, R a b → b ∈ F
theorem Chase.init (R : Nat → Nat → Prop) {S F : List Nat} (h : ∀ x, x ∈ F ↔ x ∈ S) : Chase R S F S :=
  ⟨fun j hj => ⟨j, (h j).mp hj, .refl j⟩, fun i hi => (h i).mpr hi, fun j hj => (h j).mpr hj, fun a ha hn => absurd ((h a).mp ha) hn⟩
theorem Chase.step {R : Nat → Nat → Prop} {S F f E f' : List Nat} (c : Chase R S F f) (hE : ∀ b, b ∈ E ↔ ∃ a ∈ f, R a b) (hf : ∀ b, b ∈ f' ↔ b ∈ E ∧ b ∉ F) : Chase R S (addAll F f') f' := by
  refine ⟨fun j hj => ?_, fun i hi => mem_addAll.mpr (.inl (c.start i hi)), fun j hj => mem_addAll.mpr (.inr hj), fun a ha hn b r => ?_⟩
  · rcases mem_addAll.mp hj with h | h
    · exact c.sound j h
    · obtain ⟨a, ha, r⟩ := (hE j).mp ((hf j).mp h).1
      obtain ⟨i, hi, t⟩ := c.sound a (c.fresh a ha)
      exact ⟨i, hi, t.snoc r⟩
  · have haF : a ∈ F := by
      rcases mem_addAll.mp ha with h | h
      · exact h
      · exact absurd h hn
    by_cases hf1 : a ∈ f
    · have hb : b ∈ E := (hE b).mpr ⟨a, hf1, r⟩
      by_cases hbF : b ∈ F
      · exact mem_addAll.mpr (.inl hbF)
      · exact mem_addAll.mpr (.inr ((hf b).mpr ⟨hb, hbF⟩))
    · exact mem_addAll.mpr (.inl (c.shut a haF hf1 b r))
theorem Chase.done {R : Nat → Nat → Prop} {S F : List Nat} (c : Chase R S F []) (j : Nat) : j ∈ F ↔ ∃ i ∈ S, RT R i j := by
  constructor
  · exact c.sound j
  · rintro ⟨i, hi, t⟩
    have h := c.start i hi
    clear hi
    induction t with
    | refl i => exact h
    | @head a k b r _ ih => exact ih (c.shut a h (fun z => nomatch z) k r)

/-! ### the right words up to a length, listed -/
def StarN (P : Wd → Prop) : Nat → Wd → Prop
  | 0, x => x = []
  | n + 1, x => StarN P n x ∨ ∃ u v, x = u ++ v ∧ StarN P n u ∧ P v
theorem starN_star {P : Wd → Prop} : ∀ {n : Nat} {x : Wd}, StarN P n x → Star P x
  | 0, x, h => by rw [StarN] at h; subst h; exact .nil
  | n + 1, x, h => by
    rw [StarN] at h
    rcases h with h | ⟨u, v, rfl, h1, h2⟩
    · exact starN_star h
    · exact (starN_star h1).append (.single h2)
theorem starN_mono {P : Wd → Prop} {n m : Nat} {x : Wd} (h : StarN P n x) (hm : n ≤ m) : StarN P m x := by
  obtain ⟨k, rfl⟩ := Nat.le.dest hm
  clear hm
  induction k with
  | zero => exact h
  | succ k ih => show StarN P (n + k + 1) x; rw [StarN]; exact .inl ih
theorem starN_cons {P : Wd → Prop} {u : Wd} (hu : P u) : ∀ {n : Nat} {v : Wd}, StarN P n v → StarN P (n + 1) (u ++ v)
  | 0, v, h => by
    rw [StarN] at h; subst h
    rw [StarN]; exact .inr ⟨[], u, by simp, by rw [StarN], hu⟩
  | n + 1, v, h => by
    rw [StarN] at h
    rw [StarN]
    rcases h with h | ⟨a, b, rfl, h1, h2⟩
    · exact .inl (starN_cons hu h)
    · exact .inr ⟨u ++ a, b, by rw [List.append_assoc], starN_cons hu h1, h2⟩
theorem star_starN {P : Wd → Prop} {x : Wd} (h : Star P x) : StarN P x.length x := by
  induction h with
  | nil => show StarN P 0 []; rw [StarN]
  | @cons u v hu _ ih =>
    cases u with
    | nil => exact ih
    | cons a r => exact starN_mono (starN_cons hu ih) (by rw [List.length_append, List.length_cons]; omega)
theorem star_bound {P : Wd → Prop} {x : Wd} {n : Nat} (h : x.length ≤ n) : StarN P n x ↔ Star P x :=
  ⟨starN_star, fun s => starN_mono (star_starN s) h⟩
/-- ws are the words of L of at most n letters -/
def Lists (L : Wd → Prop) (n : Nat) (ws : List Wd) : Prop := ∀ x, x ∈ ws ↔ L x ∧ x.length ≤ n
theorem lists_cat {P Q R : Wd → Prop} {n : Nat} {us vs ws : List Wd} (hu : Lists P n us) (hv : Lists Q n vs) (hw : ∀ x, x ∈ ws ↔ ∃ u ∈ us, ∃ v ∈ vs, x = u ++ v ∧ x.length ≤ n)
    (hR : ∀ x, R x ↔ ∃ u v, x = u ++ v ∧ P u ∧ Q v) : Lists R n ws := by
  intro x
  rw [hw, hR]
  constructor
  · rintro ⟨u, h1, v, h2, rfl, h3⟩
    exact ⟨⟨u, v, rfl, ((hu u).mp h1).1, ((hv v).mp h2).1⟩, h3⟩
  · rintro ⟨⟨u, v, rfl, h1, h2⟩, h3⟩
    have e := h3
    rw [List.length_append] at e
    exact ⟨u, (hu u).mpr ⟨h1, by omega⟩, v, (hv v).mpr ⟨h2, by omega⟩, rfl, h3⟩
theorem lists_star0 {P : Wd → Prop} {n : Nat} {vs ws : List Wd} (hv : Lists P n vs) (hw : ∀ x, x ∈ ws ↔ x = [] ∨ x ∈ vs) : Lists (StarN P 1) n ws := by
  intro x
  rw [hw, hv]
  show _ ↔ (StarN P 0 x ∨ ∃ u v, x = u ++ v ∧ StarN P 0 u ∧ P v) ∧ _
  constructor
  · rintro (rfl | ⟨h, k⟩)
    · exact ⟨.inl (by rw [StarN]), Nat.zero_le _⟩
    · exact ⟨.inr ⟨[], x, rfl, by rw [StarN], h⟩, k⟩
  · rintro ⟨h | ⟨u, v, rfl, h, k⟩, l⟩
    · rw [StarN] at h; exact .inl h
    · rw [StarN] at h; subst h
      exact .inr ⟨k, l⟩
theorem lists_maybe {p : Ex} {n : Nat} {vs ws : List Wd} (hv : Lists (Lang p) n vs) (hw : ∀ x, x ∈ ws ↔ x = [] ∨ x ∈ vs) : Lists (Lang (.one false p)) n ws := by
  intro x
  rw [hw, hv, Lang]
  constructor
  · rintro (rfl | ⟨h, k⟩)
    · exact ⟨.inl rfl, Nat.zero_le _⟩
    · exact ⟨.inr h, k⟩
  · rintro ⟨rfl | h, k⟩
    · exact .inl rfl
    · exact .inr ⟨h, k⟩
theorem lists_starS {P : Wd → Prop} {n t : Nat} {us vs js ws : List Wd} (hu : Lists (StarN P t) n us) (hv : Lists P n vs) (hj : ∀ x, x ∈ js ↔ ∃ u ∈ us, ∃ v ∈ vs, x = u ++ v ∧ x.length ≤ n)
    (hw : ∀ x, x ∈ ws ↔ x ∈ us ∨ x ∈ js) : Lists (StarN P (t + 1)) n ws := by
  have hc := lists_cat (R := fun x => ∃ u v, x = u ++ v ∧ StarN P t u ∧ P v) hu hv hj fun x => Iff.rfl
  intro x
  rw [hw, hu, hc, StarN]
  constructor
  · rintro (⟨h, k⟩ | ⟨h, k⟩)
    · exact ⟨.inl h, k⟩
    · exact ⟨.inr h, k⟩
  · rintro ⟨h | h, k⟩
    · exact .inl ⟨h, k⟩
    · exact .inr ⟨h, k⟩
theorem lists_many {p : Ex} {n : Nat} {ws : List Wd} (h : Lists (StarN (Lang p) (n + 1)) n ws) : Lists (Lang (.one true p)) n ws := by
  intro x
  rw [h, Lang]
  constructor
  · rintro ⟨a, b⟩; exact ⟨starN_star a, b⟩
  · rintro ⟨a, b⟩; exact ⟨(star_bound (by omega)).mpr a, b⟩
/-! ### how many there can be -/
def layer : Nat → List Wd
  | 0 => [[]]
  | n + 1 => (layer n).flatMap fun w => [97, 98, 99, 100].map fun c => c :: w
def univ (n : Nat) : List Wd := (List.range (n + 1)).flatMap layer
theorem mem_layer : ∀ {w : Wd}, (∀ c ∈ w, Abc c) → w ∈ layer w.length
  | [], _ => by simp [layer]
  | c :: r, h => by
    show c :: r ∈ layer (r.length + 1)
    rw [layer, List.mem_flatMap]
    refine ⟨r, mem_layer fun d hd => h d (List.mem_cons_of_mem _ hd), ?_⟩
    have := h c List.mem_cons_self
    rcases this with rfl | rfl | rfl | rfl <;> simp
theorem univ4 : (univ 4).length = 341 := by decide +kernel
theorem words_le {ws : List Wd} {n : Nat} (hn : n ≤ 4) (h : ws.Nodup) (hl : ∀ w ∈ ws, w.length ≤ n ∧ ∀ c ∈ w, Abc c) : ws.length ≤ 341 := by
  rw [← univ4]
  refine nodup_sub h fun w hw => ?_
  obtain ⟨a, b⟩ := hl w hw
  exact List.mem_flatMap.mpr ⟨w.length, List.mem_range.mpr (by omega), mem_layer b⟩
theorem lists_le {L : Wd → Prop} {ws : List Wd} {n : Nat} (hn : n ≤ 4) (h : ws.Nodup) (hl : Lists L n ws) (ha : ∀ x, L x → ∀ c ∈ x, Abc c) : ws.length ≤ 341 :=
  words_le hn h fun w hw => ⟨((hl w).mp hw).2, ha w ((hl w).mp hw).1⟩

/-! ### an order of the letters -/
structure Order (os : Wd) : Prop where
  perm : os.Perm [97, 98, 99, 100]
def ordF (os : Wd) (c : Nat) : Nat := os.getD (c - 97) 0
theorem Order.len {os : Wd} (h : Order os) : os.length = 4 := h.perm.length_eq
theorem Order.abc {os : Wd} (h : Order os) : ∀ c ∈ os, Abc c := fun c hc => by
  have := h.perm.mem_iff.mp hc
  simpa [Abc] using this
theorem Order.nodup {os : Wd} (h : Order os) : os.Nodup := h.perm.nodup_iff.mpr (by decide)
theorem Order.at {os : Wd} (h : Order os) {c : Nat} (hc : Abc c) : os[c - 97]? = some (ordF os c) := by
  have : c - 97 < os.length := by rw [h.len]; unfold Abc at hc; omega
  unfold ordF
  rw [List.getD_eq_getElem?_getD, List.getElem?_eq_getElem this]; rfl
theorem Order.to {os : Wd} (h : Order os) (c : Nat) (hc : Abc c) : Abc (ordF os c) := h.abc _ (List.mem_of_getElem? (h.at hc))
theorem Order.inj {os : Wd} (h : Order os) (c d : Nat) (hc : Abc c) (hd : Abc d) (e : ordF os c = ordF os d) : c = d := by
  have h1 := h.at hc
  have h2 := h.at hd
  rw [e] at h1
  have h3 : c - 97 < os.length := by rw [h.len]; unfold Abc at hc; omega
  have := (List.getElem?_inj h3 h.nodup).mp (h1.trans h2.symm)
  unfold Abc at hc hd
  omega
end KM

set_option Elab.async false
set_option linter.all false
set_option maxRecDepth 100000
set_option maxHeartbeats 4000000
/-! K05: rules the hand layer lacks: dict.update, sorted(text), list(text), tuple[::-1], text[::-1]. -/
namespace K05
open PySem PySem.Spec PyProof.Rows L2
section
variable {X : Cx}
/-- d.update(e), two dicts with int and text keys -/
def rDUpd : V → List V → Hp → VK → Prop := fun x vs H Q => ∃ (a b : Addr) (ks ls : List (Key × V)), x = .ref a ∧ vs = [.ref b] ∧ H a = some (.dK ks) ∧ H b = some (.dK ls) ∧ a ≠ b ∧ ks.length + ls.length ≤ sizeLine ∧ Q .non (upd H a (.dK (mergeK ks ls)))
theorem mt_dupdate : MtR X "dict.update" rDUpd := by
  intro pins s σ H x vs v us Q I rx rv h
  obtain ⟨a, b, ks, ls, rfl, rfl, ea, eb, hne, hz, q⟩ := h
  cases rx
  obtain ⟨u, rfl, ru⟩ := rv.one
  cases ru
  obtain ⟨z1, lo1, vs1, rel1, dd1⟩ := dk_of I.hok ea
  obtain ⟨z2, lo2, vs2, rel2, dd2⟩ := dk_of I.hok eb
  refine call_meetsIn PySem.F.slot_dict_update dd1.typeIs PySem.F.entry_dict_update (PySem.F.args_dict_update_2 _ _) (meets_dict_update (mixKind X.prog X.w) a b hne lo2)
    ⟨vs1, vs2, dd1, dd2, (by rw [← rel1.length, ← rel2.length]; exact hz), fun h' dd' _ hs => ?_⟩
  have he : ∃ q, h'.get? a = some q := let ⟨q, _, _, hq, _⟩ := dd'; ⟨q, hq⟩
  refine ⟨.non, _, d_write (t' := s.toks) I (by rw [ea]; exact True.intro) hs he (dk_new (Nat.le_trans (length_mergeK ls ks) hz) lo1 (KV.merge rel2 rel1) dd'), rfl, q⟩

/-! ### a text's signs -/
/-- one sign as a text -/
abbrev sg (c : Nat) : V := V.str ⟨#[c]⟩
theorem vals_pt : ∀ {xs : List V} {us : List Value}, xs.length = us.length → (∀ (i : Nat) x u, xs[i]? = some x → us[i]? = some u → RelV x u) → Vals xs us
  | [], [], _, _ => .nil
  | [], _ :: _, h, _ => by simp at h
  | _ :: _, [], h, _ => by simp at h
  | x :: xs, u :: us, h, k => .cons (k 0 x u rfl rfl) (vals_pt (by simpa using h) fun i y w e1 e2 => k (i + 1) y w (by simpa using e1) (by simpa using e2))
theorem vals_signs {z : Str} {acc : Array Value} (h : ItemsOf (SignAt z) acc z.cps.size) : Vals (z.cps.toList.map sg) acc.toList := by
  refine vals_pt (by simp [h.1]) fun i x u e1 e2 => ?_
  obtain ⟨c, t, e3, e4⟩ := h.2 i u (by simpa using e2)
  rw [List.getElem?_map, Array.getElem?_toList, e3] at e1
  have e5 : sg c = x := Option.some.inj e1
  subst e5
  exact ⟨t, e4⟩
/-- list(text) -/
theorem call_listTx (hc : X.calm = true) : CallR X (.type "list") (fun xs H Q => ∃ z, xs = [.str z] ∧ z.length ≤ sizeLine ∧ ∀ p, H p = none → Q (.ref p) (upd H p (.lst (z.cps.toList.map sg)))) := by
  intro pins s σ H xs us Q I r h
  obtain ⟨z, rfl, hz, q⟩ := h
  obtain ⟨u, rfl, t, rfl⟩ := vals1 r
  refine PySem.call_list_str (I.ok.hd hc) z t (fun h' tk acc c hk hS hi => ?_) hz
  exact ⟨.ref _, _, I.laid (t' := tk) (o := .lst (z.cps.toList.map sg)) hk (Nat.le_refl _) ⟨by rw [List.length_map, Array.length_toList]; exact hz, acc.toList, c, vals_signs hi, by simpa using hS⟩, rfl, q _ (I.hok.fresh (Nat.le_refl _))⟩
/-- sorted(text) of fewer than 64 signs -/
theorem call_sortedTx (hc : X.calm = true) : CallR X (.builtin "sorted") (fun xs H Q => ∃ z : Str, xs = [.str z] ∧ z.length < 64 ∧ ∀ (ys : List Str) (p : Addr), ys.Perm (z.cps.toList.map fun c => (⟨#[c]⟩ : Str)) → sortedS ys = true → H p = none → Q (.ref p) (upd H p (.lst (ys.map V.str)))) := by
  intro pins s σ H xs us Q I r h
  obtain ⟨z, rfl, h64, q⟩ := h
  obtain ⟨u, rfl, t, rfl⟩ := vals1 r
  refine Calls.call_function_entry PyProof.Rows.kind_sorted PyProof.Rows.plain_sorted PyProof.Rows.entry_sorted (PyProof.Rows.args_sorted1 _) ?_
  unfold Builtin.«sorted»
  refine wpAny_bind (m := checkCount "sorted" 1 1 _) (wpAny_pure ?_)
  have hz : z.cps.size < 64 := h64
  refine wpAny_bind (PySem.wpAny_collect_str (A := X.A.in1) (I.ok.hd hc) z t (fun s' acc hk hg hd ho hi => ?_) (by rw [sizeLine_eq]; omega))
  have hv := vals_signs hi
  have hv' : Vals ((z.cps.toList.map fun c => (⟨#[c]⟩ : Str)).map V.str) acc.toList := by rw [List.map_map]; exact hv
  have hS := hv'.strs
  have hal : acc.toList.length < 64 := by rw [Array.length_toList, hi.1]; exact hz
  have I1 : Inv X pins σ H s' := by
    obtain ⟨h', g', d', t', o'⟩ := s'
    simp only at hg hd ho
    subst hg hd ho
    exact I.kept (t' := t') hk
  refine wpAny_bind (wpAny_newList ?_ (by rw [sizeLine_eq]; omega))
  have hoL : (s'.heap.push (seqObj "list" acc.toList.toArray 0)).get? s'.heap.objs.size = some (seqObj "list" acc.toList.toArray 0) := Heap.get?_push_size _ rfl
  show wpAny _ _ _ _ _ { s' with heap := s'.heap.push (seqObj "list" acc.toList.toArray 0) }
  refine wpAny_bind (wpAny_holding (wpAny_call_entry PyProof.Rows.slot_list_sort ⟨_, hoL, rfl⟩ PyProof.Rows.entry_list_sort
    (list_sort_treeK strKind_oneLt hoL hS.keysOf (fun v₁ v₂ rest e => keyKind_strs (by rw [← e]; exact hS)) hal fun st' hp hs => ⟨_, rfl, ?_⟩) (PyProof.Rows.args_list_sort _)))
  obtain ⟨ys, g1, g2, g3⟩ := sorted_out_str hS hp hs
  obtain ⟨e', he'⟩ := PyProof.Rows.sortedHeap_at (vs := acc.toList) (out := (arrOf st').map (·.2)) hoL
  have hlen : (ys.map V.str).length ≤ sizeLine := by
    rw [List.length_map, g2.length_eq, List.length_map, Array.length_toList]
    exact Nat.le_trans (Nat.le_of_lt hz) (by decide)
  refine wpAny_pure ⟨_, rfl, .ref s'.heap.objs.size, upd H s'.heap.objs.size (.lst (ys.map V.str)), I1.laid (t' := s'.toks) (fun b u e => ?_) (Nat.le_refl _)
    (show ObjOk X.prog X.w _ _ _ (.lst (ys.map V.str)) from ⟨hlen, ((arrOf st').map (·.2)).toList, e', vals_of_strs g1, by rw [Array.toArray_toList]; exact he'⟩), rfl, q ys _ g2 g3 (I1.hok.fresh (Nat.le_refl _))⟩
  have hb : b < s'.heap.objs.size := Heap.lt_size e
  rw [PyProof.Rows.sortedHeap_old (Nat.ne_of_lt hb) (by rw [size_push']; exact Nat.lt_succ_of_lt hb)]
  exact Heap.get?_push_of_some _ e
end

/-! ### t[::-1], s[::-1] -/
theorem places_rev (n : Nat) : Builtin.Slice.slicePlaces ((n : Int) - 1) (-1) (-1) = n := by
  unfold Builtin.Slice.slicePlaces
  have h1 : ¬ ((-1 : Int) > 0) := by omega
  rw [if_neg h1]
  by_cases h : (n : Int) - 1 > -1
  · rw [if_pos h]
    have : (-(-1 : Int)) = 1 := by decide
    rw [this, Int.ediv_one]; omega
  · rw [if_neg h]; omega
theorem adjust_rev (n : Nat) : Builtin.Slice.sliceAdjust none none (-1) (n : Int) = ((n : Int) - 1, -1) := by
  unfold Builtin.Slice.sliceAdjust
  have h1 : (-1 : Int) < 0 := by omega
  simp only [h1, if_true]
theorem pick_rev (xs : Array Value) : ((List.range xs.size).filterMap fun (m : Nat) => xs[(((xs.size : Nat) : Int) - 1 + (m : Int) * -1).toNat]?).toArray = xs.toList.reverse.toArray := by
  have e : (List.range xs.size).filterMap (fun (m : Nat) => xs[(((xs.size : Nat) : Int) - 1 + (m : Int) * -1).toNat]?) = ((List.range xs.size).map fun k => xs.size - 1 - k).filterMap (xs[·]?) := by
    rw [List.filterMap_map]
    congr 1
    funext m
    show _ = xs[xs.size - 1 - m]?
    have : ((((xs.size : Nat) : Int) - 1 + (m : Int) * -1).toNat) = xs.size - 1 - m := by omega
    rw [this]
  rw [e, PySem.W.krv_range, List.filterMap_reverse, PySem.W.krv_all]
section
variable {prog : Program} {w : World} {A : Around} {E : Value → Shared → Prop} {s : Shared}
theorem sliceApplied_rev {sl : Addr} {vs : Value} {n : Nat} {Q : Int × Int × Nat → Shared → Prop} (hs : s.heap.IsSliceOf sl .none .none vs) (ps : IsPart vs (some (-1)))
    (h : Q ((n : Int) - 1, -1, n) s) : wpAny (model prog w) A (Builtin.Slice.sliceApplied (.ref sl) (pure (n : Int))) Q E s := by
  obtain ⟨os, hos, hcs, hds⟩ := id hs
  unfold Builtin.Slice.sliceApplied Builtin.Slice.sliceFields
  refine wpAny_bind (wpAny_bind (wpAny_field hos hds (x := .none) rfl (wpAny_bind (wpAny_field hos hds (x := .none) rfl (wpAny_bind (wpAny_field hos hds (x := vs) rfl (wpAny_pure ?_)))))))
  refine wpAny_bind (HT.slicePart_ ps ?_)
  show wpAny _ _ (if ((-1 : Int) == 0) = true then _ else _) _ _ s
  rw [if_neg (by decide)]
  refine wpAny_bind (HT.slicePart_ .none (wpAny_bind (HT.slicePart_ .none (wpAny_bind (wpAny_pure ?_)))))
  show wpAny _ _ (match Builtin.Slice.sliceAdjust none none (-1) (n : Int) with | (lo, hi) => pure (lo, (-1 : Int), Builtin.Slice.slicePlaces lo hi (-1))) _ _ s
  rw [adjust_rev n]
  show wpAny _ _ (pure ((n : Int) - 1, (-1 : Int), Builtin.Slice.slicePlaces ((n : Int) - 1) (-1) (-1))) _ _ s
  rw [places_rev]
  exact wpAny_pure h
theorem getItem_tuple_rev {t sl : Addr} {items : Array Value} {vs : Value} {Q : Value → Shared → Prop} (ht : IsTup s.heap t items) (hs : s.heap.IsSliceOf sl .none .none vs) (ps : IsPart vs (some (-1)))
    (h : Q (.ref s.heap.objs.size) { s with heap := s.heap.push { cls := .type "tuple", data := .seq items.toList.reverse.toArray } })
    (hsz : items.size ≤ sizeLine) : wpAny (model prog w) A (getItem (.ref t) (.ref sl)) Q E s := by
  have htake : sizeOk (.seq items.toList.reverse.toArray) := by
    show items.toList.reverse.toArray.size ≤ sizeLine
    rw [List.size_toArray, List.length_reverse, Array.length_toList]
    exact hsz
  obtain ⟨os, hos, hcs, hds⟩ := id hs
  have hTs : s.TypeIs (.ref sl) "slice" := ⟨os, hos, hcs⟩
  unfold getItem
  try with_reducible refine wpAny_holding ?_
  first | refine wpAny_bind (wpAny_pure ?_) | skip
  refine wpAny_bind (wpAny_sequenceKey ht.typeIs (by decide) ?_)
  refine wpAny_bind (wpAny_callSpecial?_slot (name := Str.ofString "__getitem__") ht.typeIs PyProof.Rows.slot_tuple_getitem
    (wpAny_call_entry PyProof.Rows.slot_tuple_getitem ht.typeIs entry_tuple_getitem ?_ (args_tuple_getitem _ _)))
  show wpAny _ _ (Builtin.Tuple.tupleItemsOf (.ref t) >>= _) _ _ s
  refine wpAny_bind (tupleItemsOf_ ht ?_)
  refine wpAny_bind (wpAny_typeOf hTs ?_)
  rw [if_pos (by decide)]
  refine wpAny_bind (sliceApplied_rev hs ps ?_)
  have hno : ¬ ((((items.size : Nat) : Int) - 1 == 0 && (-1 : Int) == 1 && items.size == items.size) = true) := by
    intro q
    rw [Bool.and_eq_true, Bool.and_eq_true] at q
    exact absurd q.1.2 (by decide)
  show wpAny _ _ (if (((items.size : Nat) : Int) - 1 == 0 && (-1 : Int) == 1 && items.size == items.size) = true then _ else _) _ _ s
  rw [if_neg hno, pick_rev]
  first
    | exact wpAny_bind (m := Builtin.Tuple.tupleExact _) (wpAny_newObj_type (wpAny_pure ⟨_, rfl, wpAny_pure h⟩) htake)
    | exact wpAny_bind (m := Builtin.Tuple.tupleExact _) (wpAny_newObj_type (wpAny_bind (wpAny_pure (wpAny_pure ⟨_, rfl, wpAny_pure h⟩))) htake)
    | exact wpAny_bind (wpAny_bind (m := Builtin.Tuple.tupleExact _) (wpAny_newObj_type (wpAny_pure (wpAny_pure ⟨_, rfl, wpAny_pure h⟩)) htake))
    | exact wpAny_bind (wpAny_bind (m := Builtin.Tuple.tupleExact _) (wpAny_newObj_type (wpAny_pure ⟨_, rfl, wpAny_pure h⟩) htake))
end
theorem slice_rev (z : Str) : (Builtin.Str.strSliceIndices none none (-1) z.length).filterMap (z.cps[·]?) = z.cps.toList.reverse := by
  have e : Builtin.Str.strSliceIndices none none (-1) z.length = (List.range z.cps.size).reverse := by
    unfold Builtin.Str.strSliceIndices
    have h1 : ¬ ((-1 : Int) > 0) := by omega
    simp only [h1, if_false]
    show sliceRange (((z.cps.size : Nat) : Int) - 1) (-1) (-1) = _
    rw [PySem.W.krv_sliceRange, PySem.W.krv_range]
  rw [e, List.filterMap_reverse, PySem.W.krv_all]
section
variable {X : Cx}
/-- t[::-1] of a tuple: a new one -/
def tRevT (K : PySem.W.Frag) (te : TE) : TE := fun σ H Q => te σ H fun x H1 => ∃ a xs, x = .ref a ∧ SqT K H1 a xs ∧ ∀ p, H1 p = none → Q (.ref p) (upd H1 p (.tup xs.reverse))
theorem pe_revT {e : Expr} {te : TE} {k : Nat} {p1 p2 p3 pos : Pos} (he : PE X e te) : PE X (.Subscript e (.Slice none none (some (.UnaryOp .USub (.Constant (.int 1) k p1) p2)) p3) pos) (tRevT X.K te) := by
  refine ⟨fun pins s σ H Q I h => ?_⟩
  refine Subscript_ (thn (he.run pins s σ H _ I h) fun v s1 ⟨x, H1, I1, r1, q1⟩ => ?_)
  obtain ⟨a, xs, ex, hx, q⟩ := q1
  subst ex
  cases r1
  have hst : PO X (some (.UnaryOp .USub (.Constant (.int 1) k p1) p2)) (tPart (tUn (rU fun i => .int (-i)) (tC (.int 1)))) := po_some (pe_un un_neg pe_int)
  refine wpAny_Slice (thn (po_none.run pins s1 σ H1 (fun o H2 => o = none ∧ H2 = H1) I1 ⟨rfl, rfl⟩) fun vl s2 ⟨l, H2, I2, pl, el, e2⟩ => ?_)
  subst el e2
  refine thn (po_none.run pins s2 σ H2 (fun o H3 => o = none ∧ H3 = H2) I2 ⟨rfl, rfl⟩) fun vu s3 ⟨u, H3, I3, pu, eu, e3⟩ => ?_
  subst eu e3
  refine thn (hst.run pins s3 σ H3 (fun o H4 => o = some (-1) ∧ H4 = H3) I3 ⟨1, rfl, -1, rfl, rfl, rfl⟩) fun vs s4 ⟨o, H4, I4, ps, eo, e4⟩ => ?_
  subst eo e4
  cases pl
  cases pu
  have I5 : Inv X pins σ H4 { s4 with heap := s4.heap.push { cls := .type "slice", data := .fields #[.none, .none, vs] } } := I4.kept (t' := s4.toks) fun b ob q => Heap.get?_push_of_some _ q
  obtain ⟨its, r, ht, hz⟩ := I5.tuple hx
  have hlen := r.length
  show wpAny (model X.prog X.w) X.A (subscriptTail e (.Slice none none (some (.UnaryOp .USub (.Constant (.int 1) k p1) p2)) p3) (.ref a) (.ref s4.heap.objs.size)) (EP X pins σ Q) X.xe { s4 with heap := s4.heap.push { cls := .type "slice", data := .fields #[.none, .none, vs] } }
  refine tail_any (ops := [.ref a, .ref s4.heap.objs.size]) ht.typeIs (PyProof.Rows.slot_tuple_getitem.lookup) ?_ (by with_unfolding_all rfl)
  refine getItem_tuple_rev ht (Heap.IsSliceOf.new _ _ _ vs) ps ?_ (by rw [List.size_toArray]; omega)
  refine ⟨.ref _, _, I5.laid (t' := s4.toks) (o := .tup xs.reverse) (fun b ob q => Heap.get?_push_of_some _ q) (Nat.le_refl _) ?_, rfl, q _ (I5.hok.fresh (Nat.le_refl _))⟩
  exact ⟨by rw [List.length_reverse]; exact hz, _, r.reverse, IsTup.new _ _⟩
/-- s[::-1] of a text -/
def tRevS (te : TE) : TE := fun σ H Q => te σ H fun x H1 => ∃ z, x = .str z ∧ z.length ≤ sizeLine ∧ Q (.str ⟨z.cps.toList.reverse.toArray⟩) H1
theorem pe_revS {e : Expr} {te : TE} {k : Nat} {p1 p2 p3 pos : Pos} (he : PE X e te) : PE X (.Subscript e (.Slice none none (some (.UnaryOp .USub (.Constant (.int 1) k p1) p2)) p3) pos) (tRevS te) := by
  refine ⟨fun pins s σ H Q I h => ?_⟩
  refine Subscript_ (thn (he.run pins s σ H _ I h) fun v s1 ⟨x, H1, I1, r1, q1⟩ => ?_)
  obtain ⟨z, ex, hz, q⟩ := q1
  subst ex
  obtain ⟨t, rfl⟩ := r1
  have hst : PO X (some (.UnaryOp .USub (.Constant (.int 1) k p1) p2)) (tPart (tUn (rU fun i => .int (-i)) (tC (.int 1)))) := po_some (pe_un un_neg pe_int)
  refine wpAny_Slice (thn (po_none.run pins s1 σ H1 (fun o H2 => o = none ∧ H2 = H1) I1 ⟨rfl, rfl⟩) fun vl s2 ⟨l, H2, I2, pl, el, e2⟩ => ?_)
  subst el e2
  refine thn (po_none.run pins s2 σ H2 (fun o H3 => o = none ∧ H3 = H2) I2 ⟨rfl, rfl⟩) fun vu s3 ⟨u, H3, I3, pu, eu, e3⟩ => ?_
  subst eu e3
  refine thn (hst.run pins s3 σ H3 (fun o H4 => o = some (-1) ∧ H4 = H3) I3 ⟨1, rfl, -1, rfl, rfl, rfl⟩) fun vs s4 ⟨o, H4, I4, ps, eo, e4⟩ => ?_
  subst eo e4
  cases pl
  cases pu
  obtain ⟨i, t1⟩ : ∃ t1, vs = Value.int (-1) t1 := by cases ps; exact ⟨_, rfl⟩
  subst t1
  have I5 : Inv X pins σ H4 { s4 with heap := s4.heap.push { cls := .type "slice", data := .fields #[.none, .none, .int (-1) i] } } := I4.kept (t' := s4.toks) fun b ob q => Heap.get?_push_of_some _ q
  show wpAny (model X.prog X.w) X.A (subscriptTail e (.Slice none none (some (.UnaryOp .USub (.Constant (.int 1) k p1) p2)) p3) (.str z t) (.ref s4.heap.objs.size)) (EP X pins σ Q) X.xe { s4 with heap := s4.heap.push { cls := .type "slice", data := .fields #[.none, .none, .int (-1) i] } }
  refine tail_any (ops := [.str z t, .ref s4.heap.objs.size]) (typeIs_str _ _ _) F.slot_str_getitem.lookup ?_ (by with_unfolding_all rfl)
  refine wpAny_getItem_str_slice (l := none) (u := none) (st := some (-1, i)) ⟨_, Heap.get?_push_size _ rfl, rfl, rfl⟩ rfl ?_
  show Made.post (if ((-1 : Int) == 1 && (Builtin.Str.strSliceIndices none none (-1) z.length).length == z.length) = true then Made.val (.str z t)
    else Made.str ⟨((Builtin.Str.strSliceIndices none none (-1) z.length).filterMap (z.cps[·]?)).toArray⟩) (EP X pins σ Q) _
  rw [if_neg (by rw [show ((-1 : Int) == 1) = false from rfl, Bool.false_and]; exact Bool.false_ne_true), slice_rev]
  refine ⟨?_, .str _, H4, I5.tok _, ⟨_, rfl⟩, q⟩
  show (z.cps.toList.reverse.toArray).size ≤ sizeLine
  rw [List.size_toArray, List.length_reverse, Array.length_toList]
  exact hz
end
end K05

set_option Elab.async false
set_option linter.all false
set_option maxRecDepth 100000
set_option maxHeartbeats 4000000
/-! K05: the text by places; what the top binds; expressions on the heap. -/
namespace K05
open PySem PySem.Spec PyProof.Rows L2 KM
/-! ### the text -/
def topS (i : Nat) : Stmt := PySem.Challenge.pw_nodoubt_k05_whole_turned_and_renamed.main.body.getD i (.Pass ⟨0, 0, 0, 0⟩)

abbrev s_is_leaf : Stmt := topS 11
theorem sc_is_leaf : FnScope ["value"] ["value"] (defScope s_is_leaf) := ⟨rfl, rfl, rfl, by decide +kernel, rfl, by decide +kernel, by decide +kernel⟩
abbrev s_has_form : Stmt := topS 12
theorem sc_has_form : FnScope ["value", "outer", "deep", "part"] ["value", "outer", "deep"] (defScope s_has_form) := ⟨rfl, rfl, rfl, by decide +kernel, rfl, by decide +kernel, by decide +kernel⟩
abbrev s_parts_of : Stmt := topS 13
theorem sc_parts_of : FnScope ["expression"] ["expression"] (defScope s_parts_of) := ⟨rfl, rfl, rfl, by decide +kernel, rfl, by decide +kernel, by decide +kernel⟩
abbrev s_letters_of : Stmt := topS 14
theorem sc_letters_of : FnScope ["expression", "part"] ["expression"] (defScope s_letters_of) := ⟨rfl, rfl, rfl, by decide +kernel, rfl, by decide +kernel, by decide +kernel⟩
abbrev s_count_of : Stmt := topS 15
theorem sc_count_of : FnScope ["expression", "part"] ["expression"] (defScope s_count_of) := ⟨rfl, rfl, rfl, by decide +kernel, rfl, by decide +kernel, by decide +kernel⟩
abbrev s_is_long : Stmt := topS 16
theorem sc_is_long : FnScope ["value"] ["value"] (defScope s_is_long) := ⟨rfl, rfl, rfl, by decide +kernel, rfl, by decide +kernel, by decide +kernel⟩
abbrev s_is_word : Stmt := topS 17
theorem sc_is_word : FnScope ["value", "letter"] ["value"] (defScope s_is_word) := ⟨rfl, rfl, rfl, by decide +kernel, rfl, by decide +kernel, by decide +kernel⟩
abbrev s_check_long : Stmt := topS 18
theorem sc_check_long : FnScope ["value"] ["value"] (defScope s_check_long) := ⟨rfl, rfl, rfl, by decide +kernel, rfl, by decide +kernel, by decide +kernel⟩
abbrev s_check_word : Stmt := topS 19
theorem sc_check_word : FnScope ["word"] ["word"] (defScope s_check_word) := ⟨rfl, rfl, rfl, by decide +kernel, rfl, by decide +kernel, by decide +kernel⟩
abbrev s_ends_in : Stmt := topS 20
theorem sc_ends_in : FnScope ["expression", "word", "starts", "here", "part", "found", "fresh", "at"] ["expression", "word", "starts"] (defScope s_ends_in) := ⟨rfl, rfl, rfl, by decide +kernel, rfl, by decide +kernel, by decide +kernel⟩
abbrev s_is_matched : Stmt := topS 21
theorem sc_is_matched : FnScope ["expression", "word"] ["expression", "word"] (defScope s_is_matched) := ⟨rfl, rfl, rfl, by decide +kernel, rfl, by decide +kernel, by decide +kernel⟩
abbrev s_matches : Stmt := topS 22
theorem sc_matches : FnScope ["expression", "word"] ["expression", "word"] (defScope s_matches) := ⟨rfl, rfl, rfl, by decide +kernel, rfl, by decide +kernel, by decide +kernel⟩
abbrev s_turn : Stmt := topS 24
theorem sc_turn : FnScope ["expression", "part"] ["expression"] (defScope s_turn) := ⟨rfl, rfl, rfl, by decide +kernel, rfl, by decide +kernel, by decide +kernel⟩
abbrev s_turned : Stmt := topS 25
theorem sc_turned : FnScope ["expression"] ["expression"] (defScope s_turned) := ⟨rfl, rfl, rfl, by decide +kernel, rfl, by decide +kernel, by decide +kernel⟩
abbrev s_rename : Stmt := topS 26
theorem sc_rename : FnScope ["expression", "order", "letter", "part"] ["expression", "order"] (defScope s_rename) := ⟨rfl, rfl, rfl, by decide +kernel, rfl, by decide +kernel, by decide +kernel⟩
abbrev s_renamed : Stmt := topS 27
theorem sc_renamed : FnScope ["expression", "order"] ["expression", "order"] (defScope s_renamed) := ⟨rfl, rfl, rfl, by decide +kernel, rfl, by decide +kernel, by decide +kernel⟩
abbrev s_l_stream : Stmt := topS 29
theorem sc_l_stream : FnScope ["_law_script"] ["_law_script"] (defScope s_l_stream) := ⟨rfl, rfl, rfl, by decide +kernel, rfl, by decide +kernel, by decide +kernel⟩
abbrev s_l_next : Stmt := topS 30
theorem sc_l_next : FnScope ["_law_stream_here", "_law_many", "_law_k", "_law_cell", "_law_digit"] ["_law_stream_here", "_law_many"] (defScope s_l_next) := ⟨rfl, rfl, rfl, by decide +kernel, rfl, by decide +kernel, by decide +kernel⟩
abbrev s_l_is_integer : Stmt := topS 31
theorem sc_l_is_integer : FnScope ["_law_actual"] ["_law_actual"] (defScope s_l_is_integer) := ⟨rfl, rfl, rfl, by decide +kernel, rfl, by decide +kernel, by decide +kernel⟩
abbrev s_l_equal : Stmt := topS 32
theorem sc_l_equal : FnScope ["_law_actual", "_law_due", "_law_at"] ["_law_actual", "_law_due"] (defScope s_l_equal) := ⟨rfl, rfl, rfl, by decide +kernel, rfl, by decide +kernel, by decide +kernel⟩
abbrev s_l_pick : Stmt := topS 33
theorem sc_l_pick : FnScope ["_law_stream_here", "_law_rows"] ["_law_stream_here", "_law_rows"] (defScope s_l_pick) := ⟨rfl, rfl, rfl, by decide +kernel, rfl, by decide +kernel, by decide +kernel⟩
abbrev s_l_grown : Stmt := topS 34
theorem sc_l_grown : FnScope ["_law_stream_here", "_law_letters_here", "_law_room", "_law_deep", "_law_outer", "_law_pick_here", "_law_word", "_law_many", "_law_left", "_law_parts", "_law_k", "_law_share"] ["_law_stream_here", "_law_letters_here", "_law_room", "_law_deep", "_law_outer"] (defScope s_l_grown) := ⟨rfl, rfl, rfl, by decide +kernel, rfl, by decide +kernel, by decide +kernel⟩
abbrev s_l_expression : Stmt := topS 35
theorem sc_l_expression : FnScope ["_law_stream_here", "_law_most", "_law_letters_here"] ["_law_stream_here", "_law_most"] (defScope s_l_expression) := ⟨rfl, rfl, rfl, by decide +kernel, rfl, by decide +kernel, by decide +kernel⟩
abbrev s_l_inside : Stmt := topS 36
theorem sc_l_inside : FnScope ["_law_expression_here"] ["_law_expression_here"] (defScope s_l_inside) := ⟨rfl, rfl, rfl, by decide +kernel, rfl, by decide +kernel, by decide +kernel⟩
abbrev s_l_letters : Stmt := topS 37
theorem sc_l_letters : FnScope ["_law_expression_here", "_law_part"] ["_law_expression_here"] (defScope s_l_letters) := ⟨rfl, rfl, rfl, by decide +kernel, rfl, by decide +kernel, by decide +kernel⟩
abbrev s_l_joined : Stmt := topS 38
theorem sc_l_joined : FnScope ["_law_first", "_law_second", "_law_most", "_law_found", "_law_one", "_law_other"] ["_law_first", "_law_second", "_law_most"] (defScope s_l_joined) := ⟨rfl, rfl, rfl, by decide +kernel, rfl, by decide +kernel, by decide +kernel⟩
abbrev s_l_once : Stmt := topS 39
theorem sc_l_once : FnScope ["_law_rows", "_law_seen", "_law_row"] ["_law_rows"] (defScope s_l_once) := ⟨rfl, rfl, rfl, by decide +kernel, rfl, by decide +kernel, by decide +kernel⟩
abbrev s_l_words : Stmt := topS 40
theorem sc_l_words : FnScope ["_law_expression_here", "_law_most", "_law_rows", "_law_found", "_law_row", "_law_turn", "_law_part"] ["_law_expression_here", "_law_most"] (defScope s_l_words) := ⟨rfl, rfl, rfl, by decide +kernel, rfl, by decide +kernel, by decide +kernel⟩
abbrev s_l_all_words : Stmt := topS 41
theorem sc_l_all_words : FnScope ["_law_letters_here", "_law_most", "_law_found", "_law_layer", "_law_turn", "_law_longer", "_law_word", "_law_letter"] ["_law_letters_here", "_law_most"] (defScope s_l_all_words) := ⟨rfl, rfl, rfl, by decide +kernel, rfl, by decide +kernel, by decide +kernel⟩
abbrev s_l_turned : Stmt := topS 42
theorem sc_l_turned : FnScope ["_law_expression_here", "_law_parts", "_law_part"] ["_law_expression_here"] (defScope s_l_turned) := ⟨rfl, rfl, rfl, by decide +kernel, rfl, by decide +kernel, by decide +kernel⟩
abbrev s_l_renamed : Stmt := topS 43
theorem sc_l_renamed : FnScope ["_law_expression_here", "_law_order", "_law_parts", "_law_part"] ["_law_expression_here", "_law_order"] (defScope s_l_renamed) := ⟨rfl, rfl, rfl, by decide +kernel, rfl, by decide +kernel, by decide +kernel⟩
abbrev s_law : Stmt := topS 44
theorem sc_law : FnScope ["_law_script", "_law_stream_here", "_law_expression_here", "_law_left", "_law_order", "_law_due", "_law_letters_here", "_law_most", "_law_words_here", "_law_word", "_law_moved", "_law_k", "_law_letter"] ["_law_script"] (defScope s_law) := ⟨rfl, rfl, rfl, by decide +kernel, rfl, by decide +kernel, by decide +kernel⟩

/-! ### a def as it stands behind the top -/
structure Df (K : PySem.W.Frag) (mg : Str → Option Value) (name : Str) (st : Stmt) (ps : List Str) where
  f : Addr
  fd : FuncData
  F : Fun K name name st f fd
  m : mg name = some (.ref f)
  b : Binds K fd ps []
theorem pe_d {X : Cx} {name : Str} {st : Stmt} {ps : List Str} (d : Df X.K X.mg name st ps) {j : Nat} {sp : Sp} {e : Expr} {es : List Expr} {t : TA} {p pos : Pos} (G : FnOk X.prog X.w X.K X.mg X.base CX0 j d.f d.fd ps sp) (hr : Room j X.A) (hg : Gl X name)
    (ha : PA X (e :: es) t) (hdb : (name == ("__debug__" : Str)) = false := by decide) (he : starEach (e :: es) X.env = (false, eval e X.env) :: starEach es X.env := by rfl) (hpl : (backTo pos (starEach es X.env)).any (·.1) = false := by rfl) :
    PE X (.Call (.Name name p) (e :: es) [] pos) (tCall sp [] E0 t) := pe_call G hr hg d.m d.F.kp d.b .nil pass0 ha hdb he hpl
/-- what the top binds -/
structure Prog (K : PySem.W.Frag) (mg : Str → Option Value) where
  z_isinstance : mg "isinstance" = none
  z_str : mg "str" = none
  z_tuple : mg "tuple" = none
  z_len : mg "len" = none
  z_all : mg "all" = none
  z_sum : mg "sum" = none
  z_sorted : mg "sorted" = none
  z_list : mg "list" = none
  z_abs : mg "abs" = none
  z_int : mg "int" = none
  z_bool : mg "bool" = none
  z_range : mg "range" = none
  c_LETTERS : ∃ t, mg "LETTERS" = some (.str "abcd" t)
  c_LONGEST : ∃ t, mg "LONGEST_WORD" = some (.int 24 t)
  c_LETTERS_LONG : ∃ t, mg "MOST_LONG_LETTERS" = some (.int 40 t)
  c_DEEPEST : ∃ t, mg "DEEPEST_LONG" = some (.int 40 t)
  c_PARTS : ∃ t, mg "MOST_LONG_PARTS" = some (.int 200 t)
  c_ROWS : ∃ a, mg "ROWS" = some (.ref a) ∧ ∀ H, SqT K H a [.str "join", .str "or"]
  c_SINGLES : ∃ a, mg "SINGLES" = some (.ref a) ∧ ∀ H, SqT K H a [.str "maybe", .str "many"]
  d_is_leaf : Df K mg "is_leaf" s_is_leaf ["value"]
  d_has_form : Df K mg "has_form" s_has_form ["value", "outer", "deep"]
  d_parts_of : Df K mg "parts_of" s_parts_of ["expression"]
  d_letters_of : Df K mg "letters_of" s_letters_of ["expression"]
  d_count_of : Df K mg "count_of" s_count_of ["expression"]
  d_is_long : Df K mg "is_long" s_is_long ["value"]
  d_is_word : Df K mg "is_word" s_is_word ["value"]
  d_check_long : Df K mg "check_long" s_check_long ["value"]
  d_check_word : Df K mg "check_word" s_check_word ["word"]
  d_ends_in : Df K mg "ends_in" s_ends_in ["expression", "word", "starts"]
  d_is_matched : Df K mg "is_matched" s_is_matched ["expression", "word"]
  d_matches : Df K mg "matches" s_matches ["expression", "word"]
  d_turn : Df K mg "turn" s_turn ["expression"]
  d_turned : Df K mg "turned" s_turned ["expression"]
  d_rename : Df K mg "rename" s_rename ["expression", "order"]
  d_renamed : Df K mg "renamed" s_renamed ["expression", "order"]
  d_l_stream : Df K mg "_law_stream" s_l_stream ["_law_script"]
  d_l_next : Df K mg "_law_next" s_l_next ["_law_stream_here", "_law_many"]
  d_l_equal : Df K mg "_law_equal" s_l_equal ["_law_actual", "_law_due"]
  d_l_pick : Df K mg "_law_pick" s_l_pick ["_law_stream_here", "_law_rows"]
  d_l_grown : Df K mg "_law_grown" s_l_grown ["_law_stream_here", "_law_letters_here", "_law_room", "_law_deep", "_law_outer"]
  d_l_expression : Df K mg "_law_expression" s_l_expression ["_law_stream_here", "_law_most"]
  d_l_inside : Df K mg "_law_inside" s_l_inside ["_law_expression_here"]
  d_l_letters : Df K mg "_law_letters" s_l_letters ["_law_expression_here"]
  d_l_joined : Df K mg "_law_joined" s_l_joined ["_law_first", "_law_second", "_law_most"]
  d_l_once : Df K mg "_law_once" s_l_once ["_law_rows"]
  d_l_words : Df K mg "_law_words" s_l_words ["_law_expression_here", "_law_most"]
  d_l_all_words : Df K mg "_law_all_words" s_l_all_words ["_law_letters_here", "_law_most"]
  d_l_turned : Df K mg "_law_turned" s_l_turned ["_law_expression_here"]
  d_l_renamed : Df K mg "_law_renamed" s_l_renamed ["_law_expression_here", "_law_order"]
  d_law : Df K mg "law" s_law ["_law_script"]

section
variable {X : Cx} {pos : Pos}
theorem pe_gs {x : Str} {z : Str} (h : ∃ t, X.mg x = some (.str z t)) (hg : Gl X x) (hd : (x == ("__debug__" : Str)) = false := by decide) : PE X (.Name x pos) (tC (.str z)) := by
  obtain ⟨t, e⟩ := h
  exact pe_glob hg e ⟨t, rfl⟩ hd
theorem pe_gi {x : Str} {i : Int} (h : ∃ t, X.mg x = some (.int i t)) (hg : Gl X x) (hd : (x == ("__debug__" : Str)) = false := by decide) : PE X (.Name x pos) (tC (.int i)) := by
  obtain ⟨t, e⟩ := h
  exact pe_glob hg e ⟨t, rfl⟩ hd
/-- a tuple of the top -/
def tGt (K : PySem.W.Frag) (vs : List V) : TE := fun _ H Q => ∀ a, (∀ H, SqT K H a vs) → Q (.ref a) H
theorem pe_gt {x : Str} {vs : List V} (h : ∃ a, X.mg x = some (.ref a) ∧ ∀ H, SqT X.K H a vs) (hg : Gl X x) (hd : (x == ("__debug__" : Str)) = false := by decide) : PE X (.Name x pos) (tGt X.K vs) := by
  obtain ⟨a, e, k⟩ := h
  refine ⟨fun pins s σ H Q I q => ?_⟩
  exact (pe_glob (v := .ref a) hg e rfl hd).run pins s σ H Q I (q a k)
end

/-! ### texts -/
abbrev T (l : List Nat) : Str := ⟨l.toArray⟩
theorem T_of (z : Str) : T z.cps.toList = z := by cases z; rfl
theorem T_inj {l m : List Nat} (h : T l = T m) : l = m := by
  have := congrArg (fun z : Str => z.cps.toList) h
  simpa using this
theorem T_cps (l : List Nat) : (T l).cps.toList = l := by simp
theorem T_len (l : List Nat) : (T l).length = l.length := by show l.toArray.size = _; simp
theorem T_app (l m : List Nat) : T l ++ T m = T (l ++ m) := by
  show (⟨l.toArray ++ m.toArray⟩ : Str) = _
  simp
theorem T_nil : ("" : Str) = T [] := by decide +kernel
theorem T_abcd : ("abcd" : Str) = T [97, 98, 99, 100] := by decide +kernel
theorem T_ab : ("ab" : Str) = T [97, 98] := by decide +kernel
theorem sg_T (c : Nat) : sg c = V.str (T [c]) := rfl

/-! ### heaps -/
theorem same_upd {H : Hp} {p : Addr} {o : HO} (h : H p = none) : Same H (upd H p o) := fun b x e => by
  rw [upd_ne (ne_of_none e h)]
  exact e
/-- all but what stands at a is kept -/
def But (a : Addr) (H H' : Hp) : Prop := ∀ b o, b ≠ a → H b = some o → H' b = some o
theorem Same.but {H H' : Hp} (h : Same H H') (a : Addr) : But a H H' := fun b o _ e => h b o e
theorem But.trans {a : Addr} {H H1 H2 : Hp} (h : But a H H1) (k : But a H1 H2) : But a H H2 := fun b o n e => k b o n (h b o n e)
theorem But.upd (a : Addr) (H : Hp) (o : HO) : But a H (upd H a o) := fun b u n e => by rw [upd_ne n]; exact e
theorem But.same {a : Addr} {H H1 H2 : Hp} (h : Same H H1) (k : But a H1 H2) (n : H a = none) : Same H H2 := fun b o e => k b o (fun z => by rw [z, n] at e; cases e) (h b o e)
/-- the tuples are kept -/
def Tups (H H' : Hp) : Prop := ∀ b xs, H b = some (.tup xs) → H' b = some (.tup xs)
theorem Same.tups {H H' : Hp} (h : Same H H') : Tups H H' := fun b _ e => h b _ e
theorem Tups.trans {H H1 H2 : Hp} (h : Tups H H1) (k : Tups H1 H2) : Tups H H2 := fun b xs e => k b xs (h b xs e)
theorem But.tups {a : Addr} {H H' : Hp} {xs : List V} (h : But a H H') (e : H a = some (.lst xs)) : Tups H H' := fun b ys q => h b _ (fun z => by rw [z, e] at q; cases q) q

/-! ### an expression on the heap -/
def rwd (j : Bool) : Str := if j then "join" else "or"
def owd (m : Bool) : Str := if m then "many" else "maybe"
mutual
def Rep (H : Hp) : Ex → V → Prop
  | .leaf w, v => v = .str (T w)
  | .row j ps, v => ∃ a b vs, v = .ref a ∧ H a = some (.tup [.str (rwd j), .ref b]) ∧ H b = some (.tup vs) ∧ Reps H ps vs
  | .one m p, v => ∃ a u, v = .ref a ∧ H a = some (.tup [.str (owd m), u]) ∧ Rep H p u
def Reps (H : Hp) : List Ex → List V → Prop
  | [], vs => vs = []
  | p :: ps, vs => ∃ u us, vs = u :: us ∧ Rep H p u ∧ Reps H ps us
end
theorem reps_iff {H : Hp} {ps : List Ex} {vs : List V} : Reps H ps vs ↔ vs.length = ps.length ∧ ∀ (i : Nat) (p : Ex) (u : V), ps[i]? = some p → vs[i]? = some u → Rep H p u := by
  induction ps generalizing vs with
  | nil =>
    rw [Reps]
    constructor
    · rintro rfl; exact ⟨rfl, fun i p u e => by simp at e⟩
    · rintro ⟨h, _⟩; exact List.length_eq_zero_iff.mp (by simpa using h)
  | cons q r ih =>
    rw [Reps]
    constructor
    · rintro ⟨u, us, rfl, h1, h2⟩
      obtain ⟨h3, h4⟩ := ih.mp h2
      refine ⟨by rw [List.length_cons, List.length_cons, h3], fun i p w e1 e2 => ?_⟩
      cases i with
      | zero =>
        have e1' : q = p := Option.some.inj e1
        have e2' : u = w := Option.some.inj e2
        subst e1' e2'
        exact h1
      | succ i => exact h4 i p w (by simpa using e1) (by simpa using e2)
    · rintro ⟨h1, h2⟩
      cases vs with
      | nil => simp at h1
      | cons u us =>
        exact ⟨u, us, rfl, h2 0 q u rfl rfl, ih.mpr ⟨by simpa using h1, fun i p w e1 e2 => h2 (i + 1) p w (by simpa using e1) (by simpa using e2)⟩⟩
theorem rep_mono {H H' : Hp} (t : Tups H H') (e : Ex) : ∀ v, Rep H e v → Rep H' e v := by
  induction e using Ex.ind with
  | hl w => intro v h; rw [Rep] at h ⊢; exact h
  | ho m p ih =>
    intro v h
    rw [Rep] at h ⊢
    obtain ⟨a, u, rfl, e, k⟩ := h
    exact ⟨a, u, rfl, t _ _ e, ih u k⟩
  | hr j ps ih =>
    intro v h
    rw [Rep] at h ⊢
    obtain ⟨a, b, vs, rfl, e1, e2, k⟩ := h
    obtain ⟨k1, k2⟩ := reps_iff.mp k
    exact ⟨a, b, vs, rfl, t _ _ e1, t _ _ e2, reps_iff.mpr ⟨k1, fun i p u e3 e4 => ih p (List.mem_of_getElem? e3) u (k2 i p u e3 e4)⟩⟩
theorem reps_mono {H H' : Hp} (t : Tups H H') {ps : List Ex} {vs : List V} (h : Reps H ps vs) : Reps H' ps vs := by
  obtain ⟨k1, k2⟩ := reps_iff.mp h
  exact reps_iff.mpr ⟨k1, fun i p u e3 e4 => rep_mono t p u (k2 i p u e3 e4)⟩
theorem reps_len {H : Hp} {ps : List Ex} {vs : List V} (h : Reps H ps vs) : vs.length = ps.length := (reps_iff.mp h).1
theorem reps_get {H : Hp} {ps : List Ex} {vs : List V} (h : Reps H ps vs) {i : Nat} {u : V} (e : vs[i]? = some u) : ∃ p, ps[i]? = some p ∧ Rep H p u := by
  obtain ⟨k1, k2⟩ := reps_iff.mp h
  have hi : i < vs.length := (List.getElem?_eq_some_iff.mp e).1
  have hp : ps[i]? = some (ps[i]'(by omega)) := List.getElem?_eq_getElem (by omega)
  exact ⟨_, hp, k2 i _ u hp e⟩
theorem rep_leaf {H : Hp} {w : Wd} {v : V} : Rep H (.leaf w) v ↔ v = .str (T w) := by rw [Rep]
theorem rep_row {H : Hp} {j : Bool} {ps : List Ex} {v : V} : Rep H (.row j ps) v ↔ ∃ a b vs, v = .ref a ∧ H a = some (.tup [.str (rwd j), .ref b]) ∧ H b = some (.tup vs) ∧ Reps H ps vs := by rw [Rep]
theorem rep_one {H : Hp} {m : Bool} {p : Ex} {v : V} : Rep H (.one m p) v ↔ ∃ a u, v = .ref a ∧ H a = some (.tup [.str (owd m), u]) ∧ Rep H p u := by rw [Rep]
theorem rep_ref {H : Hp} {e : Ex} {v : V} (h : Rep H e v) (n : ∀ w, e ≠ .leaf w) : ∃ a z u, v = .ref a ∧ H a = some (.tup [.str z, u]) := by
  cases e with
  | leaf w => exact absurd rfl (n w)
  | row j ps => obtain ⟨a, b, vs, e1, e2, _⟩ := rep_row.mp h; exact ⟨a, _, _, e1, e2⟩
  | one m p => obtain ⟨a, u, e1, e2, _⟩ := rep_one.mp h; exact ⟨a, _, _, e1, e2⟩
end K05

set_option Elab.async false
set_option linter.all false
set_option maxRecDepth 100000
set_option maxHeartbeats 4000000
/-! K05: comprehensions over what stays, and loops over it, by plain lists. -/
namespace K05
open PySem PySem.Spec PyProof.Rows L2 KM
/-- it walks over as, item by item, while G stands -/
abbrev WalkA {α : Type} (J : It) (as : List α) (enc : α → V) (G : Hp → Prop) : Prop := Walk J as.length G (fun i H x H' => H' = H ∧ ∃ a, as[i]? = some a ∧ x = enc a)
theorem wa_list {α : Type} {K : PySem.W.Frag} {p : Addr} {as : List α} {enc : α → V} : WalkA (Itl K p) as enc (fun H => SqL K H p (as.map enc)) := by
  have w := walk_list (K := K) (a := p) (xs := as.map enc)
  rw [List.length_map] at w
  exact w.mono (fun _ h => h) fun i H x H' _ _ y => by
    obtain ⟨e, y⟩ := y
    rw [List.getElem?_map] at y
    obtain ⟨a, e1, e2⟩ := Option.map_eq_some_iff.mp y
    exact ⟨e, a, e1, e2.symm⟩
theorem wa_tup {α : Type} {K : PySem.W.Frag} {p : Addr} {as : List α} {enc : α → V} : WalkA (Itt K p) as enc (fun H => SqT K H p (as.map enc)) := by
  have w := walk_tup (K := K) (a := p) (xs := as.map enc)
  rw [List.length_map] at w
  exact w.mono (fun _ h => h) fun i H x H' _ _ y => by
    obtain ⟨e, y⟩ := y
    rw [List.getElem?_map] at y
    obtain ⟨a, e1, e2⟩ := Option.map_eq_some_iff.mp y
    exact ⟨e, a, e1, e2.symm⟩
theorem wa_tupV {K : PySem.W.Frag} {p : Addr} {xs : List V} : WalkA (Itt K p) xs id (fun H => SqT K H p xs) :=
  walk_tup.mono (fun _ h => h) fun i H x H' _ _ y => ⟨y.1, x, y.2, rfl⟩
theorem wa_listV {K : PySem.W.Frag} {p : Addr} {xs : List V} : WalkA (Itl K p) xs id (fun H => SqL K H p xs) :=
  walk_list.mono (fun _ h => h) fun i H x H' _ _ y => ⟨y.1, x, y.2, rfl⟩
theorem wa_str {l : List Nat} : WalkA (Its (T l)) l sg (fun _ => True) := by
  have w := walk_str (z := T l)
  have e : (T l).cps.size = l.length := by simp
  rw [e] at w
  exact w.mono (fun _ h => h) fun i H x H' _ _ y => by
    obtain ⟨e1, c, e2, e3⟩ := y
    exact ⟨e1, c, by simpa using e2, e3⟩
theorem wa_range {n : Nat} : WalkA (Itr 0 n) (List.range n) (fun i => V.int (i : Nat)) (fun _ => True) := by
  have w := walk_range (lo := 0) (n := n)
  rw [← List.length_range (n := n)] at w
  rw [List.length_range] at w
  show Walk (Itr 0 n) (List.range n).length _ _
  rw [List.length_range]
  exact w.mono (fun _ h => h) fun i H x H' hi _ y => ⟨y.1, i, by rw [List.getElem?_range hi], by rw [y.2]; show V.int (0 + (i : Int)) = V.int (i : Int); rw [Int.zero_add]⟩
/-- ys tells of as, item by item -/
def Rl {α : Type} (R : α → V → Hp → Prop) (as : List α) (ys : List V) (H : Hp) : Prop := ys.length = as.length ∧ ∀ (i : Nat) a y, as[i]? = some a → ys[i]? = some y → R a y H
theorem Rl.nil {α : Type} {R : α → V → Hp → Prop} {H : Hp} : Rl R [] [] H := ⟨rfl, fun i a y e => by simp at e⟩
theorem Rl.snoc {α : Type} {R : α → V → Hp → Prop} {as : List α} {ys : List V} {H : Hp} {a : α} {y : V} (h : Rl R as ys H) (k : R a y H) : Rl R (as ++ [a]) (ys ++ [y]) H := by
  obtain ⟨h1, h2⟩ := h
  refine ⟨by rw [List.length_append, List.length_append, h1]; rfl, fun i b z e1 e2 => ?_⟩
  by_cases hi : i < as.length
  · rw [List.getElem?_append_left hi] at e1
    rw [List.getElem?_append_left (by omega)] at e2
    exact h2 i b z e1 e2
  · have hi2 : i = as.length := by
      have := (List.getElem?_eq_some_iff.mp e1).1
      rw [List.length_append] at this
      have : i < as.length + 1 := this
      omega
    subst hi2
    have e3 : a = b := by simpa using e1
    have e4 : y = z := by
      rw [← h1] at e2
      simpa using e2
    subst e3 e4
    exact k
theorem Rl.mono {α : Type} {R : α → V → Hp → Prop} {as : List α} {ys : List V} {H H' : Hp} (h : Rl R as ys H) (m : ∀ a y, R a y H → R a y H') : Rl R as ys H' := ⟨h.1, fun i a y e1 e2 => m a y (h.2 i a y e1 e2)⟩
theorem Rl.pure {α : Type} {f : α → V} {as : List α} {ys : List V} {H : Hp} (h : Rl (fun a y _ => y = f a) as ys H) : ys = as.map f := by
  obtain ⟨h1, h2⟩ := h
  apply List.ext_getElem?
  intro i
  rw [List.getElem?_map]
  by_cases hi : i < as.length
  · have ea := List.getElem?_eq_getElem hi
    have ey := List.getElem?_eq_getElem (l := ys) (i := i) (by omega)
    rw [ea, ey]
    exact congrArg some (h2 i _ _ ea ey)
  · rw [List.getElem?_eq_none (by omega), List.getElem?_eq_none (by omega)]; rfl
theorem filter_snoc {α : Type} (b : α → Bool) {as : List α} {i : Nat} {a : α} (e : as[i]? = some a) : (as.take (i + 1)).filter b = (as.take i).filter b ++ if b a = true then [a] else [] := by
  rw [List.take_add_one, e, List.filter_append]
  congr 1
  show [a].filter b = _
  cases hb : b a <;> simp [hb]
section
variable {α : Type} {J : It} {as : List α} {enc : α → V} {G : Hp → Prop}
/-- a comprehension whose test and element leave all as it is -/
theorem lc_gen (w : WalkA J as enc G) {k : Nat} {tt : TT} {te : TE} {σ : L2.St} {H1 : Hp} {D : Addr} {Qd : Hp → Prop} (b : α → Bool) (R : α → V → Hp → Prop) (hD : H1 D = none) (hn : as.length ≤ sizeLine)
    (mono : ∀ a y H H', (∃ ys, H D = some (.lst ys)) → But D H H' → R a y H → R a y H') (hG : ∀ H, Same H1 H → G H)
    (ht : ∀ a H (Q : Bool → Hp → Prop), a ∈ as → Same H1 H → (∃ ys, H D = some (.lst ys)) → (∀ H', Same H H' → Q (b a) H') → tt ((wipe σ [k]).set k (some (enc a))) H Q)
    (he : ∀ a H (Q : VK), a ∈ as → b a = true → Same H1 H → (∃ ys, H D = some (.lst ys)) → (∀ y H', Same H H' → R a y H' → Q y H') → te ((wipe σ [k]).set k (some (enc a))) H Q)
    (hd : ∀ H ys, Same H1 H → H D = some (.lst ys) → Rl R (as.filter b) ys H → Qd H) :
    ∃ W : Nat → Nat → Hp → Prop, (∃ m, W 0 m (upd H1 D (.lst []))) ∧ ∀ i m H, W i m H →
      (J.stop i H ∧ Qd H) ∨ (J.go i H ∧ ∃ Nx : Hp → Prop, (∀ H', Nx H' → ∃ m', m' < m ∧ W (i + 1) m' H') ∧ ∀ x H', J.yld i H x H' → gName k x (wipe σ [k]) H' fun σ2 H2 => wipe σ2 [k] = wipe σ [k] ∧ tt σ2 H2 fun b H3 =>
        if b = true then te σ2 H3 fun y H4 => ∃ acc, H4 D = some (.lst acc) ∧ acc.length < sizeLine ∧ Nx (upd H4 D (.lst (acc ++ [y]))) else Nx H3) := by
  have hne : ∀ {c : Addr} {o : HO}, H1 c = some o → c ≠ D := fun e => ne_of_none e hD
  refine lc_it w (fun i H => Same H1 H ∧ ∃ ys, H D = some (.lst ys) ∧ Rl R ((as.take i).filter b) ys H) ⟨same_upd hD, [], upd_same, by rw [List.take_zero]; exact Rl.nil⟩ (fun i H _ p => hG H p.1) ?_ (fun H p => ?_)
  · rintro i x H H' hi ⟨sm, ys, eD, rl⟩ ⟨rfl, a, ea, rfl⟩
    have ha : a ∈ as := List.mem_of_getElem? ea
    have hfs := filter_snoc b ea
    refine ⟨?_, ht a H' _ ha sm ⟨ys, eD⟩ fun H3 s3 => ?_⟩
    · show ((((σ.set k none).set k (some (enc a))).set k none) : L2.St) = σ.set k none
      rw [List.set_set, List.set_set]
    · have sm3 : Same H1 H3 := sm.trans s3
      have rl3 : Rl R ((as.take i).filter b) ys H3 := rl.mono fun a y => mono a y _ _ ⟨ys, eD⟩ (Same.but s3 D)
      have eD3 := s3 _ _ eD
      cases hb : b a with
      | false =>
        rw [if_neg Bool.false_ne_true]
        refine ⟨sm3, ys, eD3, ?_⟩
        rw [hfs, hb]
        simpa using rl3
      | true =>
        rw [if_pos rfl]
        refine he a H3 _ ha hb sm3 ⟨ys, eD3⟩ fun y H4 s4 r4 => ?_
        have eD4 := s4 _ _ eD3
        have hl : ys.length < sizeLine := by
          have h1 : ((as.take i).filter b).length ≤ (as.take i).length := List.length_filter_le _ _
          rw [List.length_take] at h1
          have h2 := rl.1
          omega
        refine ⟨ys, eD4, hl, ?_, ys ++ [y], upd_same, ?_⟩
        · exact But.same (sm3.trans s4) (But.upd D H4 _) hD
        · rw [hfs, hb, if_pos rfl]
          exact (rl3.mono fun a y h => mono a y _ _ ⟨ys, eD4⟩ (But.upd D H4 _) (mono a y _ _ ⟨ys, eD3⟩ (Same.but s4 D) h)).snoc (mono a y _ _ ⟨ys, eD4⟩ (But.upd D H4 _) r4)
  · obtain ⟨sm, ys, eD, rl⟩ := p
    rw [List.take_length] at rl
    exact hd H ys sm eD rl
theorem filter_yes (as : List α) : as.filter (fun _ => true) = as := List.filter_eq_self.mpr fun _ _ => rfl
/-- without a test -/
theorem lc_rel (w : WalkA J as enc G) {k : Nat} {te : TE} {σ : L2.St} {H1 : Hp} {D : Addr} {Qd : Hp → Prop} (R : α → V → Hp → Prop) (hD : H1 D = none) (hn : as.length ≤ sizeLine)
    (mono : ∀ a y H H', (∃ ys, H D = some (.lst ys)) → But D H H' → R a y H → R a y H') (hG : ∀ H, Same H1 H → G H)
    (he : ∀ a H (Q : VK), a ∈ as → Same H1 H → (∃ ys, H D = some (.lst ys)) → (∀ y H', Same H H' → R a y H' → Q y H') → te ((wipe σ [k]).set k (some (enc a))) H Q)
    (hd : ∀ H ys, Same H1 H → H D = some (.lst ys) → Rl R as ys H → Qd H) :
    ∃ W : Nat → Nat → Hp → Prop, (∃ m, W 0 m (upd H1 D (.lst []))) ∧ ∀ i m H, W i m H →
      (J.stop i H ∧ Qd H) ∨ (J.go i H ∧ ∃ Nx : Hp → Prop, (∀ H', Nx H' → ∃ m', m' < m ∧ W (i + 1) m' H') ∧ ∀ x H', J.yld i H x H' → gName k x (wipe σ [k]) H' fun σ2 H2 => wipe σ2 [k] = wipe σ [k] ∧ tYes σ2 H2 fun b H3 =>
        if b = true then te σ2 H3 fun y H4 => ∃ acc, H4 D = some (.lst acc) ∧ acc.length < sizeLine ∧ Nx (upd H4 D (.lst (acc ++ [y]))) else Nx H3) :=
  lc_gen w (fun _ => true) R hD hn mono hG (fun a H Q _ _ _ q => q H (Same.refl H)) (fun a H Q ha _ sm e q => he a H Q ha sm e q) (fun H ys sm e rl => hd H ys sm e (by rw [filter_yes] at rl; exact rl))
/-- the element a function of the item -/
theorem lc_fn (w : WalkA J as enc G) {k : Nat} {te : TE} {σ : L2.St} {H1 : Hp} {D : Addr} {Qd : Hp → Prop} (f : α → V) (hD : H1 D = none) (hn : as.length ≤ sizeLine) (hG : ∀ H, Same H1 H → G H)
    (he : ∀ a H (Q : VK), a ∈ as → Same H1 H → (∀ H', Same H H' → Q (f a) H') → te ((wipe σ [k]).set k (some (enc a))) H Q)
    (hd : ∀ H, Same H1 H → H D = some (.lst (as.map f)) → Qd H) :
    ∃ W : Nat → Nat → Hp → Prop, (∃ m, W 0 m (upd H1 D (.lst []))) ∧ ∀ i m H, W i m H →
      (J.stop i H ∧ Qd H) ∨ (J.go i H ∧ ∃ Nx : Hp → Prop, (∀ H', Nx H' → ∃ m', m' < m ∧ W (i + 1) m' H') ∧ ∀ x H', J.yld i H x H' → gName k x (wipe σ [k]) H' fun σ2 H2 => wipe σ2 [k] = wipe σ [k] ∧ tYes σ2 H2 fun b H3 =>
        if b = true then te σ2 H3 fun y H4 => ∃ acc, H4 D = some (.lst acc) ∧ acc.length < sizeLine ∧ Nx (upd H4 D (.lst (acc ++ [y]))) else Nx H3) :=
  lc_rel w (fun a y _ => y = f a) hD hn (fun _ _ _ _ _ _ h => h) hG (fun a H Q ha sm _ q => he a H Q ha sm fun H' s => q _ _ s rfl) (fun H ys sm e rl => hd H sm (by rw [← rl.pure]; exact e))
/-- with a test, the element a function of the item -/
theorem lc_flt (w : WalkA J as enc G) {k : Nat} {tt : TT} {te : TE} {σ : L2.St} {H1 : Hp} {D : Addr} {Qd : Hp → Prop} (b : α → Bool) (f : α → V) (hD : H1 D = none) (hn : as.length ≤ sizeLine) (hG : ∀ H, Same H1 H → G H)
    (ht : ∀ a H (Q : Bool → Hp → Prop), a ∈ as → Same H1 H → (∀ H', Same H H' → Q (b a) H') → tt ((wipe σ [k]).set k (some (enc a))) H Q)
    (he : ∀ a H (Q : VK), a ∈ as → b a = true → Same H1 H → (∀ H', Same H H' → Q (f a) H') → te ((wipe σ [k]).set k (some (enc a))) H Q)
    (hd : ∀ H, Same H1 H → H D = some (.lst ((as.filter b).map f)) → Qd H) :
    ∃ W : Nat → Nat → Hp → Prop, (∃ m, W 0 m (upd H1 D (.lst []))) ∧ ∀ i m H, W i m H →
      (J.stop i H ∧ Qd H) ∨ (J.go i H ∧ ∃ Nx : Hp → Prop, (∀ H', Nx H' → ∃ m', m' < m ∧ W (i + 1) m' H') ∧ ∀ x H', J.yld i H x H' → gName k x (wipe σ [k]) H' fun σ2 H2 => wipe σ2 [k] = wipe σ [k] ∧ tt σ2 H2 fun b H3 =>
        if b = true then te σ2 H3 fun y H4 => ∃ acc, H4 D = some (.lst acc) ∧ acc.length < sizeLine ∧ Nx (upd H4 D (.lst (acc ++ [y]))) else Nx H3) :=
  lc_gen w b (fun a y _ => y = f a) hD hn (fun _ _ _ _ _ _ h => h) hG (fun a H Q ha sm _ q => ht a H Q ha sm q) (fun a H Q ha hb sm _ q => he a H Q ha hb sm fun H' s => q _ _ s rfl) (fun H ys sm e rl => hd H sm (by rw [← rl.pure]; exact e))
/-- a for over it: Pv by the items taken -/
theorem for_a (w : WalkA J as enc G) {k : Nat} {tb : TS} {D : Ends} {σ : L2.St} {H : Hp} (Pv : Nat → L2.St → Hp → Prop) (h0 : Pv 0 σ H) (hG : ∀ i σ H, i ≤ as.length → Pv i σ H → G H)
    (hs : ∀ i a σ H, as[i]? = some a → Pv i σ H → tb { D with nx := Pv (i + 1), ct := Pv (i + 1), bk := D.nx } (σ.set k (some (enc a))) H) (hd : ∀ σ H, Pv as.length σ H → D.nx σ H) :
    ∃ W : Nat → Nat → L2.St → Hp → Prop, (∃ m, W 0 m σ H) ∧ ∀ i m σ H, W i m σ H →
      (J.stop i H ∧ D.nx σ H) ∨ (J.go i H ∧ ∃ N : L2.St → Hp → Prop, (∀ σ' H', N σ' H' → ∃ m', m' < m ∧ W (i + 1) m' σ' H') ∧ ∀ x H', J.yld i H x H' → gName k x σ H' fun σ2 H2 => tb { D with nx := N, ct := N, bk := D.nx } σ2 H2) :=
  for_it w Pv h0 hG (fun i x σ H H' hi p y => by
    obtain ⟨rfl, a, ea, rfl⟩ := y
    exact hs i a σ H' ea p) hd
end
/-! ### {k: True for ..} -/
/-- a dict whose values are True -/
def dk {α : Type} (key : α → Key) (ks : List α) : List (Key × V) := ks.map fun k => (key k, V.bl true)
section
variable {α : Type} [DecidableEq α] {key : α → Key} (inj : ∀ a b, key a = key b → a = b)
include inj
theorem valV_dk (ks : List α) (k : α) : valV (dk key ks) (key k) = if k ∈ ks then some (.bl true) else none := by
  induction ks with
  | nil => rfl
  | cons a r ih =>
    show valV ((key a, V.bl true) :: dk key r) (key k) = _
    by_cases e : a = k
    · rw [valV_pos (by rw [e]), if_pos (by simp [e])]
    · rw [valV_neg (fun z => e (inj _ _ z)), ih]
      by_cases h : k ∈ r
      · rw [if_pos h, if_pos (by simp [h])]
      · rw [if_neg h, if_neg (by simp [h, Ne.symm e])]
theorem putK_dk (ks : List α) (k : α) : putK (dk key ks) (key k) (.bl true) = dk key (addA ks k) := by
  unfold addA
  by_cases h : k ∈ ks
  · rw [if_pos h]
    unfold putK
    have hany : ((dk key ks).any fun kv => decide (kv.1 = key k)) = true := by
      rw [valV_any, valV_dk inj, if_pos h]; rfl
    rw [if_pos hany]
    unfold dk
    rw [List.map_map]
    apply List.map_congr_left
    intro a _
    show (if key a = key k then (key a, V.bl true) else (key a, V.bl true)) = _
    split <;> rfl
  · rw [if_neg h, putK_new _ (by rw [valV_dk inj, if_neg h])]
    unfold dk
    rw [List.map_append]; rfl
theorem mergeK_dk (ks ls : List α) : mergeK (dk key ks) (dk key ls) = dk key (addAll ks ls) := by
  induction ls generalizing ks with
  | nil => rfl
  | cons a r ih =>
    show mergeK (putK (dk key ks) (key a) (.bl true)) (dk key r) = _
    rw [putK_dk inj, ih]
    rfl
end
theorem dk_len {α : Type} (key : α → Key) (ks : List α) : (dk key ks).length = ks.length := List.length_map _
def nk (n : Nat) : Key := Sum.inl (n : Int)
theorem nk_inj (a b : Nat) (h : nk a = nk b) : a = b := by
  have : (a : Int) = b := Sum.inl.inj h
  omega
def wk (l : Wd) : Key := Sum.inr (T l)
theorem wk_inj (a b : Wd) (h : wk a = wk b) : a = b := T_inj (Sum.inr.inj h)
/-- an index as a value -/
abbrev nV (n : Nat) : V := V.int (n : Int)
/-- a word as a value -/
abbrev wV (l : Wd) : V := V.str (T l)
section
variable {α : Type} [DecidableEq α] {J : It} {as : List α} {enc : α → V} {G : Hp → Prop}
/-- {k: True for k in ..} over a list that stays -/
theorem dc_keys (w : WalkA J as enc G) {key : α → Key} (inj : ∀ a b, key a = key b → a = b) (hk : ∀ a, enc a = kV (key a)) {k : Nat} {σ : L2.St} (hσ : k < σ.length) {H1 : Hp} {D : Addr} {Qd : Hp → Prop} (hD : H1 D = none) (hn : as.length < sizeLine) (hG : ∀ H, Same H1 H → G H)
    (hd : ∀ H, Same H1 H → H D = some (.dK (dk key (addAll [] as))) → Qd H) :
    ∃ W : Nat → Nat → Hp → Prop, (∃ m, W 0 m (upd H1 D (.dK []))) ∧ ∀ i m H, W i m H →
      (J.stop i H ∧ Qd H) ∨ (J.go i H ∧ ∃ Nx : Hp → Prop, (∀ H', Nx H' → ∃ m', m' < m ∧ W (i + 1) m' H') ∧ ∀ x H', J.yld i H x H' → gName k x (wipe σ [k]) H' fun σ2 H2 => wipe σ2 [k] = wipe σ [k] ∧ tYes σ2 H2 fun b H3 =>
        if b = true then tVar k σ2 H3 fun y H4 => tC (.bl true) σ2 H4 fun z H5 => ∃ kvs k, y = kV k ∧ H5 D = some (.dK kvs) ∧ kvs.length < sizeLine ∧ Nx (upd H5 D (.dK (putK kvs k z))) else Nx H3) := by
  refine ⟨fun i m H => m = as.length - i ∧ i ≤ as.length ∧ Same H1 H ∧ H D = some (.dK (dk key (addAll [] (as.take i)))), ⟨as.length, by simp, Nat.zero_le _, same_upd hD, upd_same⟩, ?_⟩
  rintro i m H ⟨rfl, hi, sm, eD⟩
  by_cases hlt : i < as.length
  · refine .inr ⟨w.goes i H hlt (hG H sm), fun H' => Same H1 H' ∧ H' D = some (.dK (dk key (addAll [] (as.take (i + 1))))), fun H' p' => ⟨as.length - (i + 1), by omega, rfl, hlt, p'⟩, fun x H' y => ?_⟩
    obtain ⟨rfl, a, ea, rfl⟩ := w.yields i H x H' hlt (hG H sm) y
    refine ⟨?_, ?_⟩
    · show ((((σ.set k none).set k (some (enc a))).set k none) : L2.St) = σ.set k none
      rw [List.set_set, List.set_set]
    · refine iteT (B := True) ⟨enc a, ?_, dk key (addAll [] (as.take i)), key a, hk a, eD, ?_, But.same sm (But.upd D H' _) hD, ?_⟩
      · show ((σ.set k none).set k (some (enc a)))[k]? = _
        rw [List.getElem?_set_self (by rw [List.length_set]; exact hσ)]
      · rw [dk_len]
        have := len_addAll (ks := ([] : List α)) (ls := as.take i)
        rw [List.length_take] at this
        simp at this
        omega
      · rw [upd_same, putK_dk inj, ← addAll_snoc, List.take_add_one, ea]; rfl
  · have e : i = as.length := by omega
    subst e
    rw [List.take_length] at eD
    exact .inl ⟨w.stops H (hG H sm), hd H sm eD⟩
end
end K05

set_option Elab.async false
set_option linter.all false
set_option maxRecDepth 100000
set_option maxHeartbeats 4000000
/-! K05: is_leaf, has_form, parts_of. -/
namespace K05
open PySem PySem.Spec PyProof.Rows L2 KM
/-! ### isinstance(e, T) -/
def tIs (K : PySem.W.Frag) (T : String) (te : TE) : TE := fun σ H Q => te σ H fun x H1 => rIsi K [x, .ty T] H1 Q
theorem pe_is {X : Cx} {T : String} {e : Expr} {te : TE} {p p2 pos : Pos} (hz : X.mg "isinstance" = none) (hT : X.mg T = none) (hg : Gl X "isinstance") (hgT : Gl X T) (hv : bootBuiltins T = some (.type T)) (he : PE X e te)
    (h1 : starEach [e, .Name T p2] X.env = (false, eval e X.env) :: starEach [.Name T p2] X.env := by rfl) (h2 : starEach [.Name T p2] X.env = (false, eval (.Name T p2) X.env) :: starEach [] X.env := by rfl)
    (hn : (T : Str) ≠ "__name__" := by decide) (hd : ((T : Str) == ("__debug__" : Str)) = false := by decide)
    (hpl : (backTo pos (starEach [.Name T p2] X.env)).any (·.1) = false := by rfl) :
    PE X (.Call (.Name "isinstance" p) [e, .Name T p2] [] pos) (tIs X.K T te) :=
  pe_callB (pos := pos) (p := p) (X := X) call_isi hg hz (by decide +kernel) (pa_cons he (pa_cons (pe_bltn (X := X) (v := .ty T) (pos := p2) hgT hT hv rfl hn hd) pa_nil h2) h1) (by decide) (by decide) h1 hpl
theorem is_r {K : PySem.W.Frag} {x : V} {T t : String} {H : Hp} {Q : VK} {b : Bool} (ty : TyX K H x (.type t)) (k : kitB t T = some b) (q : Q (.bl b) H) : rIsi K [x, .ty T] H Q := ⟨_, _, _, _, b, rfl, .ty T, ty, kit_ty k, q⟩
theorem kb_ss : kitB "str" "str" = some true := by decide +kernel
theorem kb_ts : kitB "tuple" "str" = some false := by decide +kernel
theorem kb_tt : kitB "tuple" "tuple" = some true := by decide +kernel
theorem ty_str {K : PySem.W.Frag} {H : Hp} (z : Str) : TyX K H (.str z) (.type "str") := .base (.str z)
theorem ty_tup {K : PySem.W.Frag} {H : Hp} {a : Addr} {xs : List V} (e : H a = some (.tup xs)) : TyX K H (.ref a) (.type "tuple") := .base (.tup e)
theorem boot_str' : bootBuiltins ("str" : String) = some (.type "str") := by decide +kernel
theorem boot_tuple' : bootBuiltins ("tuple" : String) = some (.type "tuple") := by decide +kernel
/-- a promise that can't be asked is kept -/
theorem fn_none {P : Program} {w : World} {K : PySem.W.Frag} {mg : Str → Option Value} {base : Heap} {CX : CXT} {k : Nat} {f : Addr} {fd : FuncData} {ps : List Str} {sp : Sp} (h : ∀ vs H Q E, ¬ sp vs H Q E) : FnOk P w K mg base CX k f fd ps sp :=
  ⟨fun vs H Q E q => (h vs H Q E q).elim, fun A outer s H args us vs Q E _ _ _ _ q => (h vs H Q E q).elim⟩
theorem lineT {n : Nat} (h : n ≤ 1000) : n ≤ sizeLine := Nat.le_of_lt (small1000 h)
theorem iteN {c A B : Prop} [Decidable c] (hc : ¬ c) (h : B) : if decide c = true then A else B := by rw [decide_eq_false hc]; exact iteF h
theorem iteY {c A B : Prop} [Decidable c] (hc : c) (h : A) : if decide c = true then A else B := by rw [decide_eq_true hc]; exact iteT h
def isLeaf : Ex → Bool
  | .leaf _ => true
  | _ => false
theorem dec_nil : decide (V.str (T []) = V.str "") = true := by decide +kernel
theorem dec_one (c : Nat) : decide (V.str (T [c]) = V.str "") = false := decide_eq_false fun h => by
  rw [T_nil] at h
  have := T_inj (V.str.inj h)
  cases this
theorem abc_in {c : Nat} (h : Abc c) : c ∈ ("abcd" : Str).cps.toList := by
  rw [T_abcd, T_cps]
  unfold Abc at h
  rcases h with rfl | rfl | rfl | rfl <;> decide
section
variable {P : Program} {w : World} {K : PySem.W.Frag} {mg : Str → Option Value} {base : Heap}
/-! ### is_leaf -/
def spLeaf : Sp := fun vs H Q _ => ∃ v e o, vs = [v] ∧ Rep H e v ∧ Ok o e ∧ Q (.bl (isLeaf e)) H
theorem ok_is_leaf (p : Prog K mg) : FnOk P w K mg base CX0 1 p.d_is_leaf.f p.d_is_leaf.fd ["value"] spLeaf := by
  refine p.d_is_leaf.F.ok sc_is_leaf (fun vs H Q E h => ?_) (fun cdv A outer s H vs Q E hr h => ?_)
  · obtain ⟨v, e, o, rfl, _⟩ := h
    rfl
  obtain ⟨v, e, o, rfl, rp, ok, q⟩ := h
  refine ⟨_, pss_one (ps_ret (pe_and (pe_is p.z_isinstance p.z_str rfl rfl boot_str' (pv 0))
    (pe_one (pe_or (pe_cmpR op_eq (pv 0) pe_str (nomark _)) (pe_one (pe_and (pe_cmpR op_eq (pe_callB call_len_str (by rfl) p.z_len PySem.boot_len (pa_cons (pv 0) pa_nil)) pe_int (nomark _))
      (pe_one (pe_cmpR op_in_sign (pv 0) (pe_gs p.c_LETTERS rfl) (by rfl))))))))), ?_⟩
  cases e with
  | leaf l =>
    rw [rep_leaf] at rp
    subst rp
    refine ⟨_, rfl, is_r (ty_str _) kb_ss ⟨true, rfl, iteT ?_⟩⟩
    rw [Ok] at ok
    rcases ok with rfl | ⟨c, rfl, hc⟩
    · refine ⟨_, rfl, rfl, _, rfl, ?_⟩
      rw [dec_nil]
      exact iteT q
    · refine ⟨_, rfl, rfl, _, rfl, ?_⟩
      rw [dec_one]
      refine iteF ⟨_, rfl, _, rfl, lineT (by rw [T_len]; show 1 ≤ 1000; decide), rfl, _, rfl, iteT ⟨_, rfl, c, _, rfl, rfl, ?_⟩⟩
      rw [decide_eq_true (abc_in hc)]
      exact q
  | row j ps =>
    obtain ⟨a, b, us, rfl, e1, _⟩ := rep_row.mp rp
    exact ⟨_, rfl, is_r (ty_tup e1) kb_ts ⟨false, rfl, iteF q⟩⟩
  | one m x =>
    obtain ⟨a, u, rfl, e1, _⟩ := rep_one.mp rp
    exact ⟨_, rfl, is_r (ty_tup e1) kb_ts ⟨false, rfl, iteF q⟩⟩
/-! ### has_form -/
def owW : Option Bool → Str
  | none => ""
  | some j => rwd j
def spForm (n : Nat) : Sp := fun vs H Q _ => ∃ (v : V) (e : Ex) (o : Option Bool) (d : Int), vs = [v, .str (owW o), .int d] ∧ Rep H e v ∧ Ok o e ∧ depth e < n ∧ (n : Int) ≤ d + 1 ∧ ∀ H', Same H H' → Q (.bl true) H'
theorem in_singles_row (j : Bool) : inV (.str (rwd j)) [.str "maybe", .str "many"] = false := by cases j <;> decide +kernel
theorem in_singles_one (m : Bool) : inV (.str (owd m)) [.str "maybe", .str "many"] = true := by cases m <;> decide +kernel
theorem in_rows_row (j : Bool) : inV (.str (rwd j)) [.str "join", .str "or"] = true := by cases j <;> decide +kernel
theorem rwd_ne {j : Bool} {o : Option Bool} (h : o ≠ some j) : decide (V.str (rwd j) = V.str (owW o)) = false := by
  cases o with
  | none => cases j <;> decide +kernel
  | some k =>
    cases j <;> cases k
    · exact absurd rfl h
    · decide +kernel
    · decide +kernel
    · exact absurd rfl h
theorem ok_has_form (p : Prog K mg) : ∀ n, FnOk P w K mg base CX0 (n + 1) p.d_has_form.f p.d_has_form.fd ["value", "outer", "deep"] (spForm n)
  | 0 => fn_none fun vs H Q E h => by
    obtain ⟨v, e, o, d, _, _, _, h, _⟩ := h
    exact absurd h (Nat.not_lt_zero _)
  | n + 1 => by
    have G := ok_has_form p n
    refine p.d_has_form.F.ok sc_has_form (fun vs H Q E h => ?_) (fun cdv A outer s H vs Q E hr h => ?_)
    · obtain ⟨v, e, o, d, rfl, _⟩ := h
      rfl
    obtain ⟨v, e, o, d, rfl, rp, ok, hd, hd2, q⟩ := h
    refine ⟨_, pss_cons (ps_if (pt_val (pe_d p.d_is_leaf (ok_is_leaf p) (hr.mono (Nat.le_add_left 1 n)) rfl (pa_cons (pv 0) pa_nil))) (pss_one (ps_ret pe_bl)) pss_nil)
      (pss_cons (ps_if (PW.pt (pw_or (pt_cmpR op_eq (pv 2) pe_int (nomark _)) (pw_or (pt_not (pt_val (pe_is p.z_isinstance p.z_tuple rfl rfl boot_tuple' (pv 0))))
          (pw_or (pt_cmpR op_ne (pe_callB call_len_seq (by rfl) p.z_len PySem.boot_len (pa_cons (pv 0) pa_nil)) pe_int (nomark _))
            (pw_or1 (pt_not (pt_val (pe_is p.z_isinstance p.z_str rfl rfl boot_str' (pe_ix ix_tup (pv 0) pe_int (fun _ _ => rfl)))))))))) (pss_one (ps_ret pe_bl)) pss_nil)
      (pss_cons (ps_if (pt_cmpR op_in_seq (pe_ix ix_tup (pv 0) pe_int (fun _ _ => rfl)) (pe_gt p.c_SINGLES rfl) (by rfl))
          (pss_one (ps_ret (pe_d _ G hr rfl (pa_cons (pe_ix ix_tup (pv 0) pe_int (fun _ _ => rfl)) (pa_cons pe_str (pa_cons (pe_op op_sub (pv 2) pe_int) pa_nil)))))) pss_nil)
      (pss_cons (ps_if (PW.pt (pw_or (pt_cmpR op_notIn_seq (pe_ix ix_tup (pv 0) pe_int (fun _ _ => rfl)) (pe_gt p.c_ROWS rfl) (by rfl)) (pw_or (pt_cmpR op_eq (pe_ix ix_tup (pv 0) pe_int (fun _ _ => rfl)) (pv 1) (nomark _))
          (pw_or1 (pt_not (pt_val (pe_is p.z_isinstance p.z_tuple rfl rfl boot_tuple' (pe_ix ix_tup (pv 0) pe_int (fun _ _ => rfl))))))))) (pss_one (ps_ret pe_bl)) pss_nil)
      (pss_cons (ps_if (pt_not (pt_chain op_le op_le pe_int (pe_callB call_len_seq (by rfl) p.z_len PySem.boot_len (pa_cons (pe_ix ix_tup (pv 0) pe_int (fun _ _ => rfl)) pa_nil)) (pe_gi p.c_PARTS rfl))) (pss_one (ps_ret pe_bl)) pss_nil)
      (pss_one (ps_ret (pe_callB (cr_all rfl) (by rfl) p.z_all (by decide +kernel) (pa_cons (pe_lc (own := [("part", 3)]) (g := gName 3) (tt := tYes) rfl sc_has_form.nd (pi_tup (pe_ix ix_tup (pv 0) pe_int (fun _ _ => rfl)))
          (blkOk_by (N := ["value", "outer", "deep", "part"]) (sc := defScope s_has_form) (by decide +kernel)) (fun _ _ _ _ _ => pg_name (i := 3) sc_has_form.nd rfl (Or.inl rfl)) (fun _ _ _ _ _ => pts_nil)
          (fun _ _ _ _ _ => pe_d _ G hr rfl (pa_cons (pv 3) (pa_cons (pe_ix (r := rIxT K) ix_tup (pv 0) pe_int (fun _ _ => rfl)) (pa_cons (pe_op op_sub (pv 2) pe_int) pa_nil))))) pa_nil)))))))), ?_⟩
    refine ⟨_, rfl, v, e, o, rfl, rp, ok, _, rfl, ?_⟩
    cases e with
    | leaf l => exact iteT (q H (Same.refl H))
    | one m x =>
      obtain ⟨a, u, rfl, e1, rx⟩ := rep_one.mp rp
      rw [depth] at hd
      rw [Ok] at ok
      have s1 : SqT K H a [.str (owd m), u] := SqT.of e1
      refine iteF ⟨_, rfl, rfl, _, rfl, iteN (fun z => by have := V.int.inj z; omega) ⟨_, rfl, is_r (ty_tup e1) kb_tt ⟨true, rfl, iteF ⟨_, rfl, a, _, rfl, .inr s1, rfl, _, rfl, iteNS rfl ⟨_, rfl, a, _, 0, _, rfl, rfl, s1, atI_nat (j := 0) rfl, is_r (ty_str _) kb_ss ⟨true, rfl, iteF ?_⟩⟩⟩⟩⟩⟩
      refine ⟨_, rfl, a, _, 0, _, rfl, rfl, s1, atI_nat (j := 0) rfl, fun t ht => ⟨t, _, rfl, .inr (ht _), rfl, rfl, _, rfl, ?_⟩⟩
      show if inV (.str (owd m)) [.str "maybe", .str "many"] = true then _ else _
      rw [in_singles_one]
      refine iteT ⟨_, rfl, a, _, 1, _, rfl, rfl, s1, atI_nat (j := 1) rfl, _, rfl, _, _, rfl, rfl, u, x, none, d - 1, rfl, rx, ok, by omega, by omega, fun H' sm => q H' sm⟩
    | row j ps =>
      obtain ⟨a, b, us, rfl, e1, e2, rx⟩ := rep_row.mp rp
      rw [depth] at hd
      rw [Ok] at ok
      obtain ⟨ok1, ok2, ok3, ok4⟩ := ok
      have s1 : SqT K H a [.str (rwd j), .ref b] := SqT.of e1
      have hl := reps_len rx
      refine iteF ⟨_, rfl, rfl, _, rfl, iteN (fun z => by have := V.int.inj z; omega) ⟨_, rfl, is_r (ty_tup e1) kb_tt ⟨true, rfl, iteF ⟨_, rfl, a, _, rfl, .inr s1, rfl, _, rfl, iteNS rfl ⟨_, rfl, a, _, 0, _, rfl, rfl, s1, atI_nat (j := 0) rfl, is_r (ty_str _) kb_ss ⟨true, rfl, iteF ?_⟩⟩⟩⟩⟩⟩
      refine ⟨_, rfl, a, _, 0, _, rfl, rfl, s1, atI_nat (j := 0) rfl, fun t ht => ⟨t, _, rfl, .inr (ht _), rfl, rfl, _, rfl, ?_⟩⟩
      show if inV (.str (rwd j)) [.str "maybe", .str "many"] = true then _ else _
      rw [in_singles_row]
      refine iteF ?_
      refine ⟨_, rfl, a, _, 0, _, rfl, rfl, s1, atI_nat (j := 0) rfl, fun t ht => ⟨t, _, rfl, .inr (ht _), rfl, rfl, _, rfl, ?_⟩⟩
      show if (!inV (.str (rwd j)) [.str "join", .str "or"]) = true then _ else _
      rw [in_rows_row]
      refine iteF ⟨_, rfl, a, _, 0, _, rfl, rfl, s1, atI_nat (j := 0) rfl, _, rfl, rfl, _, rfl, ?_⟩
      rw [rwd_ne ok1]
      refine iteF ⟨_, rfl, a, _, 1, _, rfl, rfl, s1, atI_nat (j := 1) rfl, is_r (ty_tup e2) kb_tt ⟨true, rfl, iteF ?_⟩⟩
      refine ⟨_, rfl, a, _, 1, _, rfl, rfl, s1, atI_nat (j := 1) rfl, b, us, rfl, .inr (SqT.of e2), 2, _, rfl, rfl, _, rfl, iteY (by omega) ⟨_, _, rfl, rfl, _, rfl, iteNS (by omega) ?_⟩⟩
      refine ⟨_, rfl, a, _, 1, _, rfl, rfl, s1, atI_nat (j := 1) rfl, b, rfl, ⟨us, SqT.of e2⟩, fun D hD => lc_fn wa_tupV (fun _ => .bl true) hD (lineT (by omega)) (fun H' sm => SqT.of (sm _ _ e2)) (fun u H1 Q1 hu sm q1 => ?_) (fun H1 sm eD => ?_)⟩
      · obtain ⟨i, ei⟩ := List.getElem?_of_mem hu
        obtain ⟨x, ex, rpx⟩ := reps_get rx ei
        have hm := List.mem_of_getElem? ex
        have hdx := depths_le hm
        exact ⟨_, rfl, _, rfl, a, _, 0, _, rfl, rfl, SqT.of (sm _ _ e1), atI_nat (j := 0) rfl, _, rfl, _, _, rfl, rfl, u, x, some j, d - 1, rfl, rep_mono (Same.tups sm) x u rpx, oks_iff.mp ok4 x hm, by omega, by omega, q1⟩
      · refine ⟨D, us.map (fun _ => true), rfl, SqL.of (by rw [eD, List.map_map]; rfl), ?_⟩
        have : (us.map (fun _ => true)).all id = true := by simp
        rw [this]
        exact q H1 sm
end
end K05

set_option Elab.async false
set_option linter.all false
set_option maxRecDepth 100000
set_option maxHeartbeats 4000000
/-! K05: parts_of, letters_of, count_of, is_long, is_word, check_long, check_word; _law_inside, _law_letters. -/
namespace K05
open PySem PySem.Spec PyProof.Rows L2 KM
theorem join_T (ls : List Wd) : Txt.join ("" : Str) (ls.map T) = T ls.flatten := by
  rw [TL.join_eq, T_nil]
  induction ls with
  | nil => rfl
  | cons a r ih =>
    cases r with
    | nil =>
      show T a = T [a].flatten
      simp
    | cons b t =>
      show T a ++ T [] ++ Str.join (T []) ((b :: t).map T) = _
      rw [ih, T_app, T_app]
      simp
theorem join_size (ls : List Wd) (h : ls.flatten.length ≤ 1000) : ((ls.map T).map (·.length)).sum + (ls.map T).length * ("" : Str).length ≤ 16777216 := by
  have e : ((ls.map T).map (·.length)).sum = ls.flatten.length := by
    rw [List.length_flatten, List.map_map]
    congr 1
    first | done | exact List.map_congr_left fun a _ => T_len a
  rw [e, T_nil, T_len]
  show _ + _ * 0 ≤ _
  omega
/-- the rows of what stands for the parts -/
theorem rl_map {g : Ex → V} {ps : List Ex} {us ys : List V} {H0 H : Hp} (rx : Reps H0 ps us) (rl : Rl (fun u y _ => ∀ x ∈ ps, Rep H0 x u → y = g x) us ys H) : ys = ps.map g := by
  obtain ⟨h1, h2⟩ := rl
  have hl := reps_len rx
  apply List.ext_getElem?
  intro i
  rw [List.getElem?_map]
  by_cases hi : i < us.length
  · have eu := List.getElem?_eq_getElem hi
    have ey := List.getElem?_eq_getElem (l := ys) (i := i) (by omega)
    obtain ⟨x, ex, rpx⟩ := reps_get rx eu
    rw [ey, ex]
    exact congrArg some (h2 i _ _ eu ey x (List.mem_of_getElem? ex) rpx)
  · rw [List.getElem?_eq_none (by omega), List.getElem?_eq_none (by omega)]; rfl
theorem T_inj' {l m : Wd} (h : V.str (T l) = V.str (T m)) : l = m := T_inj (V.str.inj h)
theorem word_ne (j m : Bool) : V.str (rwd j) ≠ V.str (owd m) := by cases j <;> cases m <;> decide +kernel
theorem rwd_inj {j k : Bool} (h : V.str (rwd j) = V.str (rwd k)) : j = k := by
  cases j <;> cases k
  · rfl
  · exact absurd h (by decide +kernel)
  · exact absurd h (by decide +kernel)
  · rfl
theorem owd_inj {j k : Bool} (h : V.str (owd j) = V.str (owd k)) : j = k := by
  cases j <;> cases k
  · rfl
  · exact absurd h (by decide +kernel)
  · exact absurd h (by decide +kernel)
  · rfl
theorem rep_inj {H : Hp} {e : Ex} : ∀ {f : Ex} {v : V}, Rep H e v → Rep H f v → e = f := by
  induction e using Ex.ind with
  | hl l =>
    intro f v h k
    rw [rep_leaf] at h
    subst h
    cases f with
    | leaf m => rw [rep_leaf] at k; rw [T_inj' k]
    | row j ps => obtain ⟨a, b, us, z, _⟩ := rep_row.mp k; cases z
    | one m x => obtain ⟨a, u, z, _⟩ := rep_one.mp k; cases z
  | ho m x ih =>
    intro f v h k
    obtain ⟨a, u, rfl, e1, rx⟩ := rep_one.mp h
    cases f with
    | leaf l => rw [rep_leaf] at k; cases k
    | row j ps =>
      obtain ⟨a', b, us, z, e2, _⟩ := rep_row.mp k
      cases z
      rw [e1] at e2
      injection (Option.some.inj e2) with e3
      injection e3 with e4 _
      exact absurd e4.symm (word_ne j m)
    | one m' x' =>
      obtain ⟨a', u', z, e2, rx'⟩ := rep_one.mp k
      cases z
      rw [e1] at e2
      injection (Option.some.inj e2) with e3
      injection e3 with e4 e5
      injection e5 with e6 _
      subst e6
      rw [owd_inj e4, ih rx rx']
  | hr j ps ih =>
    intro f v h k
    obtain ⟨a, b, us, rfl, e1, e2, rx⟩ := rep_row.mp h
    cases f with
    | leaf l => rw [rep_leaf] at k; cases k
    | one m x =>
      obtain ⟨a', u, z, e3, _⟩ := rep_one.mp k
      cases z
      rw [e1] at e3
      injection (Option.some.inj e3) with e4
      injection e4 with e5 _
      exact absurd e5 (word_ne j m)
    | row j' ps' =>
      obtain ⟨a', b', us', z, e3, e4, rx'⟩ := rep_row.mp k
      cases z
      rw [e1] at e3
      injection (Option.some.inj e3) with e5
      injection e5 with e6 e7
      injection e7 with e8 _
      cases e8
      rw [e2] at e4
      injection (Option.some.inj e4) with e9
      subst e9
      rw [rwd_inj e6]
      congr 1
      obtain ⟨l1, k1⟩ := reps_iff.mp rx
      obtain ⟨l2, k2⟩ := reps_iff.mp rx'
      apply List.ext_getElem?
      intro i
      by_cases hi : i < ps.length
      · have ep := List.getElem?_eq_getElem hi
        have eu := List.getElem?_eq_getElem (l := us) (i := i) (by omega)
        have eq := List.getElem?_eq_getElem (l := ps') (i := i) (by omega)
        rw [ep, eq]
        exact congrArg some (ih _ (List.getElem_mem hi) (k1 i _ _ ep eu) (k2 i _ _ eq eu))
      · rw [List.getElem?_eq_none (by omega), List.getElem?_eq_none (by omega)]
section
variable {P : Program} {w : World} {K : PySem.W.Frag} {mg : Str → Option Value} {base : Heap}
/-! ### parts_of, _law_inside -/
def spParts : Sp := fun vs H Q _ => ∃ (v : V) (e : Ex), vs = [v] ∧ Rep H e v ∧ ∀ (b : Addr) (us : List V) (H' : Hp), Same H H' → H' b = some (.tup us) → Reps H' (parts e) us → Q (.ref b) H'
theorem ok_parts_of (p : Prog K mg) : FnOk P w K mg base CX0 1 p.d_parts_of.f p.d_parts_of.fd ["expression"] spParts := by
  refine p.d_parts_of.F.ok sc_parts_of (fun vs H Q E h => ?_) (fun cdv A outer s H vs Q E hr h => ?_)
  · obtain ⟨v, e, rfl, _⟩ := h
    rfl
  obtain ⟨v, e, rfl, rp, q⟩ := h
  refine ⟨_, pss_cons (ps_if (pt_val (pe_is p.z_isinstance p.z_str rfl rfl boot_str' (pv 0))) (pss_one (ps_ret (pe_tup pa_nil))) pss_nil)
    (pss_one (ps_ret (pe_ifExp (pt_cmpR op_in_seq (pe_ix ix_tup (pv 0) pe_int (fun _ _ => rfl)) (pe_gt p.c_SINGLES rfl) (by rfl)) (pe_tup (pa_cons (pe_ix ix_tup (pv 0) pe_int (fun _ _ => rfl)) pa_nil)) (pe_ix ix_tup (pv 0) pe_int (fun _ _ => rfl))))), ?_⟩
  cases e with
  | leaf l =>
    rw [rep_leaf] at rp
    subst rp
    exact ⟨_, rfl, is_r (ty_str _) kb_ss ⟨true, rfl, iteT ⟨Nat.zero_le _, fun t ht => q t [] _ (same_upd ht) upd_same (by show Reps _ [] []; rw [Reps])⟩⟩⟩
  | row j ps =>
    obtain ⟨a, b, us, rfl, e1, e2, rx⟩ := rep_row.mp rp
    have s1 : SqT K H a [.str (rwd j), .ref b] := SqT.of e1
    refine ⟨_, rfl, is_r (ty_tup e1) kb_ts ⟨false, rfl, iteF ?_⟩⟩
    refine ⟨_, rfl, a, _, 0, _, rfl, rfl, s1, atI_nat (j := 0) rfl, fun t ht => ⟨t, _, rfl, .inr (ht _), rfl, rfl, _, rfl, ?_⟩⟩
    show if inV (.str (rwd j)) [.str "maybe", .str "many"] = true then _ else _
    rw [in_singles_row]
    exact iteF ⟨_, rfl, a, _, 1, _, rfl, rfl, s1, atI_nat (j := 1) rfl, q b us H (Same.refl H) e2 rx⟩
  | one m x =>
    obtain ⟨a, u, rfl, e1, rx⟩ := rep_one.mp rp
    have s1 : SqT K H a [.str (owd m), u] := SqT.of e1
    refine ⟨_, rfl, is_r (ty_tup e1) kb_ts ⟨false, rfl, iteF ?_⟩⟩
    refine ⟨_, rfl, a, _, 0, _, rfl, rfl, s1, atI_nat (j := 0) rfl, fun t ht => ⟨t, _, rfl, .inr (ht _), rfl, rfl, _, rfl, ?_⟩⟩
    show if inV (.str (owd m)) [.str "maybe", .str "many"] = true then _ else _
    rw [in_singles_one]
    refine iteT ⟨_, rfl, a, _, 1, _, rfl, rfl, s1, atI_nat (j := 1) rfl, (by show 1 ≤ sizeLine; decide), fun t ht => q t [u] _ (same_upd ht) upd_same ?_⟩
    show Reps _ [x] [u]
    rw [Reps]
    exact ⟨u, [], rfl, rep_mono (Same.tups (same_upd ht)) x u rx, by rw [Reps]⟩
theorem ok_l_inside (p : Prog K mg) : FnOk P w K mg base CX0 1 p.d_l_inside.f p.d_l_inside.fd ["_law_expression_here"] spParts := by
  refine p.d_l_inside.F.ok sc_l_inside (fun vs H Q E h => ?_) (fun cdv A outer s H vs Q E hr h => ?_)
  · obtain ⟨v, e, rfl, _⟩ := h
    rfl
  obtain ⟨v, e, rfl, rp, q⟩ := h
  refine ⟨_, pss_cons (ps_if (pt_val (pe_is p.z_isinstance p.z_str rfl rfl boot_str' (pv 0))) (pss_one (ps_ret (pe_tup pa_nil))) pss_nil)
    (pss_one (ps_ret (pe_ifExp (pt_cmpR op_in_seq (pe_ix ix_tup (pv 0) pe_int (fun _ _ => rfl)) (pe_lst (pa_cons pe_str (pa_cons pe_str pa_nil))) (by rfl)) (pe_tup (pa_cons (pe_ix ix_tup (pv 0) pe_int (fun _ _ => rfl)) pa_nil)) (pe_ix ix_tup (pv 0) pe_int (fun _ _ => rfl))))), ?_⟩
  cases e with
  | leaf l =>
    rw [rep_leaf] at rp
    subst rp
    exact ⟨_, rfl, is_r (ty_str _) kb_ss ⟨true, rfl, iteT ⟨Nat.zero_le _, fun t ht => q t [] _ (same_upd ht) upd_same (by show Reps _ [] []; rw [Reps])⟩⟩⟩
  | row j ps =>
    obtain ⟨a, b, us, rfl, e1, e2, rx⟩ := rep_row.mp rp
    have s1 : SqT K H a [.str (rwd j), .ref b] := SqT.of e1
    refine ⟨_, rfl, is_r (ty_tup e1) kb_ts ⟨false, rfl, iteF ?_⟩⟩
    refine ⟨_, rfl, a, _, 0, _, rfl, rfl, s1, atI_nat (j := 0) rfl, lineT (by decide), fun t ht => ⟨t, _, rfl, .inl (SqL.of upd_same), rfl, rfl, _, rfl, ?_⟩⟩
    show if inV (.str (rwd j)) [.str "maybe", .str "many"] = true then _ else _
    rw [in_singles_row]
    have sm := same_upd (o := .lst [.str "maybe", .str "many"]) ht
    exact iteF ⟨_, rfl, a, _, 1, _, rfl, rfl, SqT.of (sm _ _ e1), atI_nat (j := 1) rfl, q b us _ sm (sm _ _ e2) (reps_mono (Same.tups sm) rx)⟩
  | one m x =>
    obtain ⟨a, u, rfl, e1, rx⟩ := rep_one.mp rp
    have s1 : SqT K H a [.str (owd m), u] := SqT.of e1
    refine ⟨_, rfl, is_r (ty_tup e1) kb_ts ⟨false, rfl, iteF ?_⟩⟩
    refine ⟨_, rfl, a, _, 0, _, rfl, rfl, s1, atI_nat (j := 0) rfl, lineT (by decide), fun t ht => ⟨t, _, rfl, .inl (SqL.of upd_same), rfl, rfl, _, rfl, ?_⟩⟩
    show if inV (.str (owd m)) [.str "maybe", .str "many"] = true then _ else _
    rw [in_singles_one]
    have sm := same_upd (o := .lst [.str "maybe", .str "many"]) ht
    refine iteT ⟨_, rfl, a, _, 1, _, rfl, rfl, SqT.of (sm _ _ e1), atI_nat (j := 1) rfl, (by show 1 ≤ sizeLine; decide), fun t2 ht2 => q t2 [u] _ (sm.trans (same_upd ht2)) upd_same ?_⟩
    show Reps _ [x] [u]
    rw [Reps]
    exact ⟨u, [], rfl, rep_mono (Same.tups (sm.trans (same_upd ht2))) x u rx, by rw [Reps]⟩
/-! ### letters_of, _law_letters -/
def spLetters (n : Nat) : Sp := fun vs H Q _ => ∃ (v : V) (e : Ex) (o : Option Bool), vs = [v] ∧ Rep H e v ∧ Ok o e ∧ depth e < n ∧ (lets e).length ≤ 1000 ∧ ∀ H', Same H H' → Q (wV (lets e)) H'
theorem parts_ok {e : Ex} {o : Option Bool} (h : Ok o e) : (parts e).length ≤ 3 ∧ ∀ x ∈ parts e, ∃ o, Ok o x := by
  cases e with
  | leaf l => exact ⟨by show 0 ≤ 3; omega, fun x hx => nomatch hx⟩
  | row j ps =>
    rw [Ok] at h
    exact ⟨h.2.2.1, fun x hx => ⟨_, oks_iff.mp h.2.2.2 x hx⟩⟩
  | one m y =>
    rw [Ok] at h
    refine ⟨by show 1 ≤ 3; omega, fun x hx => ⟨none, ?_⟩⟩
    have : x = y := by simpa [parts] using hx
    rw [this]; exact h
theorem len_part {ls : List Wd} {l : Wd} (h : l ∈ ls) : l.length ≤ ls.flatten.length := by
  induction ls with
  | nil => cases h
  | cons a r ih =>
    rw [List.flatten_cons, List.length_append]
    rcases List.mem_cons.mp h with e | h
    · subst e; omega
    · have := ih h; omega
theorem ok_letters_of (p : Prog K mg) : ∀ n, FnOk P w K mg base CX0 (n + 1) p.d_letters_of.f p.d_letters_of.fd ["expression"] (spLetters n)
  | 0 => fn_none fun vs H Q E h => by
    obtain ⟨v, e, o, _, _, _, h, _⟩ := h
    exact absurd h (Nat.not_lt_zero _)
  | n + 1 => by
    have G := ok_letters_of p n
    refine p.d_letters_of.F.ok sc_letters_of (fun vs H Q E h => ?_) (fun cdv A outer s H vs Q E hr h => ?_)
    · obtain ⟨v, e, o, rfl, _⟩ := h
      rfl
    obtain ⟨v, e, o, rfl, rp, ok, hd, hl, q⟩ := h
    refine ⟨_, pss_cons (ps_if (pt_val (pe_is p.z_isinstance p.z_str rfl rfl boot_str' (pv 0))) (pss_one (ps_ret (pv 0))) pss_nil)
      (pss_one (ps_ret (pe_join pe_str (pe_lc (own := [("part", 1)]) (g := gName 1) (tt := tYes) rfl sc_letters_of.nd (pi_tup (pe_d _ (ok_parts_of p) (hr.mono (Nat.le_add_left 1 n)) rfl (pa_cons (pv 0) pa_nil)))
          (blkOk_by (N := ["expression", "part"]) (sc := defScope s_letters_of) (by decide +kernel)) (fun _ _ _ _ _ => pg_name (i := 1) sc_letters_of.nd rfl (Or.inl rfl)) (fun _ _ _ _ _ => pts_nil)
          (fun _ _ _ _ _ => pe_d _ G hr rfl (pa_cons (pv 1) pa_nil)))))), ?_⟩
    by_cases hleaf : ∃ l, e = .leaf l
    · obtain ⟨l, rfl⟩ := hleaf
      rw [rep_leaf] at rp
      subst rp
      refine ⟨_, rfl, is_r (ty_str _) kb_ss ⟨true, rfl, iteT ⟨_, rfl, ?_⟩⟩⟩
      have := q H (Same.refl H)
      rwa [lets] at this
    · have hleaf : ∀ l, e ≠ .leaf l := fun l z => hleaf ⟨l, z⟩
      have hle := lets_parts hleaf
      obtain ⟨a, z, u, rfl, e1⟩ := rep_ref rp hleaf
      refine ⟨_, rfl, is_r (ty_tup e1) kb_ts ⟨false, rfl, iteF ?_⟩⟩
      obtain ⟨hp3, hpo⟩ := parts_ok ok
      refine ⟨⟨_, rfl⟩, _, rfl, _, e, rfl, rp, fun b us H1 sm1 e2 rx => ⟨b, rfl, ⟨us, SqT.of e2⟩, fun D hD => ?_⟩⟩
      have hul := reps_len rx
      refine lc_rel wa_tupV (fun u y _ => ∀ x ∈ parts e, Rep H1 x u → y = wV (lets x)) hD (lineT (by omega)) (fun _ _ _ _ _ _ h => h) (fun H' sm => SqT.of (sm _ _ e2)) (fun u H2 Q1 hu sm _ q1 => ?_) (fun H2 ys sm eD rl => ?_)
      · obtain ⟨i, ei⟩ := List.getElem?_of_mem hu
        obtain ⟨x, ex, rpx⟩ := reps_get rx ei
        have hm := List.mem_of_getElem? ex
        obtain ⟨ox, okx⟩ := hpo x hm
        have hdx := parts_depth hm
        have hlx : (lets x).length ≤ 1000 := Nat.le_trans (len_part (List.mem_map.mpr ⟨x, hm, rfl⟩)) (by rw [← hle]; exact hl)
        refine ⟨_, rfl, u, x, ox, rfl, rep_mono (Same.tups sm) x u rpx, okx, by omega, hlx, fun H' s' => q1 _ H' s' fun x' hx' rp' => ?_⟩
        exact congrArg (fun x => wV (lets x)) (rep_inj rpx rp')
      · have ey := rl_map rx rl
        refine ⟨_, D, (parts e).map fun x => T (lets x), rfl, rfl, .inl (SqL.of (by rw [eD, ey, List.map_map]; rfl)), ?_, ?_⟩
        · have e3 : (parts e).map (fun x => T (lets x)) = ((parts e).map lets).map T := by rw [List.map_map]; rfl
          rw [e3]
          exact join_size ((parts e).map lets) (by rw [← hle]; exact hl)
        · have e3 : (parts e).map (fun x => T (lets x)) = ((parts e).map lets).map T := by rw [List.map_map]; rfl
          rw [e3, join_T, ← hle]
          exact q H2 (sm1.trans sm)
theorem ok_l_letters (p : Prog K mg) : ∀ n, FnOk P w K mg base CX0 (n + 1) p.d_l_letters.f p.d_l_letters.fd ["_law_expression_here"] (spLetters n)
  | 0 => fn_none fun vs H Q E h => by
    obtain ⟨v, e, o, _, _, _, h, _⟩ := h
    exact absurd h (Nat.not_lt_zero _)
  | n + 1 => by
    have G := ok_l_letters p n
    refine p.d_l_letters.F.ok sc_l_letters (fun vs H Q E h => ?_) (fun cdv A outer s H vs Q E hr h => ?_)
    · obtain ⟨v, e, o, rfl, _⟩ := h
      rfl
    obtain ⟨v, e, o, rfl, rp, ok, hd, hl, q⟩ := h
    refine ⟨_, pss_cons (ps_if (pt_val (pe_is p.z_isinstance p.z_str rfl rfl boot_str' (pv 0))) (pss_one (ps_ret (pv 0))) pss_nil)
      (pss_one (ps_ret (pe_join pe_str (pe_lc (own := [("_law_part", 1)]) (g := gName 1) (tt := tYes) rfl sc_l_letters.nd (pi_tup (pe_d _ (ok_l_inside p) (hr.mono (Nat.le_add_left 1 n)) rfl (pa_cons (pv 0) pa_nil)))
          (blkOk_by (N := ["_law_expression_here", "_law_part"]) (sc := defScope s_l_letters) (by decide +kernel)) (fun _ _ _ _ _ => pg_name (i := 1) sc_l_letters.nd rfl (Or.inl rfl)) (fun _ _ _ _ _ => pts_nil)
          (fun _ _ _ _ _ => pe_d _ G hr rfl (pa_cons (pv 1) pa_nil)))))), ?_⟩
    by_cases hleaf : ∃ l, e = .leaf l
    · obtain ⟨l, rfl⟩ := hleaf
      rw [rep_leaf] at rp
      subst rp
      refine ⟨_, rfl, is_r (ty_str _) kb_ss ⟨true, rfl, iteT ⟨_, rfl, ?_⟩⟩⟩
      have := q H (Same.refl H)
      rwa [lets] at this
    · have hleaf : ∀ l, e ≠ .leaf l := fun l z => hleaf ⟨l, z⟩
      have hle := lets_parts hleaf
      obtain ⟨a, z, u, rfl, e1⟩ := rep_ref rp hleaf
      refine ⟨_, rfl, is_r (ty_tup e1) kb_ts ⟨false, rfl, iteF ?_⟩⟩
      obtain ⟨hp3, hpo⟩ := parts_ok ok
      refine ⟨⟨_, rfl⟩, _, rfl, _, e, rfl, rp, fun b us H1 sm1 e2 rx => ⟨b, rfl, ⟨us, SqT.of e2⟩, fun D hD => ?_⟩⟩
      have hul := reps_len rx
      refine lc_rel wa_tupV (fun u y _ => ∀ x ∈ parts e, Rep H1 x u → y = wV (lets x)) hD (lineT (by omega)) (fun _ _ _ _ _ _ h => h) (fun H' sm => SqT.of (sm _ _ e2)) (fun u H2 Q1 hu sm _ q1 => ?_) (fun H2 ys sm eD rl => ?_)
      · obtain ⟨i, ei⟩ := List.getElem?_of_mem hu
        obtain ⟨x, ex, rpx⟩ := reps_get rx ei
        have hm := List.mem_of_getElem? ex
        obtain ⟨ox, okx⟩ := hpo x hm
        have hdx := parts_depth hm
        have hlx : (lets x).length ≤ 1000 := Nat.le_trans (len_part (List.mem_map.mpr ⟨x, hm, rfl⟩)) (by rw [← hle]; exact hl)
        refine ⟨_, rfl, u, x, ox, rfl, rep_mono (Same.tups sm) x u rpx, okx, by omega, hlx, fun H' s' => q1 _ H' s' fun x' hx' rp' => ?_⟩
        exact congrArg (fun x => wV (lets x)) (rep_inj rpx rp')
      · have ey := rl_map rx rl
        refine ⟨_, D, (parts e).map fun x => T (lets x), rfl, rfl, .inl (SqL.of (by rw [eD, ey, List.map_map]; rfl)), ?_, ?_⟩
        · have e3 : (parts e).map (fun x => T (lets x)) = ((parts e).map lets).map T := by rw [List.map_map]; rfl
          rw [e3]
          exact join_size ((parts e).map lets) (by rw [← hle]; exact hl)
        · have e3 : (parts e).map (fun x => T (lets x)) = ((parts e).map lets).map T := by rw [List.map_map]; rfl
          rw [e3, join_T, ← hle]
          exact q H2 (sm1.trans sm)
/-! ### count_of -/
def spCount (n : Nat) : Sp := fun vs H Q _ => ∃ (v : V) (e : Ex) (o : Option Bool), vs = [v] ∧ Rep H e v ∧ Ok o e ∧ depth e < n ∧ ∀ H', Same H H' → Q (.int (KM.cnt e : Nat)) H'
theorem ok_count_of (p : Prog K mg) : ∀ n, FnOk P w K mg base CX0 (n + 1) p.d_count_of.f p.d_count_of.fd ["expression"] (spCount n)
  | 0 => fn_none fun vs H Q E h => by
    obtain ⟨v, e, o, _, _, _, h, _⟩ := h
    exact absurd h (Nat.not_lt_zero _)
  | n + 1 => by
    have G := ok_count_of p n
    refine p.d_count_of.F.ok sc_count_of (fun vs H Q E h => ?_) (fun cdv A outer s H vs Q E hr h => ?_)
    · obtain ⟨v, e, o, rfl, _⟩ := h
      rfl
    obtain ⟨v, e, o, rfl, rp, ok, hd, q⟩ := h
    refine ⟨_, pss_one (ps_ret (pe_op op_add pe_int (pe_callB (cr_sum rfl) (by rfl) p.z_sum (by decide +kernel) (pa_cons (pe_lc (own := [("part", 1)]) (g := gName 1) (tt := tYes) rfl sc_count_of.nd (pi_tup (pe_d _ (ok_parts_of p) (hr.mono (Nat.le_add_left 1 n)) rfl (pa_cons (pv 0) pa_nil)))
          (blkOk_by (N := ["expression", "part"]) (sc := defScope s_count_of) (by decide +kernel)) (fun _ _ _ _ _ => pg_name (i := 1) sc_count_of.nd rfl (Or.inl rfl)) (fun _ _ _ _ _ => pts_nil)
          (fun _ _ _ _ _ => pe_d _ G hr rfl (pa_cons (pv 1) pa_nil))) pa_nil)))), ?_⟩
    obtain ⟨hp3, hpo⟩ := parts_ok ok
    refine ⟨_, rfl, _, e, rfl, rp, fun b us H1 sm1 e2 rx => ⟨b, rfl, ⟨us, SqT.of e2⟩, fun D hD => ?_⟩⟩
    have hul := reps_len rx
    refine lc_rel wa_tupV (fun u y _ => ∀ x ∈ parts e, Rep H1 x u → y = .int (KM.cnt x : Nat)) hD (lineT (by omega)) (fun _ _ _ _ _ _ h => h) (fun H' sm => SqT.of (sm _ _ e2)) (fun u H2 Q1 hu sm _ q1 => ?_) (fun H2 ys sm eD rl => ?_)
    · obtain ⟨i, ei⟩ := List.getElem?_of_mem hu
      obtain ⟨x, ex, rpx⟩ := reps_get rx ei
      have hm := List.mem_of_getElem? ex
      obtain ⟨ox, okx⟩ := hpo x hm
      have hdx := parts_depth hm
      refine ⟨_, rfl, u, x, ox, rfl, rep_mono (Same.tups sm) x u rpx, okx, by omega, fun H' s' => q1 _ H' s' fun x' hx' rp' => ?_⟩
      exact congrArg (fun x => V.int (KM.cnt x : Nat)) (rep_inj rpx rp')
    · have ey := rl_map rx rl
      refine ⟨D, (parts e).map fun x => ((KM.cnt x : Nat) : Int), rfl, SqL.of (by rw [eD, ey, List.map_map]; rfl), _, _, rfl, rfl, ?_⟩
      have e3 : (1 : Int) + ((parts e).map fun x => ((KM.cnt x : Nat) : Int)).sum = (KM.cnt e : Nat) := by
        rw [cnt_parts e]
        have : ∀ l : List Ex, (l.map fun x => ((KM.cnt x : Nat) : Int)).sum = (((l.map KM.cnt).sum : Nat) : Int) := by
          intro l
          induction l with
          | nil => rfl
          | cons a r ih => rw [List.map_cons, List.sum_cons, List.map_cons, List.sum_cons, ih]; omega
        rw [this]; omega
      show Q (.int ((1 : Int) + ((parts e).map fun x => ((KM.cnt x : Nat) : Int)).sum)) H2
      rw [e3]
      exact q H2 (sm1.trans sm)
/-! ### is_long, check_long -/
structure WF (e : Ex) : Prop where
  ok : Ok none e
  dp : depth e < 6
  lt : (lets e).length ≤ 40
  ct : KM.cnt e ≤ 200
def spLong : Sp := fun vs H Q _ => ∃ (v : V) (e : Ex), vs = [v] ∧ Rep H e v ∧ WF e ∧ ∀ H', Same H H' → Q (.bl true) H'
theorem ok_is_long (p : Prog K mg) : FnOk P w K mg base CX0 8 p.d_is_long.f p.d_is_long.fd ["value"] spLong := by
  refine p.d_is_long.F.ok sc_is_long (fun vs H Q E h => ?_) (fun cdv A outer s H vs Q E hr h => ?_)
  · obtain ⟨v, e, rfl, _⟩ := h
    rfl
  obtain ⟨v, e, rfl, rp, wf, q⟩ := h
  refine ⟨_, pss_cons (ps_if (pt_not (pt_val (pe_d _ (ok_has_form p 6) hr rfl (pa_cons (pv 0) (pa_cons pe_str (pa_cons (pe_gi p.c_DEEPEST rfl) pa_nil)))))) (pss_one (ps_ret pe_bl)) pss_nil)
    (pss_one (ps_ret (pe_and (pe_cmpR op_le (pe_callB call_len_str (by rfl) p.z_len PySem.boot_len (pa_cons (pe_d _ (ok_letters_of p 6) hr rfl (pa_cons (pv 0) pa_nil)) pa_nil)) (pe_gi p.c_LETTERS_LONG rfl) (nomark _))
      (pe_one (pe_cmpR op_le (pe_d _ (ok_count_of p 6) hr rfl (pa_cons (pv 0) pa_nil)) (pe_gi p.c_PARTS rfl) (nomark _)))))), ?_⟩
  have h1 := wf.dp
  have h2 := wf.lt
  have h3 := wf.ct
  refine ⟨_, rfl, v, e, none, 40, rfl, rp, wf.ok, h1, by omega, fun H1 s1 => ⟨_, rfl, iteF ?_⟩⟩
  refine ⟨_, rfl, v, e, none, rfl, rep_mono (Same.tups s1) e v rp, wf.ok, h1, by omega, fun H2 s2 => ?_⟩
  refine ⟨_, rfl, lineT (by rw [T_len]; omega), _, _, rfl, rfl, _, rfl, iteY (by rw [T_len]; omega) ?_⟩
  refine ⟨_, rfl, v, e, none, rfl, rep_mono (Same.tups (s1.trans s2)) e v rp, wf.ok, h1, fun H3 s3 => ?_⟩
  refine ⟨_, _, rfl, rfl, ?_⟩
  show Q (.bl (decide (((KM.cnt e : Nat) : Int) ≤ 200))) H3
  rw [decide_eq_true (show ((KM.cnt e : Nat) : Int) ≤ 200 by omega)]
  exact q H3 ((s1.trans s2).trans s3)
def spCheckL : Sp := fun vs H Q _ => ∃ (v : V) (e : Ex), vs = [v] ∧ Rep H e v ∧ WF e ∧ ∀ H', Same H H' → Q .non H'
theorem ok_check_long (p : Prog K mg) : FnOk P w K mg base CX0 9 p.d_check_long.f p.d_check_long.fd ["value"] spCheckL := by
  refine p.d_check_long.F.ok sc_check_long (fun vs H Q E h => ?_) (fun cdv A outer s H vs Q E hr h => ?_)
  · obtain ⟨v, e, rfl, _⟩ := h
    rfl
  obtain ⟨v, e, rfl, rp, wf, q⟩ := h
  refine ⟨_, pss_one (ps_if (pt_not (pt_val (pe_d _ (ok_is_long p) hr rfl (pa_cons (pv 0) pa_nil)))) (pss_one ps_never) pss_nil), ?_⟩
  exact ⟨_, rfl, v, e, rfl, rp, wf, fun H1 s1 => ⟨_, rfl, iteF (q H1 s1)⟩⟩
/-! ### is_word, check_word -/
def spWord : Sp := fun vs H Q _ => ∃ l : Wd, vs = [wV l] ∧ l.length ≤ 24 ∧ (∀ c ∈ l, Abc c) ∧ ∀ H', Same H H' → Q (.bl true) H'
theorem ok_is_word (p : Prog K mg) : FnOk P w K mg base CX0 1 p.d_is_word.f p.d_is_word.fd ["value"] spWord := by
  refine p.d_is_word.F.ok sc_is_word (fun vs H Q E h => ?_) (fun cdv A outer s H vs Q E hr h => ?_)
  · obtain ⟨l, rfl, _⟩ := h
    rfl
  obtain ⟨l, rfl, hl, ha, q⟩ := h
  refine ⟨_, pss_one (ps_ret (pe_and (pe_is p.z_isinstance p.z_str rfl rfl boot_str' (pv 0)) (pe_and (pe_cmpR op_le (pe_callB call_len_str (by rfl) p.z_len PySem.boot_len (pa_cons (pv 0) pa_nil)) (pe_gi p.c_LONGEST rfl) (nomark _))
    (pe_one (pe_callB (cr_all rfl) (by rfl) p.z_all (by decide +kernel) (pa_cons (pe_lc (own := [("letter", 1)]) (g := gName 1) (tt := tYes) rfl sc_is_word.nd (pi_str (pv 0))
          (blkOk_by (N := ["value", "letter"]) (sc := defScope s_is_word) (by decide +kernel)) (fun _ _ _ _ _ => pg_name (i := 1) sc_is_word.nd rfl (Or.inl rfl)) (fun _ _ _ _ _ => pts_nil)
          (fun _ _ _ _ _ => pe_cmpR op_in_sign (pv 1) (pe_gs p.c_LETTERS rfl) (by rfl))) pa_nil)))))), ?_⟩
  refine ⟨_, rfl, is_r (ty_str _) kb_ss ⟨true, rfl, iteT ⟨_, rfl, _, rfl, lineT (by rw [T_len]; omega), _, _, rfl, rfl, _, rfl, iteY (by rw [T_len]; omega) ?_⟩⟩⟩
  refine ⟨_, rfl, _, rfl, fun D hD => lc_fn wa_str (fun _ => .bl true) hD (lineT (by omega)) (fun _ _ => True.intro) (fun c H1 Q1 hc sm q1 => ?_) (fun H1 sm eD => ?_)⟩
  · refine ⟨_, rfl, c, _, rfl, rfl, ?_⟩
    rw [decide_eq_true (abc_in (ha c hc))]
    exact q1 H1 (Same.refl H1)
  · refine ⟨D, l.map (fun _ => true), rfl, SqL.of (by rw [eD, List.map_map]; rfl), ?_⟩
    have : (l.map (fun _ => true)).all id = true := by simp
    rw [this]
    exact q H1 sm
def spCheckW : Sp := fun vs H Q _ => ∃ l : Wd, vs = [wV l] ∧ l.length ≤ 24 ∧ (∀ c ∈ l, Abc c) ∧ ∀ H', Same H H' → Q .non H'
theorem ok_check_word (p : Prog K mg) : FnOk P w K mg base CX0 2 p.d_check_word.f p.d_check_word.fd ["word"] spCheckW := by
  refine p.d_check_word.F.ok sc_check_word (fun vs H Q E h => ?_) (fun cdv A outer s H vs Q E hr h => ?_)
  · obtain ⟨l, rfl, _⟩ := h
    rfl
  obtain ⟨l, rfl, hl, ha, q⟩ := h
  refine ⟨_, pss_one (ps_if (pt_not (pt_val (pe_d _ (ok_is_word p) hr rfl (pa_cons (pv 0) pa_nil)))) (pss_one ps_never) pss_nil), ?_⟩
  exact ⟨_, rfl, l, rfl, hl, ha, fun H1 s1 => ⟨_, rfl, iteF (q H1 s1)⟩⟩
end
end K05

set_option Elab.async false
set_option linter.all false
set_option maxRecDepth 100000
set_option maxHeartbeats 4000000
/-! K05: ends_in, is_matched, matches. -/
namespace K05
open PySem PySem.Spec PyProof.Rows L2 KM
/-- ns are the ends of what L matches in w from one of ss on -/
structure IsEnds (L : Wd → Prop) (w : Wd) (ss ns : List Nat) : Prop where
  nd : ns.Nodup
  le : ∀ j ∈ ns, j ≤ w.length
  iff : ∀ j, j ∈ ns ↔ ∃ i ∈ ss, Hit L w i j
theorem IsEnds.len {L : Wd → Prop} {w : Wd} {ss ns : List Nat} (h : IsEnds L w ss ns) : ns.length ≤ w.length + 1 := nodup_le h.nd h.le
theorem cut_at {w : Wd} {i k : Nat} (hi : i ≤ w.length) : cutS (T w) (some (i : Int)) (some ((i : Int) + (k : Int))) = T ((w.drop i).take k) := by
  unfold cutS
  rw [T_len, T_cps]
  have e1 : HT.sIx w.length 0 (some (i : Int)) = i := by rw [HT.sIx_nat]; omega
  have e2 : HT.sIx w.length w.length (some ((i : Int) + (k : Int))) = min (i + k) w.length := by
    have : ((i : Int) + (k : Int)) = ((i + k : Nat) : Int) := by omega
    rw [this, HT.sIx_nat]
  rw [e1, e2]
  congr 2
  by_cases h : i + k ≤ w.length
  · rw [Nat.min_eq_left h]; congr 1; omega
  · rw [Nat.min_eq_right (by omega), List.take_of_length_le (by rw [List.length_drop]; omega), List.take_of_length_le (by rw [List.length_drop]; omega)]
theorem dec_T (l m : Wd) : decide (V.str (T l) = V.str (T m)) = decide (l = m) := by
  by_cases h : l = m
  · subst h; simp
  · rw [decide_eq_false h, decide_eq_false fun z => h (T_inj' z)]
theorem ends_leaf {l w : Wd} {ss : List Nat} (hn : ss.Nodup) (hb : ∀ i ∈ ss, i ≤ w.length) : IsEnds (Lang (.leaf l)) w ss ((ss.filter fun i => decide ((w.drop i).take l.length = l)).map (· + l.length)) := by
  have mem : ∀ j, j ∈ (ss.filter fun i => decide ((w.drop i).take l.length = l)).map (· + l.length) ↔ ∃ i ∈ ss, Hit (Lang (.leaf l)) w i j := by
    intro j
    rw [List.mem_map]
    constructor
    · rintro ⟨i, hi, rfl⟩
      obtain ⟨h1, h2⟩ := List.mem_filter.mp hi
      exact ⟨i, h1, hit_leaf.mpr ⟨of_decide_eq_true h2, rfl⟩⟩
    · rintro ⟨i, hi, h⟩
      obtain ⟨h1, rfl⟩ := hit_leaf.mp h
      exact ⟨i, List.mem_filter.mpr ⟨hi, decide_eq_true h1⟩, rfl⟩
  refine ⟨?_, fun j hj => ?_, mem⟩
  · exact List.pairwise_map.mpr ((hn.filter _).imp fun {a b} h z => h (by omega))
  · obtain ⟨i, hi, h⟩ := (mem j).mp hj
    exact (h.le (hb i hi)).2
/-- what sorted hands back of indexes -/
theorem perm_nat {F : List Nat} {ys : List Int} (h : ys.Perm (F.map fun n : Nat => (n : Int))) : ∃ ns : List Nat, ys = ns.map (fun n : Nat => (n : Int)) ∧ ns.Perm F := by
  refine ⟨ys.map Int.toNat, ?_, ?_⟩
  · rw [List.map_map]
    have : ∀ y ∈ ys, ((fun n : Nat => (n : Int)) ∘ Int.toNat) y = y := fun y hy => by
      obtain ⟨n, _, rfl⟩ := List.mem_map.mp (h.mem_iff.mp hy)
      simp
    conv => lhs; rw [← List.map_id ys]
    exact (List.map_congr_left this).symm
  · have := h.map Int.toNat
    rw [List.map_map] at this
    have e : F.map (Int.toNat ∘ fun n : Nat => (n : Int)) = F := by
      conv => rhs; rw [← List.map_id F]
      exact List.map_congr_left fun n _ => by simp
    rwa [e] at this
theorem mem_take_succ {α : Type} {l : List α} {i : Nat} {x : α} (e : l[i]? = some x) (y : α) : y ∈ l.take (i + 1) ↔ y ∈ l.take i ∨ y = x := by
  rw [List.take_add_one, e, List.mem_append]
  simp
theorem dk_keys (F : List Nat) : (dk nk F).map (·.1) = (F.map fun n : Nat => (n : Int)).map Sum.inl := by
  unfold dk
  rw [List.map_map, List.map_map]; rfl
theorem isEnds_perm {L : Wd → Prop} {w : Wd} {ss ns F : List Nat} (h : IsEnds L w ss F) (p : ns.Perm F) : IsEnds L w ss ns :=
  ⟨p.nodup_iff.mpr h.nd, fun j hj => h.le j (p.mem_iff.mp hj), fun j => (p.mem_iff).trans (h.iff j)⟩
theorem wd_ne1 : ¬ V.str (rwd false) = V.str "join" := by decide +kernel
theorem wd_ne2 (m : Bool) : ¬ V.str (owd m) = V.str "join" := by cases m <;> decide +kernel
theorem wd_ne3 (j : Bool) : ¬ V.str (rwd j) = V.str "many" := by cases j <;> decide +kernel
theorem wd_ne4 : ¬ V.str (owd false) = V.str "many" := by decide +kernel
section
variable {P : Program} {w : World} {K : PySem.W.Frag} {mg : Str → Option Value} {base : Heap}
def spEnds (K : PySem.W.Frag) (n : Nat) : Sp := fun vs H Q _ => ∃ (v : V) (e : Ex) (o : Option Bool) (wd : Wd) (a : Addr) (ss : List Nat), vs = [v, wV wd, .ref a] ∧ Rep H e v ∧ Ok o e ∧ depth e < n ∧ wd.length ≤ 24 ∧
  SqL K H a (ss.map nV) ∧ ss.Nodup ∧ (∀ i ∈ ss, i ≤ wd.length) ∧ ∀ (b : Addr) (ns : List Nat) (H' : Hp), Same H H' → SqL K H' b (ns.map nV) → IsEnds (Lang e) wd ss ns → Q (.ref b) H'
/-- found.update({at: True for at in ends_in(part, word, starts)}) -/
theorem found_step {K : PySem.W.Frag} {n : Nat} {D : Ends} {H3 : Hp} {v u y3 y6 : Option V} {wd : Wd} {a fd : Addr} {ss F : List Nat} {x : Ex} {o : Option Bool} (hu : ∃ z, u = some z ∧ Rep H3 x z) (ok : Ok o x) (hd : depth x < n) (hw : wd.length ≤ 24) (hn : ss.Nodup) (hb : ∀ i ∈ ss, i ≤ wd.length)
    (hS : SqL K H3 a (ss.map nV)) (eF : H3 fd = some (.dK (dk nk F))) (Fn : F.Nodup) (Fb : ∀ j ∈ F, j ≤ wd.length)
    (q : ∀ H' F', But fd H3 H' → H' fd = some (.dK (dk nk F')) → F'.Nodup → (∀ j ∈ F', j ≤ wd.length) → (∀ j, j ∈ F' ↔ j ∈ F ∨ ∃ k ∈ ss, Hit (Lang x) wd k j) → D.nx [v, some (wV wd), some (.ref a), y3, u, some (.ref fd), y6, none] H') :
    tDrop (tBM K "dict" rDUpd (tVar 5) (tCons (tDc (iList K (tCall (spEnds K n) [] E0 (tCons (tVar 4) (tCons (tVar 1) (tCons (tVar 2) tNil))))) (gName 7) tYes (tVar 7) (tC (.bl true)) [7]) tNil)) D [v, some (wV wd), some (.ref a), y3, u, some (.ref fd), y6, none] H3 := by
  obtain ⟨z, rfl, rx⟩ := hu
  refine ⟨_, rfl, .inr (.inr (.inl ⟨rfl, .inl ⟨_, eF⟩⟩)), _, rfl, _, rfl, _, rfl, z, x, o, wd, a, ss, rfl, rx, ok, hd, hw, hS, hn, hb, fun b2 es H4 s4 hb2 ie => ⟨b2, rfl, ⟨_, hb2⟩, fun D2 hD2 => ?_⟩⟩
  have hel := ie.len
  have hFl := nodup_le Fn Fb
  refine dc_keys wa_list nk_inj (fun _ => rfl) (by show 7 < 8; decide) hD2 (Nat.lt_of_le_of_lt (show es.length ≤ 25 by omega) (by decide)) (fun H5 s5 => s5.seq hb2) (fun H5 s5 eD2 => ?_)
  have eF5 := s5 _ _ (s4 _ _ eF)
  have hne : fd ≠ D2 := ne_of_none (s4 _ _ eF) hD2
  have hal : (addAll ([] : List Nat) es).length ≤ 25 := Nat.le_trans len_addAll (by rw [List.length_nil]; omega)
  refine ⟨fd, D2, _, _, rfl, rfl, eF5, eD2, hne, by rw [dk_len, dk_len]; exact lineT (by omega), ?_⟩
  refine q _ (addAll F (addAll [] es)) ((Same.but (s4.trans s5) fd).trans (But.upd fd H5 _)) (by rw [upd_same, mergeK_dk nk_inj]) (nodup_addAll Fn) (fun j hj => ?_) (fun j => ?_)
  · rcases mem_addAll.mp hj with h | h
    · exact Fb j h
    · rcases mem_addAll.mp h with h | h
      · cases h
      · exact ie.le j h
  · rw [mem_addAll, mem_addAll, ← ie.iff j]
    simp
/-- for part in parts: found.update(..) -/
theorem found_loop {K : PySem.W.Frag} {n : Nat} {D : Ends} {H H2 : Hp} {σ : L2.St} {v y3 x4 y6 : Option V} {wd : Wd} {a fd b2 : Addr} {ss F0 : List Nat} {ps : List Ex} {us : List V} {o : Option Bool} (hσ : σ = [v, some (wV wd), some (.ref a), y3, x4, some (.ref fd), y6, none]) (rx : Reps H2 ps us) (h3 : ps.length ≤ 3)
    (ok : ∀ x ∈ ps, Ok o x) (hd : ∀ x ∈ ps, depth x < n) (hw : wd.length ≤ 24) (hn : ss.Nodup) (hb : ∀ i ∈ ss, i ≤ wd.length)
    (sm0 : Same H H2) (hfd : H fd = none) (hS : SqL K H a (ss.map nV)) (e2 : H2 b2 = some (.tup us)) (eF0 : H2 fd = some (.dK (dk nk F0))) (Fn0 : F0.Nodup) (Fb0 : ∀ j ∈ F0, j ≤ wd.length)
    (q : ∀ H' F x4, Same H H' → H' fd = some (.dK (dk nk F)) → F.Nodup → (∀ j ∈ F, j ≤ wd.length) → (∀ j, j ∈ F ↔ j ∈ F0 ∨ ∃ x ∈ ps, ∃ k ∈ ss, Hit (Lang x) wd k j) → D.nx [v, some (wV wd), some (.ref a), y3, x4, some (.ref fd), y6, none] H') :
    ∃ W : Nat → Nat → L2.St → Hp → Prop, (∃ m, W 0 m σ H2) ∧ ∀ i m σ H, W i m σ H →
      ((Itt K b2).stop i H ∧ D.nx σ H) ∨ ((Itt K b2).go i H ∧ ∃ N : L2.St → Hp → Prop, (∀ σ' H', N σ' H' → ∃ m', m' < m ∧ W (i + 1) m' σ' H') ∧ ∀ x H', (Itt K b2).yld i H x H' → gName 4 x σ H' fun σ2 H2 =>
        tDrop (tBM K "dict" rDUpd (tVar 5) (tCons (tDc (iList K (tCall (spEnds K n) [] E0 (tCons (tVar 4) (tCons (tVar 1) (tCons (tVar 2) tNil))))) (gName 7) tYes (tVar 7) (tC (.bl true)) [7]) tNil)) { D with nx := N, ct := N, bk := D.nx } σ2 H2) := by
  subst hσ
  have hul := reps_len rx
  have hne : ∀ {b : Addr} {xs : List V}, H2 b = some (.tup xs) → b ≠ fd := fun e => ne_of e eF0 (by intro z; cases z)
  refine for_a (wa_tupV (xs := us)) (fun i σ H' => ∃ x4 F, σ = [v, some (wV wd), some (.ref a), y3, x4, some (.ref fd), y6, none] ∧ But fd H2 H' ∧ H' fd = some (.dK (dk nk F)) ∧ F.Nodup ∧ (∀ j ∈ F, j ≤ wd.length) ∧ ∀ j, j ∈ F ↔ j ∈ F0 ∨ ∃ x ∈ ps.take i, ∃ k ∈ ss, Hit (Lang x) wd k j) ?_ ?_ ?_ ?_
  · refine ⟨x4, F0, rfl, fun b o _ e => e, eF0, Fn0, Fb0, fun j => ?_⟩
    rw [List.take_zero]
    simp
  · rintro i σ H3 _ ⟨_, _, _, bt, _⟩
    exact SqT.of (bt _ _ (hne e2) e2)
  · rintro i u σ H3 eu ⟨x4, F, rfl, bt, eF, Fn, Fb, Fi⟩
    obtain ⟨x, ex, rpx⟩ := reps_get rx eu
    have hm := List.mem_of_getElem? ex
    have sm3 : Same H H3 := But.same sm0 bt hfd
    have rpx3 : Rep H3 x u := rep_mono (fun b xs e => bt b _ (hne e) e) x u rpx
    refine found_step ⟨u, rfl, rpx3⟩ (ok x hm) (hd x hm) hw hn hb (sm3.seq hS) eF Fn Fb fun H' F' bt' eF' Fn' Fb' Fi' => ?_
    refine ⟨_, F', rfl, bt.trans bt', eF', Fn', Fb', fun j => ?_⟩
    rw [Fi' j, Fi j, or_assoc]
    refine or_congr_right ⟨?_, ?_⟩
    · rintro (⟨y, hy, k⟩ | k)
      · exact ⟨y, (mem_take_succ ex y).mpr (.inl hy), k⟩
      · exact ⟨x, (mem_take_succ ex x).mpr (.inr rfl), k⟩
    · rintro ⟨y, hy, k⟩
      rcases (mem_take_succ ex y).mp hy with hy | rfl
      · exact .inl ⟨y, hy, k⟩
      · exact .inr k
  · rintro σ H3 ⟨x4, F, rfl, bt, eF, Fn, Fb, Fi⟩
    rw [hul, List.take_length] at Fi
    exact q H3 F x4 (But.same sm0 bt hfd) eF Fn Fb Fi
theorem ok_ends_in (p : Prog K mg) : ∀ n, FnOk P w K mg base CX0 (n + 1) p.d_ends_in.f p.d_ends_in.fd ["expression", "word", "starts"] (spEnds K n)
  | 0 => fn_none fun vs H Q E h => by
    obtain ⟨v, e, o, wd, a, ss, _, _, _, h, _⟩ := h
    exact absurd h (Nat.not_lt_zero _)
  | n + 1 => by
    have G := ok_ends_in p n
    refine p.d_ends_in.F.ok sc_ends_in (fun vs H Q E h => ?_) (fun cdv A outer s H vs Q E hr h => ?_)
    · obtain ⟨v, e, o, wd, a, ss, rfl, _⟩ := h
      rfl
    obtain ⟨v, e, o, wd, a, ss, rfl, rp, ok, hd, hw, hS, hn, hb, q⟩ := h
    have N : List Str := ["expression", "word", "starts", "here", "part", "found", "fresh", "at"]
    refine ⟨_, pss_cons (ps_if (pt_val (pe_is p.z_isinstance p.z_str rfl rfl boot_str' (pv 0))) (pss_one (ps_ret (pe_lc (own := [("at", 7)]) (g := gName 7) rfl sc_ends_in.nd (pi_list (pv 2))
          (blkOk_by (N := ["expression", "word", "starts", "here", "part", "found", "fresh", "at"]) (sc := defScope s_ends_in) (by decide +kernel)) (fun _ _ _ _ _ => pg_name (i := 7) sc_ends_in.nd rfl (Or.inl rfl))
          (fun _ _ _ _ _ => pts_one (pt_cmpR op_eq (pe_slice sl_str (pv 1) (po_some (pv 7)) (po_some (pe_op op_add (pv 7) (pe_callB call_len_str (by rfl) p.z_len PySem.boot_len (pa_cons (pv 0) pa_nil))))) (pv 0) (nomark _)))
          (fun _ _ _ _ _ => pe_op op_add (pv 7) (pe_callB call_len_str (by rfl) p.z_len PySem.boot_len (pa_cons (pv 0) pa_nil)))))) pss_nil)
      (pss_cons (ps_if (pt_cmpR op_eq (pe_ix ix_tup (pv 0) pe_int (fun _ _ => rfl)) pe_str (nomark _))
        (pss_cons (ps_set (i := 3) sc_ends_in.nd rfl (.inl rfl) (pv 2))
        (pss_cons (ps_for PassesOwn.never rfl (pi_tup (pe_ix ix_tup (pv 0) pe_int (fun _ _ => rfl))) (pg_name (i := 4) sc_ends_in.nd rfl (.inl rfl))
          (pss_one (ps_set (i := 3) sc_ends_in.nd rfl (.inl rfl) (pe_d _ G hr rfl (pa_cons (pv 4) (pa_cons (pv 1) (pa_cons (pv 3) pa_nil)))))))
        (pss_one (ps_ret (pv 3))))) pss_nil)
      (pss_cons (ps_set (i := 5) sc_ends_in.nd rfl (.inr rfl) (pe_ifExp (pt_cmpR op_in_seq (pe_ix ix_tup (pv 0) pe_int (fun _ _ => rfl)) (pe_gt p.c_SINGLES rfl) (by rfl))
          (pe_dc (own := [("at", 7)]) (g := gName 7) (tt := tYes) rfl sc_ends_in.nd (pi_list (pv 2)) (blkOk_by (N := ["expression", "word", "starts", "here", "part", "found", "fresh", "at"]) (sc := defScope s_ends_in) (by decide +kernel))
            (fun _ _ _ _ _ => pg_name (i := 7) sc_ends_in.nd rfl (Or.inl rfl)) (fun _ _ _ _ _ => pts_nil) (fun _ _ _ _ _ => pv 7) (fun _ _ _ _ _ => pe_bl)) pe_dnewK))
      (pss_cons (ps_if (pt_cmpR op_eq (pe_ix ix_tup (pv 0) pe_int (fun _ _ => rfl)) pe_str (nomark _))
        (pss_cons (ps_set (i := 6) sc_ends_in.nd rfl (.inl rfl) (pv 2))
        (pss_cons (ps_while PassesOwn.never (pt_cmpR op_gt (pe_callB call_len_seq (by rfl) p.z_len PySem.boot_len (pa_cons (pv 6) pa_nil)) pe_int (nomark _))
          (pss_cons (ps_setLc (i := 6) (own := [("at", 7)]) (g := gName 7) rfl sc_ends_in.nd rfl rfl (sw_true rfl rfl rfl (by decide +kernel)) (pi_list (pe_d _ G hr rfl (pa_cons (pe_ix ix_tup (pv 0) pe_int (fun _ _ => rfl)) (pa_cons (pv 1) (pa_cons (pv 6) pa_nil)))))
            (blkOk_by (N := ["expression", "word", "starts", "here", "part", "found", "fresh", "at"]) (sc := defScope s_ends_in) (by decide +kernel)) (fun _ _ _ _ _ => pg_name (i := 7) sc_ends_in.nd rfl (Or.inl rfl))
            (fun _ _ _ _ _ => pts_one (pt_cmp (pc_dnotin (hu_of hr) (pv 7) (pv 5)))) (fun _ _ _ _ _ => pv 7))
          (pss_one (ps_expr (pe_bm PySem.F.plainAttrs_dict PySem.F.slot_dict_update PySem.F.type_dict_update mt_dupdate (pv 5) (pa_cons (pe_dc (own := [("at", 7)]) (g := gName 7) (tt := tYes) rfl sc_ends_in.nd (pi_list (pv 6))
            (blkOk_by (N := ["expression", "word", "starts", "here", "part", "found", "fresh", "at"]) (sc := defScope s_ends_in) (by decide +kernel)) (fun _ _ _ _ _ => pg_name (i := 7) sc_ends_in.nd rfl (Or.inl rfl)) (fun _ _ _ _ _ => pts_nil) (fun _ _ _ _ _ => pv 7) (fun _ _ _ _ _ => pe_bl)) pa_nil))))))
        (pss_one (ps_ret (pe_callB (call_sortedDI rfl) (by rfl) p.z_sorted (by decide +kernel) (pa_cons (pv 5) pa_nil)))))) pss_nil)
      (pss_cons (ps_for PassesOwn.never rfl (pi_tup (pe_d _ (ok_parts_of p) (hr.mono (Nat.le_add_left 1 n)) rfl (pa_cons (pv 0) pa_nil))) (pg_name (i := 4) sc_ends_in.nd rfl (.inl rfl))
          (pss_one (ps_expr (pe_bm PySem.F.plainAttrs_dict PySem.F.slot_dict_update PySem.F.type_dict_update mt_dupdate (pv 5) (pa_cons (pe_dc (own := [("at", 7)]) (g := gName 7) (tt := tYes) rfl sc_ends_in.nd (pi_list (pe_d _ G hr rfl (pa_cons (pv 4) (pa_cons (pv 1) (pa_cons (pv 2) pa_nil)))))
            (blkOk_by (N := ["expression", "word", "starts", "here", "part", "found", "fresh", "at"]) (sc := defScope s_ends_in) (by decide +kernel)) (fun _ _ _ _ _ => pg_name (i := 7) sc_ends_in.nd rfl (Or.inl rfl)) (fun _ _ _ _ _ => pts_nil) (fun _ _ _ _ _ => pv 7) (fun _ _ _ _ _ => pe_bl)) pa_nil)))))
      (pss_one (ps_ret (pe_callB (call_sortedDI rfl) (by rfl) p.z_sorted (by decide +kernel) (pa_cons (pv 5) pa_nil)))))))), ?_⟩
    have hlen : ∀ {F : List Nat}, F.Nodup → (∀ j ∈ F, j ≤ wd.length) → F.length ≤ 25 := fun h1 h2 => Nat.le_trans (nodup_le h1 h2) (by omega)
    have hss := hlen hn hb
    cases e with
    | leaf l =>
      rw [rep_leaf] at rp
      subst rp
      have hl : l.length ≤ 1 := by
        rw [Ok] at ok
        rcases ok with rfl | ⟨c, rfl, _⟩
        · exact Nat.zero_le _
        · exact Nat.le_refl _
      have hl2 : (T l).length ≤ sizeLine := lineT (by rw [T_len]; omega)
      refine ⟨_, rfl, is_r (ty_str _) kb_ss ⟨true, rfl, iteT ⟨_, rfl, a, rfl, ⟨_, hS⟩, fun D hD => lc_flt wa_list (fun i => decide ((wd.drop i).take l.length = l)) (fun i => nV (i + l.length)) hD (lineT (by omega)) (fun H' sm => sm.seq hS) (fun i H1 Q1 hi sm q1 => ?_) (fun i H1 Q1 hi _ sm q1 => ?_) (fun H1 sm eD => ?_)⟩⟩⟩
      · refine ⟨_, rfl, _, rfl, _, rfl, _, rfl, _, rfl, _, rfl, hl2, _, _, rfl, rfl, _, rfl, _, rfl, lineT (by rw [T_len]; omega), _, rfl, rfl, _, rfl, ?_⟩
        show Q1 (decide (V.str (cutS (T wd) (some (i : Int)) (some ((i : Int) + ((T l).length : Nat)))) = V.str (T l))) H1
        rw [T_len, cut_at (hb i hi), dec_T]
        exact q1 H1 (Same.refl H1)
      · refine ⟨_, rfl, _, rfl, _, rfl, hl2, _, _, rfl, rfl, ?_⟩
        have e : ((i : Int) + ((T l).length : Nat)) = ((i + l.length : Nat) : Int) := by rw [T_len]; omega
        show Q1 (.int ((i : Int) + ((T l).length : Nat))) H1
        rw [e]
        exact q1 H1 (Same.refl H1)
      · exact q D _ H1 sm (SqL.of (by rw [eD, List.map_map]; rfl)) (ends_leaf hn hb)
    | row j ps =>
      obtain ⟨a1, b1, us, rfl, e1, e2, rx⟩ := rep_row.mp rp
      rw [depth] at hd
      rw [Ok] at ok
      obtain ⟨ok1, ok2, ok3, ok4⟩ := ok
      have s1 : SqT K H a1 [.str (rwd j), .ref b1] := SqT.of e1
      have hul := reps_len rx
      refine ⟨_, rfl, is_r (ty_tup e1) kb_ts ⟨false, rfl, iteF ?_⟩⟩
      refine ⟨_, rfl, a1, _, 0, _, rfl, rfl, s1, atI_nat (j := 0) rfl, rfl, _, rfl, ?_⟩
      cases j with
      | true =>
        refine iteY rfl ⟨_, rfl, _, rfl, a1, _, 1, _, rfl, rfl, s1, atI_nat (j := 1) rfl, b1, rfl, ⟨us, SqT.of e2⟩, for_a (wa_tupV (xs := us)) (fun i σ H' => ∃ x4 c ns, σ = [some (.ref a1), some (wV wd), some (.ref a), some (.ref c), x4, none, none, none] ∧ Same H H' ∧ SqL K H' c (ns.map nV) ∧ IsEnds (LJ (ps.take i)) wd ss ns) ?_ ?_ ?_ ?_⟩
        · refine ⟨none, a, ss, rfl, Same.refl H, hS, hn, hb, fun j => ?_⟩
          rw [List.take_zero]
          constructor
          · intro h; exact ⟨j, h, hit_nil.mpr rfl⟩
          · rintro ⟨i, h, k⟩; rw [hit_nil.mp k]; exact h
        · rintro i σ H' _ ⟨_, _, _, _, sm, _⟩
          exact SqT.of (sm _ _ e2)
        · rintro i u σ H1 eu ⟨x4, c, ns, rfl, sm, hc, ie⟩
          obtain ⟨x, ex, rpx⟩ := reps_get rx eu
          have hm := List.mem_of_getElem? ex
          have hdx := depths_le hm
          refine ⟨_, rfl, _, rfl, _, rfl, u, x, some true, wd, c, ns, rfl, rep_mono (Same.tups sm) x u rpx, oks_iff.mp ok4 x hm, by omega, hw, hc, ie.nd, ie.le, fun b2 ms H2 s2 hb2 ie2 => ?_⟩
          refine ⟨some u, b2, ms, rfl, sm.trans s2, hb2, ie2.nd, ie2.le, fun j => ?_⟩
          rw [ie2.iff j]
          have etk : ps.take (i + 1) = ps.take i ++ [x] := by rw [List.take_add_one, ex]; rfl
          rw [etk]
          constructor
          · rintro ⟨k, hk, h⟩
            obtain ⟨i0, h0, h1⟩ := (ie.iff k).mp hk
            exact ⟨i0, h0, hit_snoc.mpr ⟨k, h1, h⟩⟩
          · rintro ⟨i0, h0, h1⟩
            obtain ⟨k, h2, h3⟩ := hit_snoc.mp h1
            exact ⟨k, (ie.iff k).mpr ⟨i0, h0, h2⟩, h3⟩
        · rintro σ H1 ⟨x4, c, ns, rfl, sm, hc, ie⟩
          rw [List.take_of_length_le (by omega)] at ie
          refine ⟨_, rfl, q c ns H1 sm hc ⟨ie.nd, ie.le, fun j => (ie.iff j).trans ?_⟩⟩
          have : Lang (.row true ps) = LJ ps := by funext x; rw [Lang]
          rw [this]
      | false =>
        refine iteN wd_ne1 ?_
        refine ⟨_, rfl, a1, _, 0, _, rfl, rfl, s1, atI_nat (j := 0) rfl, fun t ht => ⟨t, _, rfl, .inr (ht _), rfl, rfl, _, rfl, ?_⟩⟩
        show if inV (.str (rwd false)) [.str "maybe", .str "many"] = true then _ else _
        rw [in_singles_row]
        refine iteF fun fd hfd => ?_
        have sf := same_upd (o := .dK []) hfd
        refine ⟨_, rfl, a1, _, 0, _, rfl, rfl, SqT.of (sf _ _ e1), atI_nat (j := 0) rfl, rfl, _, rfl, iteN (wd_ne3 false) ?_⟩
        refine ⟨_, rfl, _, .row false ps, rfl, rep_mono (Same.tups sf) _ _ rp, fun b2 us2 H2 s2 e3 rx2 => ⟨b2, rfl, ⟨us2, SqT.of e3⟩, ?_⟩⟩
        refine found_loop (x4 := none) (a := a) (ss := ss) (F0 := []) (o := some false) (ps := ps) rfl rx2 (by omega) (fun x hm => oks_iff.mp ok4 x hm) (fun x hm => by have := depths_le hm; omega) hw hn hb (sf.trans s2) hfd hS e3 (s2 _ _ upd_same) List.nodup_nil (fun j hj => nomatch hj) (fun H3 F x4' sm eF Fn Fb Fi => ?_)
        refine ⟨_, rfl, fd, _, F.map (fun n : Nat => (n : Int)), rfl, .inl eF, dk_keys F, by rw [List.length_map]; have := hlen Fn Fb; omega, fun ys p1 perm _ hp => ?_⟩
        obtain ⟨ns, rfl, pm⟩ := perm_nat perm
        refine q p1 ns _ (sm.trans (same_upd hp)) (SqL.of (by rw [upd_same, List.map_map]; rfl)) (isEnds_perm ⟨Fn, Fb, fun j => (Fi j).trans ?_⟩ pm)
        · show (j ∈ [] ∨ ∃ x ∈ ps, _) ↔ _
          have : Lang (.row false ps) = LO ps := by funext x; rw [Lang]
          rw [this]
          constructor
          · rintro (h | ⟨x, hx, i, hi, h⟩)
            · cases h
            · exact ⟨i, hi, hit_or.mpr ⟨x, hx, h⟩⟩
          · rintro ⟨i, hi, h⟩
            obtain ⟨x, hx, h⟩ := hit_or.mp h
            exact .inr ⟨x, hx, i, hi, h⟩
    | one m x0 =>
      obtain ⟨a1, u0, rfl, e1, rx⟩ := rep_one.mp rp
      rw [depth] at hd
      rw [Ok] at ok
      have s1 : SqT K H a1 [.str (owd m), u0] := SqT.of e1
      refine ⟨_, rfl, is_r (ty_tup e1) kb_ts ⟨false, rfl, iteF ?_⟩⟩
      refine ⟨_, rfl, a1, _, 0, _, rfl, rfl, s1, atI_nat (j := 0) rfl, rfl, _, rfl, iteN (wd_ne2 m) ?_⟩
      refine ⟨_, rfl, a1, _, 0, _, rfl, rfl, s1, atI_nat (j := 0) rfl, fun t ht => ⟨t, _, rfl, .inr (ht _), rfl, rfl, _, rfl, ?_⟩⟩
      show if inV (.str (owd m)) [.str "maybe", .str "many"] = true then _ else _
      rw [in_singles_one]
      refine iteT ⟨_, rfl, a, rfl, ⟨_, hS⟩, fun fd hfd => dc_keys wa_list nk_inj (fun _ => rfl) (by show 7 < 8; decide) hfd (Nat.lt_of_le_of_lt hss (by decide)) (fun H' sm => sm.seq hS) (fun H1 sf efd => ?_)⟩
      refine ⟨_, rfl, a1, _, 0, _, rfl, rfl, SqT.of (sf _ _ e1), atI_nat (j := 0) rfl, rfl, _, rfl, ?_⟩
      have hF0 : ∀ j, j ∈ addAll [] ss ↔ j ∈ ss := fun j => by rw [mem_addAll]; simp
      have hFn : (addAll ([] : List Nat) ss).Nodup := nodup_addAll List.nodup_nil
      cases m with
      | false =>
        refine iteN wd_ne4 ?_
        refine ⟨_, rfl, _, .one false x0, rfl, rep_mono (Same.tups sf) _ _ rp, fun b2 us2 H2 s2 e3 rx2 => ⟨b2, rfl, ⟨us2, SqT.of e3⟩, ?_⟩⟩
        have hx0 : ∀ x ∈ [x0], x = x0 := fun x hx => by simpa using hx
        refine found_loop (x4 := none) (a := a) (ss := ss) (F0 := addAll [] ss) (o := none) (ps := [x0]) rfl rx2 (by show 1 ≤ 3; omega) (fun x hm => by rw [hx0 x hm]; exact ok) (fun x hm => by rw [hx0 x hm]; omega) hw hn hb (sf.trans s2) hfd hS e3 (s2 _ _ efd) hFn (fun j hj => hb j ((hF0 j).mp hj)) (fun H3 F x4' sm eF Fn Fb Fi => ?_)
        refine ⟨_, rfl, fd, _, F.map (fun n : Nat => (n : Int)), rfl, .inl eF, dk_keys F, by rw [List.length_map]; have := hlen Fn Fb; omega, fun ys p1 perm _ hp => ?_⟩
        obtain ⟨ns, rfl, pm⟩ := perm_nat perm
        refine q p1 ns _ (sm.trans (same_upd hp)) (SqL.of (by rw [upd_same, List.map_map]; rfl)) (isEnds_perm ⟨Fn, Fb, fun j => (Fi j).trans ?_⟩ pm)
        · constructor
          · rintro (h | ⟨x, hx, i, hi, h⟩)
            · exact ⟨j, (hF0 j).mp h, hit_maybe.mpr (.inl rfl)⟩
            · have z : x = x0 := by simpa [parts] using hx
              subst z
              exact ⟨i, hi, hit_maybe.mpr (.inr h)⟩
          · rintro ⟨i, hi, h⟩
            rcases hit_maybe.mp h with rfl | h
            · exact .inl ((hF0 _).mpr hi)
            · exact .inr ⟨x0, by simp [parts], i, hi, h⟩
      | true =>
        refine iteY rfl ⟨_, rfl, ?_⟩
        refine ⟨fun m σ H' => ∃ x4 c f F, σ = [some (.ref a1), some (wV wd), some (.ref a), none, x4, some (.ref fd), some (.ref c), none] ∧ Same H H' ∧ H' fd = some (.dK (dk nk F)) ∧ SqL K H' c (f.map nV) ∧ F.Nodup ∧ (∀ j ∈ F, j ≤ wd.length) ∧ f.Nodup ∧
            (∀ j ∈ f, j ≤ wd.length) ∧ Chase (Hit (Lang x0) wd) ss F f ∧ m = (wd.length + 1 - F.length) + (if f = [] then 0 else 1), ⟨_, none, a, ss, addAll [] ss, rfl, sf, efd, sf.seq hS, hFn, fun j hj => hb j ((hF0 j).mp hj), hn, hb, Chase.init _ hF0, rfl⟩, ?_⟩
        rintro m σ H' ⟨x4, c, f, F, rfl, sm, eF, hc, Fn, Fb, fn, fb, ch, rfl⟩
        refine ⟨_, rfl, c, _, rfl, .inl hc, _, _, rfl, rfl, _, rfl, ?_⟩
        cases f with
        | nil =>
          refine iteN (by simp) ?_
          refine ⟨_, rfl, fd, _, F.map (fun n : Nat => (n : Int)), rfl, .inl eF, dk_keys F, by rw [List.length_map]; have := hlen Fn Fb; omega, fun ys p1 perm _ hp => ?_⟩
          obtain ⟨ns, rfl, pm⟩ := perm_nat perm
          refine q p1 ns _ (sm.trans (same_upd hp)) (SqL.of (by rw [upd_same, List.map_map]; rfl)) (isEnds_perm ⟨Fn, Fb, fun j => ?_⟩ pm)
          rw [ch.done j]
          have : Lang (.one true x0) = Star (Lang x0) := by funext x; rw [Lang]
          rw [this]
          exact ⟨fun ⟨i, h, k⟩ => ⟨i, h, hit_many.mpr k⟩, fun ⟨i, h, k⟩ => ⟨i, h, hit_many.mp k⟩⟩
        | cons f0 fr =>
          refine iteY (by rw [List.map_cons, List.length_cons]; omega) ?_
          have hfl := hlen fn fb
          refine ⟨fun σ' H'' => ∃ m', m' < (wd.length + 1 - F.length) + (if f0 :: fr = [] then 0 else 1) ∧ ∃ x4 c f F, σ' = [some (.ref a1), some (wV wd), some (.ref a), none, x4, some (.ref fd), some (.ref c), none] ∧ Same H H'' ∧ H'' fd = some (.dK (dk nk F)) ∧ SqL K H'' c (f.map nV) ∧ F.Nodup ∧ (∀ j ∈ F, j ≤ wd.length) ∧ f.Nodup ∧
            (∀ j ∈ f, j ≤ wd.length) ∧ Chase (Hit (Lang x0) wd) ss F f ∧ m' = (wd.length + 1 - F.length) + (if f = [] then 0 else 1), fun σ' H'' h => h, ?_⟩
          -- the ends of what is fresh
          refine ⟨_, rfl, a1, _, 1, _, rfl, rfl, SqT.of (sm _ _ e1), atI_nat (j := 1) rfl, _, rfl, _, rfl, u0, x0, none, wd, c, f0 :: fr, rfl, rep_mono (Same.tups sm) x0 u0 rx, ok, by omega, hw, hc, fn, fb, fun b2 es H2 s2 hb2 ie => ⟨b2, rfl, ⟨_, hb2⟩, fun D hD => ?_⟩⟩
          have eF2 := s2 _ _ eF
          refine lc_flt wa_list (fun i => decide (i ∉ F)) nV hD (lineT (by have := ie.len; omega)) (fun H3 s3 => s3.seq hb2) (fun i H3 Q1 hi s3 q1 => ?_) (fun i H3 Q1 hi _ s3 q1 => ⟨_, rfl, q1 H3 (Same.refl H3)⟩) (fun H3 s3 eD => ?_)
          · refine ⟨_, rfl, _, rfl, fd, _, rfl, DGet.k (k := nk i) (s3 _ _ eF2), _, rfl, ?_⟩
            rw [valV_dk nk_inj]
            have e : (!(if i ∈ F then some (V.bl true) else none).isSome) = decide (i ∉ F) := by
              by_cases h : i ∈ F <;> simp [h]
            rw [e]
            exact q1 H3 (Same.refl H3)
          · -- found.update
            have eF3 := s3 _ _ eF2
            have hf' : ∀ b, b ∈ es.filter (fun i => decide (i ∉ F)) ↔ b ∈ es ∧ b ∉ F := fun b => by rw [List.mem_filter, decide_eq_true_eq]
            have hfn : (es.filter fun i => decide (i ∉ F)).Nodup := ie.nd.filter _
            have hfb : ∀ j ∈ es.filter (fun i => decide (i ∉ F)), j ≤ wd.length := fun j hj => ie.le j ((hf' j).mp hj).1
            have hfl2 := hlen hfn hfb
            have hDL : SqL K H3 D ((es.filter fun i => decide (i ∉ F)).map nV) := SqL.of eD
            refine ⟨_, rfl, .inr (.inr (.inl ⟨rfl, .inl ⟨_, eF3⟩⟩)), _, rfl, D, rfl, ⟨_, hDL⟩, fun D2 hD2 => dc_keys wa_list nk_inj (fun _ => rfl) (by show 7 < 8; decide) hD2 (Nat.lt_of_le_of_lt hfl2 (by decide)) (fun H4 s4 => s4.seq hDL) (fun H4 s4 eD2 => ?_)⟩
            have eF4 := s4 _ _ eF3
            have hFl := hlen Fn Fb
            have hne : fd ≠ D2 := ne_of_none eF3 hD2
            have hal : (addAll ([] : List Nat) (es.filter fun i => decide (i ∉ F))).length ≤ 25 := Nat.le_trans len_addAll (by rw [List.length_nil]; omega)
            refine ⟨fd, D2, _, _, rfl, rfl, eF4, eD2, hne, by rw [dk_len, dk_len]; exact lineT (by omega), ?_⟩
            have hch : Chase (Hit (Lang x0) wd) ss (addAll F (addAll [] (es.filter fun i => decide (i ∉ F)))) (addAll [] (es.filter fun i => decide (i ∉ F))) := ch.step (fun b => ie.iff b) fun b => by rw [mem_addAll, hf' b]; simp
            have hFn' : (addAll F (addAll [] (es.filter fun i => decide (i ∉ F)))).Nodup := nodup_addAll Fn
            have hFb' : ∀ j ∈ addAll F (addAll [] (es.filter fun i => decide (i ∉ F))), j ≤ wd.length := fun j hj => by
              rcases mem_addAll.mp hj with h | h
              · exact Fb j h
              · rcases mem_addAll.mp h with h | h
                · cases h
                · exact hfb j h
            have hch2 : Chase (Hit (Lang x0) wd) ss (addAll F (addAll [] (es.filter fun i => decide (i ∉ F)))) (es.filter fun i => decide (i ∉ F)) :=
              ⟨hch.sound, hch.start, fun j hj => hch.fresh j (mem_addAll.mpr (.inr hj)), fun a ha hna b r => hch.shut a ha (fun z => by
                rcases mem_addAll.mp z with h | h
                · cases h
                · exact hna h) b r⟩
            refine ⟨_, ?_, x4, D, es.filter (fun i => decide (i ∉ F)), _, rfl, But.same (((sm.trans s2).trans s3).trans s4) (But.upd fd H4 _) hfd, by rw [upd_same, mergeK_dk nk_inj], ?_, hFn', hFb', hfn, hfb, hch2, rfl⟩
            · have hlen' := nodup_le hFn' hFb'
              have hFl2 := nodup_le Fn Fb
              have e1 : (if f0 :: fr = [] then 0 else 1) = 1 := if_neg (by simp)
              rw [e1]
              by_cases hnil : es.filter (fun i => decide (i ∉ F)) = []
              · rw [hnil, if_pos rfl]
                show wd.length + 1 - F.length + 0 < _
                omega
              · rw [if_neg hnil]
                have hgrow : F.length + 1 ≤ (addAll F (addAll [] (es.filter fun i => decide (i ∉ F)))).length := by
                  obtain ⟨z, hz⟩ := List.exists_mem_of_ne_nil _ hnil
                  have hzF := ((hf' z).mp hz).2
                  have h1 : (z :: F).Nodup := List.nodup_cons.mpr ⟨hzF, Fn⟩
                  have := nodup_sub (m := addAll F (addAll [] (es.filter fun i => decide (i ∉ F)))) h1 fun x hx => by
                    rcases List.mem_cons.mp hx with rfl | hx
                    · exact mem_addAll.mpr (.inr (mem_addAll.mpr (.inr hz)))
                    · exact mem_addAll.mpr (.inl hx)
                  rwa [List.length_cons] at this
                omega
            · have : SqL K H4 D ((es.filter fun i => decide (i ∉ F)).map nV) := s4.seq hDL
              exact SqL.of (by rw [upd_ne (by intro z; rw [z] at eD; rw [eD] at eF3; cases eF3)]; exact s4 _ _ eD)
/-! ### is_matched, matches -/
theorem inV_nat (n : Nat) (ns : List Nat) : inV (nV n) (ns.map nV) = true ↔ n ∈ ns := by
  unfold inV
  rw [List.any_map, List.any_eq_true]
  constructor
  · rintro ⟨k, hk, h⟩
    have h2 : ((k : Int) == (n : Int)) = true := h
    have : (k : Int) = n := by simpa using h2
    have e : k = n := by omega
    exact e ▸ hk
  · intro h
    exact ⟨n, h, by show ((n : Int) == (n : Int)) = true; simp⟩
def spMatch : Sp := fun vs H Q _ => ∃ (v : V) (e : Ex) (wd : Wd), vs = [v, wV wd] ∧ Rep H e v ∧ WF e ∧ wd.length ≤ 24 ∧ (∀ c ∈ wd, Abc c) ∧ ∀ b H', Same H H' → (b = true ↔ Lang e wd) → Q (.bl b) H'
theorem ok_is_matched (p : Prog K mg) : FnOk P w K mg base CX0 8 p.d_is_matched.f p.d_is_matched.fd ["expression", "word"] spMatch := by
  refine p.d_is_matched.F.ok sc_is_matched (fun vs H Q E h => ?_) (fun cdv A outer s H vs Q E hr h => ?_)
  · obtain ⟨v, e, wd, rfl, _⟩ := h
    rfl
  obtain ⟨v, e, wd, rfl, rp, wf, hw, ha, q⟩ := h
  refine ⟨_, pss_one (ps_ret (pe_cmpR op_in_seq (pe_callB call_len_str (by rfl) p.z_len PySem.boot_len (pa_cons (pv 1) pa_nil)) (pe_d _ (ok_ends_in p 6) hr rfl (pa_cons (pv 0) (pa_cons (pv 1) (pa_cons (pe_lst (pa_cons pe_int pa_nil)) pa_nil)))) (by rfl))), ?_⟩
  refine ⟨_, rfl, _, rfl, lineT (by rw [T_len]; omega), _, rfl, _, rfl, lineT (by decide), fun z hz => ?_⟩
  have s0 := same_upd (o := .lst [.int 0]) hz
  refine ⟨v, e, none, wd, z, [0], rfl, rep_mono (Same.tups s0) e v rp, wf.ok, wf.dp, hw, SqL.of upd_same, by simp, fun i hi => by simp at hi; omega, fun b ns H' s1 hb ie => ?_⟩
  refine ⟨b, _, rfl, .inl hb, rfl, by rw [List.all_map]; exact List.all_eq_true.mpr fun _ _ => rfl, ?_⟩
  show Q (.bl (inV (.int ((T wd).length : Nat)) (ns.map nV))) H'
  rw [T_len]
  refine q _ H' (s0.trans s1) ?_
  rw [show V.int (wd.length : Nat) = nV wd.length from rfl, inV_nat, ie.iff]
  constructor
  · rintro ⟨i, hi, h⟩
    have : i = 0 := by simpa using hi
    subst this
    exact hit_all.mp h
  · intro h; exact ⟨0, by simp, hit_all.mpr h⟩
theorem ok_matches (p : Prog K mg) : FnOk P w K mg base CX0 10 p.d_matches.f p.d_matches.fd ["expression", "word"] spMatch := by
  refine p.d_matches.F.ok sc_matches (fun vs H Q E h => ?_) (fun cdv A outer s H vs Q E hr h => ?_)
  · obtain ⟨v, e, wd, rfl, _⟩ := h
    rfl
  obtain ⟨v, e, wd, rfl, rp, wf, hw, ha, q⟩ := h
  refine ⟨_, pss_cons (ps_expr (pe_d _ (ok_check_long p) hr rfl (pa_cons (pv 0) pa_nil))) (pss_cons (ps_expr (pe_d _ (ok_check_word p) (hr.mono (by decide)) rfl (pa_cons (pv 1) pa_nil)))
    (pss_one (ps_ret (pe_d _ (ok_is_matched p) (hr.mono (by decide)) rfl (pa_cons (pv 0) (pa_cons (pv 1) pa_nil)))))), ?_⟩
  refine ⟨_, rfl, v, e, rfl, rp, wf, fun H1 s1 => ⟨_, rfl, wd, rfl, hw, ha, fun H2 s2 => ?_⟩⟩
  exact ⟨_, rfl, _, rfl, v, e, wd, rfl, rep_mono (Same.tups (s1.trans s2)) e v rp, wf, hw, ha, fun b H' s3 hb => q b H' ((s1.trans s2).trans s3) hb⟩
end
end K05

set_option Elab.async false
set_option linter.all false
set_option maxRecDepth 100000
set_option maxHeartbeats 4000000
/-! K05: turn, turned, rename, renamed; _law_turned, _law_renamed. -/
namespace K05
open PySem PySem.Spec PyProof.Rows L2 KM
theorem rl_reps {f : Ex → Ex} {ps : List Ex} {us ys : List V} {H0 H : Hp} (rx : Reps H0 ps us) (rl : Rl (fun u y H => ∀ x ∈ ps, Rep H0 x u → Rep H (f x) y) us ys H) : Reps H (ps.map f) ys := by
  obtain ⟨h1, h2⟩ := rl
  have hl := reps_len rx
  refine reps_iff.mpr ⟨by rw [List.length_map, h1, hl], fun i p u e1 e2 => ?_⟩
  rw [List.getElem?_map] at e1
  obtain ⟨x, ex, rfl⟩ := Option.map_eq_some_iff.mp e1
  have hi : i < us.length := by
    have := (List.getElem?_eq_some_iff.mp e2).1
    omega
  have eu := List.getElem?_eq_getElem hi
  exact h2 i _ _ eu e2 x (List.mem_of_getElem? ex) ((reps_iff.mp rx).2 i x _ ex eu)
theorem reps_rev {ps : List Ex} {us : List V} {H : Hp} (rx : Reps H ps us) : Reps H ps.reverse us.reverse := by
  obtain ⟨h1, h2⟩ := reps_iff.mp rx
  refine reps_iff.mpr ⟨by rw [List.length_reverse, List.length_reverse, h1], fun i p u e1 e2 => ?_⟩
  have hi : i < ps.length := by
    have := (List.getElem?_eq_some_iff.mp e1).1
    rwa [List.length_reverse] at this
  rw [List.getElem?_reverse hi] at e1
  rw [List.getElem?_reverse (by omega), h1] at e2
  exact h2 _ p u e1 e2
theorem rep_mono_but {D : Addr} {H H' : Hp} (h : ∃ ys, H D = some (.lst ys)) (bt : But D H H') : Tups H H' := by
  obtain ⟨ys, e⟩ := h
  exact bt.tups e
section
variable {P : Program} {w : World} {K : PySem.W.Frag} {mg : Str → Option Value} {base : Heap}
/-! ### turn, turned -/
def spTurn (f : Ex → Ex) (n : Nat) : Sp := fun vs H Q _ => ∃ (v : V) (e : Ex) (o : Option Bool), vs = [v] ∧ Rep H e v ∧ Ok o e ∧ depth e < n ∧ ∀ r H', Same H H' → Rep H' (f e) r → Q r H'
theorem ok_turn_ (p : Prog K mg) : ∀ n, FnOk P w K mg base CX0 (n + 1) p.d_turn.f p.d_turn.fd ["expression"] (spTurn turn n)
  | 0 => fn_none fun vs H Q E h => by
    obtain ⟨v, e, o, _, _, _, h, _⟩ := h
    exact absurd h (Nat.not_lt_zero _)
  | n + 1 => by
    have G := ok_turn_ p n
    refine p.d_turn.F.ok sc_turn (fun vs H Q E h => ?_) (fun cdv A outer s H vs Q E hr h => ?_)
    · obtain ⟨v, e, o, rfl, _⟩ := h
      rfl
    obtain ⟨v, e, o, rfl, rp, ok, hd, q⟩ := h
    refine ⟨_, pss_cons (ps_if (pt_val (pe_is p.z_isinstance p.z_str rfl rfl boot_str' (pv 0))) (pss_one (ps_ret (pv 0))) pss_nil)
      (pss_cons (ps_if (pt_cmpR op_in_seq (pe_ix ix_tup (pv 0) pe_int (fun _ _ => rfl)) (pe_gt p.c_SINGLES rfl) (by rfl))
        (pss_one (ps_ret (pe_tup (pa_cons (pe_ix ix_tup (pv 0) pe_int (fun _ _ => rfl)) (pa_cons (pe_d _ G hr rfl (pa_cons (pe_ix ix_tup (pv 0) pe_int (fun _ _ => rfl)) pa_nil)) pa_nil))))) pss_nil)
      (pss_one (ps_ret (pe_tup (pa_cons (pe_ix ix_tup (pv 0) pe_int (fun _ _ => rfl)) (pa_cons (pe_tupleOf (by rfl) p.z_tuple (pe_lc (own := [("part", 1)]) (g := gName 1) (tt := tYes) rfl sc_turn.nd (pi_tup (pe_revT (pe_ix ix_tup (pv 0) pe_int (fun _ _ => rfl))))
          (blkOk_by (N := ["expression", "part"]) (sc := defScope s_turn) (by decide +kernel)) (fun _ _ _ _ _ => pg_name (i := 1) sc_turn.nd rfl (Or.inl rfl)) (fun _ _ _ _ _ => pts_nil)
          (fun _ _ _ _ _ => pe_d _ G hr rfl (pa_cons (pv 1) pa_nil)))) pa_nil)))))), ?_⟩
    cases e with
    | leaf l =>
      have rp' := rp
      rw [rep_leaf] at rp
      subst rp
      exact ⟨_, rfl, is_r (ty_str _) kb_ss ⟨true, rfl, iteT ⟨_, rfl, q _ H (Same.refl H) (by rw [turn]; exact rp')⟩⟩⟩
    | one m x =>
      obtain ⟨a1, u0, rfl, e1, rx⟩ := rep_one.mp rp
      rw [depth] at hd
      rw [Ok] at ok
      have s1 : SqT K H a1 [.str (owd m), u0] := SqT.of e1
      refine ⟨_, rfl, is_r (ty_tup e1) kb_ts ⟨false, rfl, iteF ?_⟩⟩
      refine ⟨_, rfl, a1, _, 0, _, rfl, rfl, s1, atI_nat (j := 0) rfl, fun t ht => ⟨t, _, rfl, .inr (ht _), rfl, rfl, _, rfl, ?_⟩⟩
      show if inV (.str (owd m)) [.str "maybe", .str "many"] = true then _ else _
      rw [in_singles_one]
      refine iteT ⟨_, rfl, a1, _, 0, _, rfl, rfl, s1, atI_nat (j := 0) rfl, _, rfl, a1, _, 1, _, rfl, rfl, s1, atI_nat (j := 1) rfl, u0, x, none, rfl, rx, ok, by omega, fun r H1 sm rr => ⟨(by show 2 ≤ sizeLine; decide), fun t ht => ?_⟩⟩
      refine q _ _ (sm.trans (same_upd ht)) ?_
      rw [turn, rep_one]
      exact ⟨t, r, rfl, upd_same, rep_mono (Same.tups (same_upd ht)) _ _ rr⟩
    | row j ps =>
      obtain ⟨a1, b1, us, rfl, e1, e2, rx⟩ := rep_row.mp rp
      rw [depth] at hd
      rw [Ok] at ok
      obtain ⟨ok1, ok2, ok3, ok4⟩ := ok
      have s1 : SqT K H a1 [.str (rwd j), .ref b1] := SqT.of e1
      have hul := reps_len rx
      refine ⟨_, rfl, is_r (ty_tup e1) kb_ts ⟨false, rfl, iteF ?_⟩⟩
      refine ⟨_, rfl, a1, _, 0, _, rfl, rfl, s1, atI_nat (j := 0) rfl, fun t ht => ⟨t, _, rfl, .inr (ht _), rfl, rfl, _, rfl, ?_⟩⟩
      show if inV (.str (rwd j)) [.str "maybe", .str "many"] = true then _ else _
      rw [in_singles_row]
      refine iteF ⟨_, rfl, a1, _, 0, _, rfl, rfl, s1, atI_nat (j := 0) rfl, _, rfl, a1, _, 1, _, rfl, rfl, s1, atI_nat (j := 1) rfl, b1, us, rfl, SqT.of e2, fun b2 hb2 => ⟨b2, rfl, ⟨us.reverse, SqT.of upd_same⟩, fun D hD => ?_⟩⟩
      have sv := same_upd (o := .tup us.reverse) hb2
      have rxr := reps_mono (Same.tups sv) (reps_rev rx)
      refine lc_rel (wa_tupV (xs := us.reverse)) (fun u y Hh => ∀ x ∈ ps.reverse, Rep (upd H b2 (.tup us.reverse)) x u → Rep Hh (turn x) y) hD (lineT (by rw [List.length_reverse]; omega)) (fun u y H1 H2 h bt k x hx rp => rep_mono (rep_mono_but h bt) _ _ (k x hx rp)) (fun H' sm => SqT.of (sm _ _ upd_same)) (fun u H2 Q1 hu sm _ q1 => ?_) (fun H2 ys sm eD rl => ?_)
      · obtain ⟨i, ei⟩ := List.getElem?_of_mem hu
        obtain ⟨x, ex, rpx⟩ := reps_get rxr ei
        have hm : x ∈ ps := List.mem_reverse.mp (List.mem_of_getElem? ex)
        have hdx := depths_le hm
        refine ⟨_, rfl, u, x, some j, rfl, rep_mono (Same.tups sm) x u rpx, oks_iff.mp ok4 x hm, by omega, fun r H' s' rr => q1 r H' s' fun x' hx' rp' => ?_⟩
        exact (rep_inj rpx rp') ▸ rr
      · have ry := rl_reps rxr rl
        refine .inl ⟨D, ys, rfl, SqL.of eD, fun t1 ht1 => ⟨(by show 2 ≤ sizeLine; decide), fun t ht => ?_⟩⟩
        have se := (same_upd (o := .tup ys) ht1).trans (same_upd (o := .tup [.str (rwd j), .ref t1]) ht)
        refine q _ _ ((sv.trans sm).trans se) ?_
        rw [turn, rep_row, turns_eq, ← List.map_reverse]
        refine ⟨t, t1, ys, rfl, upd_same, ?_, reps_mono (Same.tups se) ry⟩
        have hne : t1 ≠ t := fun z => by rw [z, upd_same] at ht; cases ht
        rw [upd_ne hne, upd_same]
theorem ok_turned (p : Prog K mg) : FnOk P w K mg base CX0 10 p.d_turned.f p.d_turned.fd ["expression"] (fun vs H Q _ => ∃ (v : V) (e : Ex), vs = [v] ∧ Rep H e v ∧ WF e ∧ ∀ r H', Same H H' → Rep H' (turn e) r → Q r H') := by
  refine p.d_turned.F.ok sc_turned (fun vs H Q E h => ?_) (fun cdv A outer s H vs Q E hr h => ?_)
  · obtain ⟨v, e, rfl, _⟩ := h
    rfl
  obtain ⟨v, e, rfl, rp, wf, q⟩ := h
  refine ⟨_, pss_cons (ps_expr (pe_d _ (ok_check_long p) hr rfl (pa_cons (pv 0) pa_nil))) (pss_one (ps_ret (pe_d _ (ok_turn_ p 6) (hr.mono (by decide)) rfl (pa_cons (pv 0) pa_nil)))), ?_⟩
  refine ⟨_, rfl, v, e, rfl, rp, wf, fun H1 s1 => ?_⟩
  exact ⟨_, rfl, v, e, none, rfl, rep_mono (Same.tups s1) e v rp, wf.ok, wf.dp, fun r H' s2 rr => q r H' (s1.trans s2) rr⟩
/-! ### _law_turned -/
theorem ok_l_turned (p : Prog K mg) : ∀ n, FnOk P w K mg base CX0 (n + 1) p.d_l_turned.f p.d_l_turned.fd ["_law_expression_here"] (spTurn turn n)
  | 0 => fn_none fun vs H Q E h => by
    obtain ⟨v, e, o, _, _, _, h, _⟩ := h
    exact absurd h (Nat.not_lt_zero _)
  | n + 1 => by
    have G := ok_l_turned p n
    refine p.d_l_turned.F.ok sc_l_turned (fun vs H Q E h => ?_) (fun cdv A outer s H vs Q E hr h => ?_)
    · obtain ⟨v, e, o, rfl, _⟩ := h
      rfl
    obtain ⟨v, e, o, rfl, rp, ok, hd, q⟩ := h
    refine ⟨_, pss_cons (ps_if (pt_val (pe_is p.z_isinstance p.z_str rfl rfl boot_str' (pv 0))) (pss_one (ps_ret (pv 0))) pss_nil)
      (pss_cons (ps_set (i := 1) sc_l_turned.nd rfl (.inl rfl) (pe_tupleOf (by rfl) p.z_tuple (pe_lc (own := [("_law_part", 2)]) (g := gName 2) (tt := tYes) rfl sc_l_turned.nd (pi_tup (pe_d _ (ok_l_inside p) (hr.mono (Nat.le_add_left 1 n)) rfl (pa_cons (pv 0) pa_nil)))
          (blkOk_by (N := ["_law_expression_here", "_law_parts", "_law_part"]) (sc := defScope s_l_turned) (by decide +kernel)) (fun _ _ _ _ _ => pg_name (i := 2) sc_l_turned.nd rfl (Or.inl rfl)) (fun _ _ _ _ _ => pts_nil)
          (fun _ _ _ _ _ => pe_d _ G hr rfl (pa_cons (pv 2) pa_nil)))))
      (pss_cons (ps_if (pt_cmpR op_in_seq (pe_ix ix_tup (pv 0) pe_int (fun _ _ => rfl)) (pe_lst (pa_cons pe_str (pa_cons pe_str pa_nil))) (by rfl))
        (pss_one (ps_ret (pe_tup (pa_cons (pe_ix ix_tup (pv 0) pe_int (fun _ _ => rfl)) (pa_cons (pe_ix ix_tup (pv 1) pe_int (fun _ _ => rfl)) pa_nil))))) pss_nil)
      (pss_one (ps_ret (pe_tup (pa_cons (pe_ix ix_tup (pv 0) pe_int (fun _ _ => rfl)) (pa_cons (pe_revT (pv 1)) pa_nil))))))), ?_⟩
    by_cases hleaf : ∃ l, e = .leaf l
    · obtain ⟨l, rfl⟩ := hleaf
      have rp' := rp
      rw [rep_leaf] at rp
      subst rp
      exact ⟨_, rfl, is_r (ty_str _) kb_ss ⟨true, rfl, iteT ⟨_, rfl, q _ H (Same.refl H) (by rw [turn]; exact rp')⟩⟩⟩
    have hleaf : ∀ l, e ≠ .leaf l := fun l z => hleaf ⟨l, z⟩
    obtain ⟨a, z, u, rfl, e1⟩ := rep_ref rp hleaf
    refine ⟨_, rfl, is_r (ty_tup e1) kb_ts ⟨false, rfl, iteF ?_⟩⟩
    obtain ⟨hp3, hpo⟩ := parts_ok ok
    refine ⟨_, rfl, _, e, rfl, rp, fun b us H1 sm1 e2 rx => ⟨b, rfl, ⟨us, SqT.of e2⟩, fun D hD => ?_⟩⟩
    have hul := reps_len rx
    refine lc_rel (wa_tupV (xs := us)) (fun u y Hh => ∀ x ∈ parts e, Rep H1 x u → Rep Hh (turn x) y) hD (lineT (by omega)) (fun u y Ha Hb h bt k x hx rp => rep_mono (rep_mono_but h bt) _ _ (k x hx rp)) (fun H' sm => SqT.of (sm _ _ e2)) (fun u H2 Q1 hu sm _ q1 => ?_) (fun H2 ys sm eD rl => ?_)
    · obtain ⟨i, ei⟩ := List.getElem?_of_mem hu
      obtain ⟨x, ex, rpx⟩ := reps_get rx ei
      have hm := List.mem_of_getElem? ex
      obtain ⟨ox, okx⟩ := hpo x hm
      have hdx := parts_depth hm
      refine ⟨_, rfl, u, x, ox, rfl, rep_mono (Same.tups sm) x u rpx, okx, by omega, fun r H' s' rr => q1 r H' s' fun x' hx' rp' => ?_⟩
      exact (rep_inj rpx rp') ▸ rr
    · have ry := rl_reps rx rl
      refine .inl ⟨D, ys, rfl, SqL.of eD, fun t1 ht1 => ?_⟩
      have sA := sm1.trans (sm.trans (same_upd (o := .tup ys) ht1))
      have ry1 := reps_mono (Same.tups (same_upd (o := .tup ys) ht1)) ry
      have e1A := sA _ _ e1
      have eT : (upd H2 t1 (.tup ys)) t1 = some (.tup ys) := upd_same
      generalize upd H2 t1 (.tup ys) = HA at sA ry1 e1A eT
      refine ⟨_, rfl, a, _, 0, _, rfl, rfl, SqT.of e1A, atI_nat (j := 0) rfl, (by show 2 ≤ sizeLine; decide), fun t ht => ⟨t, _, rfl, .inl (SqL.of upd_same), rfl, rfl, _, rfl, ?_⟩⟩
      have sl := same_upd (o := .lst [.str "maybe", .str "many"]) ht
      cases e with
      | leaf l => exact absurd rfl (hleaf l)
      | one m x =>
        obtain ⟨a', u', za, eq, _⟩ := rep_one.mp rp
        cases za
        rw [e1] at eq
        cases eq
        show if inV (.str (owd m)) [.str "maybe", .str "many"] = true then _ else _
        rw [in_singles_one]
        obtain ⟨y, yr, rfl, ry2, yn⟩ := (show Reps HA [turn x] ys from ry1)
        refine iteT ⟨_, rfl, a, _, 0, _, rfl, rfl, SqT.of (sl _ _ e1A), atI_nat (j := 0) rfl, _, rfl, t1, _, 0, _, rfl, rfl, SqT.of (sl _ _ eT), atI_nat (j := 0) rfl, (by show 2 ≤ sizeLine; decide), fun t2 ht2 => ?_⟩
        have s2 := same_upd (o := .tup [.str (owd m), y]) ht2
        refine q _ _ (sA.trans (sl.trans s2)) ?_
        rw [turn, rep_one]
        exact ⟨t2, y, rfl, upd_same, rep_mono (Same.tups (sl.trans s2)) _ _ ry2⟩
      | row j ps =>
        obtain ⟨a', b', us', za, eq, _, _⟩ := rep_row.mp rp
        cases za
        rw [e1] at eq
        cases eq
        show if inV (.str (rwd j)) [.str "maybe", .str "many"] = true then _ else _
        rw [in_singles_row]
        refine iteF ⟨_, rfl, a, _, 0, _, rfl, rfl, SqT.of (sl _ _ e1A), atI_nat (j := 0) rfl, _, rfl, t1, ys, rfl, SqT.of (sl _ _ eT), fun t2 ht2 => ⟨(by show 2 ≤ sizeLine; decide), fun t3 ht3 => ?_⟩⟩
        have s2 := same_upd (o := .tup ys.reverse) ht2
        have s3 := same_upd (o := .tup [.str (rwd j), .ref t2]) ht3
        refine q _ _ (sA.trans (sl.trans (s2.trans s3))) ?_
        rw [turn, rep_row, turns_eq]
        have hne : t2 ≠ t3 := fun z => by rw [z, upd_same] at ht3; cases ht3
        exact ⟨t3, t2, ys.reverse, rfl, upd_same, by rw [upd_ne hne, upd_same], reps_mono (Same.tups (sl.trans (s2.trans s3))) (reps_rev ry1)⟩
end
end K05

set_option Elab.async false
set_option linter.all false
set_option maxRecDepth 100000
set_option maxHeartbeats 4000000
/-! K05: rename, renamed; _law_renamed. -/
namespace K05
open PySem PySem.Spec PyProof.Rows L2 KM
/-! ### the sorted letters -/
abbrev sgn (c : Nat) : Str := ⟨#[c]⟩
theorem lt_sgn (c d : Nat) : ltCps (sgn c).cps.toList (sgn d).cps.toList = decide (c < d) := by
  show (decide (c < d) || (c == d && false)) = _
  simp
theorem rising_pw : ∀ (p : Nat) (cs : List Nat), risingS (sgn p) (cs.map sgn) = true → (p :: cs).Pairwise (· ≤ ·)
  | p, [], _ => by simp
  | p, c :: r, h => by
    have h : (!ltCps (sgn c).cps.toList (sgn p).cps.toList && risingS (sgn c) (r.map sgn)) = true := h
    rw [Bool.and_eq_true, lt_sgn] at h
    have h1 : ¬ c < p := by simpa using h.1
    have ih := rising_pw c r h.2
    refine List.pairwise_cons.mpr ⟨fun x hx => ?_, ih⟩
    rcases List.mem_cons.mp hx with rfl | hx
    · omega
    · have := (List.pairwise_cons.mp ih).1 x hx
      omega
theorem sorted_pw {cs : List Nat} (h : sortedS (cs.map sgn) = true) : cs.Pairwise (· ≤ ·) := by
  cases cs with
  | nil => exact .nil
  | cons c r => exact rising_pw c r h
theorem sorted_abcd {os : Wd} {ys : List Str} (ho : os.Perm [97, 98, 99, 100]) (h : ys.Perm (os.map sgn)) (s : sortedS ys = true) : ys = [97, 98, 99, 100].map sgn := by
  have hm : ∀ y ∈ ys, ∃ c, y = sgn c := fun y hy => by
    obtain ⟨c, _, rfl⟩ := List.mem_map.mp (h.mem_iff.mp hy)
    exact ⟨c, rfl⟩
  have e : ys = (ys.map fun y => y.cps.getD 0 0).map sgn := by
    rw [List.map_map]
    conv => lhs; rw [← List.map_id ys]
    refine List.map_congr_left fun y hy => ?_
    obtain ⟨c, rfl⟩ := hm y hy
    rfl
  have hp : (ys.map fun y => y.cps.getD 0 0).Perm [97, 98, 99, 100] := by
    have h1 := h.map fun y => y.cps.getD 0 0
    rw [List.map_map] at h1
    have e2 : os.map ((fun y : Str => y.cps.getD 0 0) ∘ sgn) = os := by
      conv => rhs; rw [← List.map_id os]
      exact List.map_congr_left fun c _ => rfl
    rw [e2] at h1
    exact h1.trans ho
  rw [e] at s ⊢
  have hs := sorted_pw s
  congr 1
  exact List.Perm.eq_of_pairwise (le := fun a b : Nat => a ≤ b) (fun a b _ _ h1 h2 => Nat.le_antisymm h1 h2) hs (by decide) hp
theorem index_abcd {c : Nat} (h : Abc c) : Builtin.Str.occurrences ("abcd" : Str) (T [c]) 0 ("abcd" : Str).length 1 = [c - 97] := by
  unfold Abc at h
  rcases h with rfl | rfl | rfl | rfl <;> decide +kernel
theorem ord_at {os : Wd} (h : Order os) {c : Nat} (hc : Abc c) : atI (T os).cps.toList ((c - 97 : Nat) : Int) = some (ordF os c) := by
  rw [T_cps]
  exact atI_nat (h.at hc)
theorem flat_one {α β : Type} (f : α → β) (l : List α) : (l.map fun c => [f c]).flatten = l.map f := by
  induction l with
  | nil => rfl
  | cons a r ih => rw [List.map_cons, List.flatten_cons, ih]; rfl
section
variable {P : Program} {w : World} {K : PySem.W.Frag} {mg : Str → Option Value} {base : Heap}
def spRen (n : Nat) : Sp := fun vs H Q _ => ∃ (v : V) (e : Ex) (o : Option Bool) (os : Wd), vs = [v, wV os] ∧ Order os ∧ Rep H e v ∧ Ok o e ∧ depth e < n ∧ ∀ r H', Same H H' → Rep H' (ren (ordF os) e) r → Q r H'
theorem ok_leaf_abc {l : Wd} {o : Option Bool} (h : Ok o (.leaf l)) : l.length ≤ 1 ∧ ∀ c ∈ l, Abc c := by
  rw [Ok] at h
  rcases h with rfl | ⟨c, rfl, hc⟩
  · exact ⟨Nat.zero_le _, fun c hc => nomatch hc⟩
  · exact ⟨Nat.le_refl _, fun d hd => by
      have : d = c := by simpa using hd
      rw [this]; exact hc⟩
theorem ok_rename (p : Prog K mg) : ∀ n, FnOk P w K mg base CX0 (n + 1) p.d_rename.f p.d_rename.fd ["expression", "order"] (spRen n)
  | 0 => fn_none fun vs H Q E h => by
    obtain ⟨v, e, o, os, _, _, _, _, h, _⟩ := h
    exact absurd h (Nat.not_lt_zero _)
  | n + 1 => by
    have G := ok_rename p n
    refine p.d_rename.F.ok sc_rename (fun vs H Q E h => ?_) (fun cdv A outer s H vs Q E hr h => ?_)
    · obtain ⟨v, e, o, os, rfl, _⟩ := h
      rfl
    obtain ⟨v, e, o, os, rfl, ho, rp, ok, hd, q⟩ := h
    refine ⟨_, pss_cons (ps_if (pt_val (pe_is p.z_isinstance p.z_str rfl rfl boot_str' (pv 0))) (pss_one (ps_ret (pe_join pe_str (pe_lc (own := [("letter", 2)]) (g := gName 2) (tt := tYes) rfl sc_rename.nd (pi_str (pv 0))
          (blkOk_by (N := ["expression", "order", "letter", "part"]) (sc := defScope s_rename) (by decide +kernel)) (fun _ _ _ _ _ => pg_name (i := 2) sc_rename.nd rfl (Or.inl rfl)) (fun _ _ _ _ _ => pts_nil)
          (fun _ _ _ _ _ => pe_ix ix_str (pv 1) (pe_m1 F.slot_str_index F.type_str_index mt_sindex (pe_gs p.c_LETTERS rfl) (pv 2)) (fun _ _ => rfl)))))) pss_nil)
      (pss_cons (ps_if (pt_cmpR op_in_seq (pe_ix ix_tup (pv 0) pe_int (fun _ _ => rfl)) (pe_gt p.c_SINGLES rfl) (by rfl))
        (pss_one (ps_ret (pe_tup (pa_cons (pe_ix ix_tup (pv 0) pe_int (fun _ _ => rfl)) (pa_cons (pe_d _ G hr rfl (pa_cons (pe_ix ix_tup (pv 0) pe_int (fun _ _ => rfl)) (pa_cons (pv 1) pa_nil))) pa_nil))))) pss_nil)
      (pss_one (ps_ret (pe_tup (pa_cons (pe_ix ix_tup (pv 0) pe_int (fun _ _ => rfl)) (pa_cons (pe_tupleOf (by rfl) p.z_tuple (pe_lc (own := [("part", 3)]) (g := gName 3) (tt := tYes) rfl sc_rename.nd (pi_tup (pe_ix ix_tup (pv 0) pe_int (fun _ _ => rfl)))
          (blkOk_by (N := ["expression", "order", "letter", "part"]) (sc := defScope s_rename) (by decide +kernel)) (fun _ _ _ _ _ => pg_name (i := 3) sc_rename.nd rfl (Or.inl rfl)) (fun _ _ _ _ _ => pts_nil)
          (fun _ _ _ _ _ => pe_d _ G hr rfl (pa_cons (pv 3) (pa_cons (pv 1) pa_nil))))) pa_nil)))))), ?_⟩
    cases e with
    | leaf l =>
      rw [rep_leaf] at rp
      subst rp
      obtain ⟨hl, ha⟩ := ok_leaf_abc ok
      refine ⟨_, rfl, is_r (ty_str _) kb_ss ⟨true, rfl, iteT ⟨⟨_, rfl⟩, _, rfl, _, rfl, fun D hD => lc_fn wa_str (fun c => V.str (T [ordF os c])) hD (lineT (by omega)) (fun _ _ => True.intro) (fun c H1 Q1 hc sm q1 => ?_) (fun H1 sm eD => ?_)⟩⟩⟩
      · refine ⟨_, rfl, ⟨_, rfl⟩, _, rfl, _, _, c - 97, [], rfl, rfl, index_abcd (ha c hc), _, _, ordF os c, rfl, rfl, lineT (by rw [T_len, ho.len]; decide), ord_at ho (ha c hc), q1 H1 (Same.refl H1)⟩
      · have e3 : l.map (fun c => T [ordF os c]) = (l.map fun c => [ordF os c]).map T := by rw [List.map_map]; rfl
        refine ⟨_, D, (l.map fun c => [ordF os c]).map T, rfl, rfl, .inl (SqL.of (by rw [eD, ← e3, List.map_map]; rfl)), join_size _ (by rw [flat_one, List.length_map]; omega), ?_⟩
        rw [join_T, flat_one]
        exact q _ H1 sm (by rw [ren, rep_leaf])
    | one m x =>
      obtain ⟨a1, u0, rfl, e1, rx⟩ := rep_one.mp rp
      rw [depth] at hd
      rw [Ok] at ok
      have s1 : SqT K H a1 [.str (owd m), u0] := SqT.of e1
      refine ⟨_, rfl, is_r (ty_tup e1) kb_ts ⟨false, rfl, iteF ?_⟩⟩
      refine ⟨_, rfl, a1, _, 0, _, rfl, rfl, s1, atI_nat (j := 0) rfl, fun t ht => ⟨t, _, rfl, .inr (ht _), rfl, rfl, _, rfl, ?_⟩⟩
      show if inV (.str (owd m)) [.str "maybe", .str "many"] = true then _ else _
      rw [in_singles_one]
      refine iteT ⟨_, rfl, a1, _, 0, _, rfl, rfl, s1, atI_nat (j := 0) rfl, _, rfl, a1, _, 1, _, rfl, rfl, s1, atI_nat (j := 1) rfl, _, rfl, u0, x, none, os, rfl, ho, rx, ok, by omega, fun r H1 sm rr => ⟨(by show 2 ≤ sizeLine; decide), fun t ht => ?_⟩⟩
      refine q _ _ (sm.trans (same_upd ht)) ?_
      rw [ren, rep_one]
      exact ⟨t, r, rfl, upd_same, rep_mono (Same.tups (same_upd ht)) _ _ rr⟩
    | row j ps =>
      obtain ⟨a1, b1, us, rfl, e1, e2, rx⟩ := rep_row.mp rp
      rw [depth] at hd
      rw [Ok] at ok
      obtain ⟨ok1, ok2, ok3, ok4⟩ := ok
      have s1 : SqT K H a1 [.str (rwd j), .ref b1] := SqT.of e1
      have hul := reps_len rx
      refine ⟨_, rfl, is_r (ty_tup e1) kb_ts ⟨false, rfl, iteF ?_⟩⟩
      refine ⟨_, rfl, a1, _, 0, _, rfl, rfl, s1, atI_nat (j := 0) rfl, fun t ht => ⟨t, _, rfl, .inr (ht _), rfl, rfl, _, rfl, ?_⟩⟩
      show if inV (.str (rwd j)) [.str "maybe", .str "many"] = true then _ else _
      rw [in_singles_row]
      refine iteF ⟨_, rfl, a1, _, 0, _, rfl, rfl, s1, atI_nat (j := 0) rfl, _, rfl, a1, _, 1, _, rfl, rfl, s1, atI_nat (j := 1) rfl, b1, rfl, ⟨us, SqT.of e2⟩, fun D hD => ?_⟩
      refine lc_rel (wa_tupV (xs := us)) (fun u y Hh => ∀ x ∈ ps, Rep H x u → Rep Hh (ren (ordF os) x) y) hD (lineT (by omega)) (fun u y H1 H2 h bt k x hx rp => rep_mono (rep_mono_but h bt) _ _ (k x hx rp)) (fun H' sm => SqT.of (sm _ _ e2)) (fun u H2 Q1 hu sm _ q1 => ?_) (fun H2 ys sm eD rl => ?_)
      · obtain ⟨i, ei⟩ := List.getElem?_of_mem hu
        obtain ⟨x, ex, rpx⟩ := reps_get rx ei
        have hm : x ∈ ps := List.mem_of_getElem? ex
        have hdx := depths_le hm
        refine ⟨_, rfl, _, rfl, u, x, some j, os, rfl, ho, rep_mono (Same.tups sm) x u rpx, oks_iff.mp ok4 x hm, by omega, fun r H' s' rr => q1 r H' s' fun x' hx' rp' => ?_⟩
        exact (rep_inj rpx rp') ▸ rr
      · have ry := rl_reps rx rl
        refine .inl ⟨D, ys, rfl, SqL.of eD, fun t1 ht1 => ⟨(by show 2 ≤ sizeLine; decide), fun t ht => ?_⟩⟩
        have se := (same_upd (o := .tup ys) ht1).trans (same_upd (o := .tup [.str (rwd j), .ref t1]) ht)
        refine q _ _ (sm.trans se) ?_
        rw [ren, rep_row, rens_eq]
        refine ⟨t, t1, ys, rfl, upd_same, ?_, reps_mono (Same.tups se) ry⟩
        have hne : t1 ≠ t := fun z => by rw [z, upd_same] at ht; cases ht
        rw [upd_ne hne, upd_same]
theorem ok_renamed (p : Prog K mg) : FnOk P w K mg base CX0 10 p.d_renamed.f p.d_renamed.fd ["expression", "order"] (fun vs H Q _ => ∃ (v : V) (e : Ex) (os : Wd), vs = [v, wV os] ∧ Order os ∧ Rep H e v ∧ WF e ∧ ∀ r H', Same H H' → Rep H' (ren (ordF os) e) r → Q r H') := by
  refine p.d_renamed.F.ok sc_renamed (fun vs H Q E h => ?_) (fun cdv A outer s H vs Q E hr h => ?_)
  · obtain ⟨v, e, os, rfl, _⟩ := h
    rfl
  obtain ⟨v, e, os, rfl, ho, rp, wf, q⟩ := h
  refine ⟨_, pss_cons (ps_expr (pe_d _ (ok_check_long p) hr rfl (pa_cons (pv 0) pa_nil))) (pss_cons (ps_if (PW.pt (pw_or (pt_not (pt_val (pe_is p.z_isinstance p.z_str rfl rfl boot_str' (pv 1))))
      (pw_or1 (pt_cmpR (op_neD hr.units) (pe_callB (call_sortedTx rfl) (by rfl) p.z_sorted (by decide +kernel) (pa_cons (pv 1) pa_nil)) (pe_callB (call_sortedTx rfl) (by rfl) p.z_sorted (by decide +kernel) (pa_cons (pe_gs p.c_LETTERS rfl) pa_nil)) (nomark _))))) (pss_one ps_never) pss_nil)
    (pss_one (ps_ret (pe_d _ (ok_rename p 6) (hr.mono (by decide)) rfl (pa_cons (pv 0) (pa_cons (pv 1) pa_nil)))))), ?_⟩
  refine ⟨_, rfl, v, e, rfl, rp, wf, fun H1 s1 => ⟨_, rfl, is_r (ty_str _) kb_ss ⟨true, rfl, iteF ⟨_, rfl, _, rfl, by rw [T_len, ho.len]; decide, fun ys d pm so hd => ?_⟩⟩⟩⟩
  refine ⟨_, rfl, by decide +kernel, fun zs d2 pm2 so2 hd2 => ?_⟩
  rw [T_cps] at pm
  have e1 := sorted_abcd ho.perm pm so
  have e2 := sorted_abcd (os := [97, 98, 99, 100]) (List.Perm.refl _) (by rw [T_abcd, T_cps] at pm2; exact pm2) so2
  subst e1 e2
  have sA := same_upd (o := .lst (([97, 98, 99, 100].map sgn).map V.str)) hd
  have sB := same_upd (o := .lst (([97, 98, 99, 100].map sgn).map V.str)) hd2
  have dp : ∀ {H : Hp} {z : Addr}, H z = some (.lst (([97, 98, 99, 100].map sgn).map V.str)) → Dp K H (.ref z) (.list [.str (sgn 97), .str (sgn 98), .str (sgn 99), .str (sgn 100)]) := fun e =>
    .lst (SqL.of e) (.cons (.str _) (.cons (.str _) (.cons (.str _) (.cons (.str _) .nil))))
  refine ⟨_, _, dp (sB _ _ upd_same), dp upd_same, by decide +kernel, by decide +kernel, _, rfl, ?_⟩
  have e3 : PyData.eqv (.list [.str (sgn 97), .str (sgn 98), .str (sgn 99), .str (sgn 100)]) (.list [.str (sgn 97), .str (sgn 98), .str (sgn 99), .str (sgn 100)]) = true := by decide +kernel
  rw [e3]
  refine iteF ⟨_, rfl, _, rfl, v, e, none, os, rfl, ho, rep_mono (Same.tups (s1.trans (sA.trans sB))) e v rp, wf.ok, wf.dp, fun r H' s2 rr => q r H' ((s1.trans (sA.trans sB)).trans s2) rr⟩
/-! ### _law_renamed -/
theorem ok_l_renamed (p : Prog K mg) : ∀ n, FnOk P w K mg base CX0 (n + 1) p.d_l_renamed.f p.d_l_renamed.fd ["_law_expression_here", "_law_order"] (spRen n)
  | 0 => fn_none fun vs H Q E h => by
    obtain ⟨v, e, o, os, _, _, _, _, h, _⟩ := h
    exact absurd h (Nat.not_lt_zero _)
  | n + 1 => by
    have G := ok_l_renamed p n
    refine p.d_l_renamed.F.ok sc_l_renamed (fun vs H Q E h => ?_) (fun cdv A outer s H vs Q E hr h => ?_)
    · obtain ⟨v, e, o, os, rfl, _⟩ := h
      rfl
    obtain ⟨v, e, o, os, rfl, ho, rp, ok, hd, q⟩ := h
    refine ⟨_, pss_cons (ps_if (pt_val (pe_is p.z_isinstance p.z_str rfl rfl boot_str' (pv 0))) (pss_one (ps_ret (pe_ifExp (pt_cmpR op_eq (pv 0) pe_str (nomark _)) pe_str (pe_ix ix_str (pv 1) (pe_m1 F.slot_str_index F.type_str_index mt_sindex pe_str (pv 0)) (fun _ _ => rfl))))) pss_nil)
      (pss_cons (ps_set (i := 2) sc_l_renamed.nd rfl (.inl rfl) (pe_tupleOf (by rfl) p.z_tuple (pe_lc (own := [("_law_part", 3)]) (g := gName 3) (tt := tYes) rfl sc_l_renamed.nd (pi_tup (pe_d _ (ok_l_inside p) (hr.mono (Nat.le_add_left 1 n)) rfl (pa_cons (pv 0) pa_nil)))
          (blkOk_by (N := ["_law_expression_here", "_law_order", "_law_parts", "_law_part"]) (sc := defScope s_l_renamed) (by decide +kernel)) (fun _ _ _ _ _ => pg_name (i := 3) sc_l_renamed.nd rfl (Or.inl rfl)) (fun _ _ _ _ _ => pts_nil)
          (fun _ _ _ _ _ => pe_d _ G hr rfl (pa_cons (pv 3) (pa_cons (pv 1) pa_nil))))))
      (pss_one (ps_ret (pe_tup (pa_cons (pe_ix ix_tup (pv 0) pe_int (fun _ _ => rfl)) (pa_cons (pe_ifExp (pt_cmpR op_in_seq (pe_ix ix_tup (pv 0) pe_int (fun _ _ => rfl)) (pe_lst (pa_cons pe_str (pa_cons pe_str pa_nil))) (by rfl)) (pe_ix ix_tup (pv 2) pe_int (fun _ _ => rfl)) (pv 2)) pa_nil)))))), ?_⟩
    by_cases hleaf : ∃ l, e = .leaf l
    · obtain ⟨l, rfl⟩ := hleaf
      rw [rep_leaf] at rp
      subst rp
      refine ⟨_, rfl, is_r (ty_str _) kb_ss ⟨true, rfl, iteT ⟨_, rfl, rfl, _, rfl, ?_⟩⟩⟩
      rw [Ok] at ok
      rcases ok with rfl | ⟨c, rfl, hc⟩
      · rw [dec_nil]
        exact iteT (q _ H (Same.refl H) (by rw [ren, rep_leaf]; show V.str ("" : Str) = V.str (T []); rw [T_nil]))
      · rw [dec_one]
        exact iteF ⟨_, rfl, ⟨_, rfl⟩, _, rfl, _, _, c - 97, [], rfl, rfl, index_abcd hc, _, _, ordF os c, rfl, rfl, lineT (by rw [T_len, ho.len]; decide), ord_at ho hc, q _ H (Same.refl H) (by rw [ren, rep_leaf]; rfl)⟩
    have hleaf : ∀ l, e ≠ .leaf l := fun l z => hleaf ⟨l, z⟩
    obtain ⟨a, z, u, rfl, e1⟩ := rep_ref rp hleaf
    refine ⟨_, rfl, is_r (ty_tup e1) kb_ts ⟨false, rfl, iteF ?_⟩⟩
    obtain ⟨hp3, hpo⟩ := parts_ok ok
    refine ⟨_, rfl, _, e, rfl, rp, fun b us H1 sm1 e2 rx => ⟨b, rfl, ⟨us, SqT.of e2⟩, fun D hD => ?_⟩⟩
    have hul := reps_len rx
    refine lc_rel (wa_tupV (xs := us)) (fun u y Hh => ∀ x ∈ parts e, Rep H1 x u → Rep Hh (ren (ordF os) x) y) hD (lineT (by omega)) (fun u y Ha Hb h bt k x hx rp => rep_mono (rep_mono_but h bt) _ _ (k x hx rp)) (fun H' sm => SqT.of (sm _ _ e2)) (fun u H2 Q1 hu sm _ q1 => ?_) (fun H2 ys sm eD rl => ?_)
    · obtain ⟨i, ei⟩ := List.getElem?_of_mem hu
      obtain ⟨x, ex, rpx⟩ := reps_get rx ei
      have hm := List.mem_of_getElem? ex
      obtain ⟨ox, okx⟩ := hpo x hm
      have hdx := parts_depth hm
      refine ⟨_, rfl, _, rfl, u, x, ox, os, rfl, ho, rep_mono (Same.tups sm) x u rpx, okx, by omega, fun r H' s' rr => q1 r H' s' fun x' hx' rp' => ?_⟩
      exact (rep_inj rpx rp') ▸ rr
    · have ry := rl_reps rx rl
      refine .inl ⟨D, ys, rfl, SqL.of eD, fun t1 ht1 => ?_⟩
      have sA := sm1.trans (sm.trans (same_upd (o := .tup ys) ht1))
      have ry1 := reps_mono (Same.tups (same_upd (o := .tup ys) ht1)) ry
      have e1A := sA _ _ e1
      have eT : (upd H2 t1 (.tup ys)) t1 = some (.tup ys) := upd_same
      generalize upd H2 t1 (.tup ys) = HA at sA ry1 e1A eT
      refine ⟨_, rfl, a, _, 0, _, rfl, rfl, SqT.of e1A, atI_nat (j := 0) rfl, _, rfl, a, _, 0, _, rfl, rfl, SqT.of e1A, atI_nat (j := 0) rfl, (by show 2 ≤ sizeLine; decide), fun t ht => ⟨t, _, rfl, .inl (SqL.of upd_same), rfl, rfl, _, rfl, ?_⟩⟩
      have sl := same_upd (o := .lst [.str "maybe", .str "many"]) ht
      cases e with
      | leaf l => exact absurd rfl (hleaf l)
      | one m x =>
        obtain ⟨a', u', za, eq, _⟩ := rep_one.mp rp
        cases za
        rw [e1] at eq
        cases eq
        show if inV (.str (owd m)) [.str "maybe", .str "many"] = true then _ else _
        rw [in_singles_one]
        obtain ⟨y, yr, rfl, ry2, yn⟩ := (show Reps HA [ren (ordF os) x] ys from ry1)
        refine iteT ⟨_, rfl, t1, _, 0, _, rfl, rfl, SqT.of (sl _ _ eT), atI_nat (j := 0) rfl, (by show 2 ≤ sizeLine; decide), fun t2 ht2 => ?_⟩
        have s2 := same_upd (o := .tup [.str (owd m), y]) ht2
        refine q _ _ (sA.trans (sl.trans s2)) ?_
        rw [ren, rep_one]
        exact ⟨t2, y, rfl, upd_same, rep_mono (Same.tups (sl.trans s2)) _ _ ry2⟩
      | row j ps =>
        obtain ⟨a', b', us', za, eq, _, _⟩ := rep_row.mp rp
        cases za
        rw [e1] at eq
        cases eq
        show if inV (.str (rwd j)) [.str "maybe", .str "many"] = true then _ else _
        rw [in_singles_row]
        refine iteF ⟨_, rfl, (by show 2 ≤ sizeLine; decide), fun t3 ht3 => ?_⟩
        have s3 := same_upd (o := .tup [.str (rwd j), .ref t1]) ht3
        refine q _ _ (sA.trans (sl.trans s3)) ?_
        rw [ren, rep_row, rens_eq]
        exact ⟨t3, t1, ys, rfl, upd_same, s3 _ _ (sl _ _ eT), reps_mono (Same.tups (sl.trans s3)) ry1⟩
end
end K05

set_option Elab.async false
set_option linter.all false
set_option maxRecDepth 100000
set_option maxHeartbeats 4000000
/-! K05: _law_equal. -/
namespace K05
open PySem PySem.Spec PyProof.Rows L2 KM
/-- equal bools, texts, tuples and lists, at most so deep -/
def EqV (H : Hp) : Nat → V → V → Prop
  | 0, _, _ => False
  | n + 1, u, v => (∃ b, u = .bl b ∧ v = .bl b) ∨ (∃ x, u = .str x ∧ v = .str x) ∨ ∃ a b xs ys, u = .ref a ∧ v = .ref b ∧ ((H a = some (.tup xs) ∧ H b = some (.tup ys)) ∨ (H a = some (.lst xs) ∧ H b = some (.lst ys))) ∧ xs.length = ys.length ∧ ys.length ≤ 1000 ∧
    ∀ (i : Nat) x y, xs[i]? = some x → ys[i]? = some y → EqV H n x y
theorem eqV_mono {H H' : Hp} (s : Same H H') : ∀ {n : Nat} {u v : V}, EqV H n u v → EqV H' n u v
  | 0, _, _, h => h.elim
  | n + 1, u, v, h => by
    rw [EqV] at h ⊢
    rcases h with h | h | ⟨a, b, xs, ys, e1, e2, h, hl, hz, k⟩
    · exact .inl h
    · exact .inr (.inl h)
    · refine .inr (.inr ⟨a, b, xs, ys, e1, e2, ?_, hl, hz, fun i x y e3 e4 => eqV_mono s (k i x y e3 e4)⟩)
      rcases h with ⟨h1, h2⟩ | ⟨h1, h2⟩
      · exact .inl ⟨s _ _ h1, s _ _ h2⟩
      · exact .inr ⟨s _ _ h1, s _ _ h2⟩
theorem eqV_rep {H : Hp} (e : Ex) : ∀ {o : Option Bool}, Ok o e → ∀ {n : Nat} {u v : V}, 2 * depth e < n → Rep H e u → Rep H e v → EqV H n u v := by
  induction e using Ex.ind with
  | hl l =>
    intro o ok n u v hn ru rv
    rw [rep_leaf] at ru rv
    subst ru rv
    obtain ⟨m, rfl⟩ : ∃ m, n = m + 1 := ⟨n - 1, by omega⟩
    rw [EqV]; exact .inr (.inl ⟨_, rfl, rfl⟩)
  | ho m x ih =>
    intro o ok n u v hn ru rv
    rw [depth] at hn
    rw [Ok] at ok
    obtain ⟨k, rfl⟩ : ∃ m, n = m + 1 := ⟨n - 1, by omega⟩
    obtain ⟨a, u', rfl, e1, r1⟩ := rep_one.mp ru
    obtain ⟨b, v', rfl, e2, r2⟩ := rep_one.mp rv
    rw [EqV]
    refine .inr (.inr ⟨a, b, _, _, rfl, rfl, .inl ⟨e1, e2⟩, rfl, by show 2 ≤ 1000; decide, fun i x y e3 e4 => ?_⟩)
    match i, e3, e4 with
    | 0, e3, e4 =>
      cases e3; cases e4
      obtain ⟨m', rfl⟩ : ∃ m, k = m + 1 := ⟨k - 1, by omega⟩
      rw [EqV]; exact .inr (.inl ⟨_, rfl, rfl⟩)
    | 1, e3, e4 =>
      cases e3; cases e4
      exact ih ok (by omega) r1 r2
    | i + 2, e3, e4 => simp at e3
  | hr j ps ih =>
    intro o ok n u v hn ru rv
    rw [depth] at hn
    rw [Ok] at ok
    obtain ⟨k, rfl⟩ : ∃ m, n = m + 2 := ⟨n - 2, by omega⟩
    obtain ⟨a, b, us, rfl, e1, e2, r1⟩ := rep_row.mp ru
    obtain ⟨a', b', us', rfl, e3, e4, r2⟩ := rep_row.mp rv
    have l1 := reps_len r1
    have l2 := reps_len r2
    rw [EqV]
    refine .inr (.inr ⟨a, a', _, _, rfl, rfl, .inl ⟨e1, e3⟩, rfl, by show 2 ≤ 1000; decide, fun i x y e5 e6 => ?_⟩)
    match i, e5, e6 with
    | 0, e5, e6 =>
      cases e5; cases e6
      rw [EqV]; exact .inr (.inl ⟨_, rfl, rfl⟩)
    | 1, e5, e6 =>
      cases e5; cases e6
      rw [EqV]
      refine .inr (.inr ⟨b, b', _, _, rfl, rfl, .inl ⟨e2, e4⟩, by omega, by omega, fun i x y e7 e8 => ?_⟩)
      obtain ⟨p1, ep1, rp1⟩ := reps_get r1 e7
      obtain ⟨p2, ep2, rp2⟩ := reps_get r2 e8
      rw [ep1] at ep2
      cases ep2
      have hm := List.mem_of_getElem? ep1
      have := depths_le hm
      exact ih p1 hm (oks_iff.mp ok.2.2.2 p1 hm) (by omega) rp1 rp2
    | i + 2, e5, e6 => simp at e5
theorem kb_bb : kitB "bool" "bool" = some true := by decide +kernel
theorem kb_sb : kitB "str" "bool" = some false := by decide +kernel
theorem kb_tb : kitB "tuple" "bool" = some false := by decide +kernel
theorem kb_lb : kitB "list" "bool" = some false := by decide +kernel
theorem kb_si : kitB "str" "int" = some false := by decide +kernel
theorem kb_ti : kitB "tuple" "int" = some false := by decide +kernel
theorem kb_li : kitB "list" "int" = some false := by decide +kernel
theorem kb_ls : kitB "list" "str" = some false := by decide +kernel
theorem kb_lt : kitB "list" "tuple" = some false := by decide +kernel
theorem kb_tl : kitB "tuple" "list" = some false := by decide +kernel
theorem kb_ll : kitB "list" "list" = some true := by decide +kernel
theorem boot_bool' : bootBuiltins ("bool" : String) = some (.type "bool") := by decide +kernel
theorem boot_int' : bootBuiltins ("int" : String) = some (.type "int") := by decide +kernel
theorem boot_list' : bootBuiltins ("list" : String) = some (.type "list") := by decide +kernel
theorem ty_lst {K : PySem.W.Frag} {H : Hp} {a : Addr} {xs : List V} (e : H a = some (.lst xs)) : TyX K H (.ref a) (.type "list") := .base (.lst e)
theorem ty_bl {K : PySem.W.Frag} {H : Hp} (b : Bool) : TyX K H (.bl b) (.type "bool") := .base (.bl b)
section
variable {P : Program} {w : World} {K : PySem.W.Frag} {mg : Str → Option Value} {base : Heap}
def spEqual (n : Nat) : Sp := fun vs H Q _ => ∃ (u v : V), vs = [u, v] ∧ EqV H n u v ∧ ∀ H', Same H H' → Q (.bl true) H'
theorem ok_l_equal (p : Prog K mg) : ∀ n, FnOk P w K mg base CX0 (n + 1) p.d_l_equal.f p.d_l_equal.fd ["_law_actual", "_law_due"] (spEqual n)
  | 0 => fn_none fun vs H Q E h => by
    obtain ⟨u, v, _, h, _⟩ := h
    exact h.elim
  | n + 1 => by
    have G := ok_l_equal p n
    refine p.d_l_equal.F.ok sc_l_equal (fun vs H Q E h => ?_) (fun cdv A outer s H vs Q E hr h => ?_)
    · obtain ⟨u, v, rfl, _⟩ := h
      rfl
    obtain ⟨u, v, rfl, eq, q⟩ := h
    refine ⟨_, pss_cons (ps_if (pt_cmpR op_isN (pv 1) pe_non (nomark _)) pss_never pss_nil)
      (pss_cons (ps_if (pt_val (pe_is p.z_isinstance p.z_bool rfl rfl boot_bool' (pv 1))) (pss_one (ps_ret (pe_and (pe_is p.z_isinstance p.z_bool rfl rfl boot_bool' (pv 0)) (pe_one (pe_cmpR op_eq (pv 0) (pv 1) (nomark _)))))) pss_nil)
      (pss_cons (ps_if (pt_val (pe_is p.z_isinstance p.z_int rfl rfl boot_int' (pv 1))) pss_never pss_nil)
      (pss_cons (ps_if (pt_val (pe_is p.z_isinstance p.z_str rfl rfl boot_str' (pv 1))) (pss_one (ps_ret (pe_and (pe_is p.z_isinstance p.z_str rfl rfl boot_str' (pv 0)) (pe_one (pe_cmpR op_eq (pv 0) (pv 1) (nomark _)))))) pss_nil)
      (pss_cons (ps_if (PW.pt (pw_and (pt_val (pe_is p.z_isinstance p.z_tuple rfl rfl boot_tuple' (pv 1))) (pw_and1 (pt_not (pt_val (pe_is p.z_isinstance p.z_tuple rfl rfl boot_tuple' (pv 0))))))) pss_never pss_nil)
      (pss_cons (ps_if (PW.pt (pw_and (pt_val (pe_is p.z_isinstance p.z_list rfl rfl boot_list' (pv 1))) (pw_and1 (pt_not (pt_val (pe_is p.z_isinstance p.z_list rfl rfl boot_list' (pv 0))))))) pss_never pss_nil)
      (pss_cons (ps_if (pt_cmpR op_ne (pe_callB call_len_seq (by rfl) p.z_len PySem.boot_len (pa_cons (pv 0) pa_nil)) (pe_callB call_len_seq (by rfl) p.z_len PySem.boot_len (pa_cons (pv 1) pa_nil)) (nomark _)) pss_never pss_nil)
      (pss_one (ps_ret (pe_callB (cr_all rfl) (by rfl) p.z_all (by decide +kernel) (pa_cons (pe_lc (own := [("_law_at", 2)]) (g := gName 2) (tt := tYes) rfl sc_l_equal.nd (pi_range1 (by rfl) p.z_range (pa_cons (pe_callB call_len_seq (by rfl) p.z_len PySem.boot_len (pa_cons (pv 1) pa_nil)) pa_nil))
          (blkOk_by (N := ["_law_actual", "_law_due", "_law_at"]) (sc := defScope s_l_equal) (by decide +kernel)) (fun _ _ _ _ _ => pg_name (i := 2) sc_l_equal.nd rfl (Or.inl rfl)) (fun _ _ _ _ _ => pts_nil)
          (fun _ _ _ _ _ => pe_d _ G hr rfl (pa_cons (pe_ix (r := rIx K) ix_seq (pv 0) (pv 2) (fun _ _ => rfl)) (pa_cons (pe_ix (r := rIx K) ix_seq (pv 1) (pv 2) (fun _ _ => rfl)) pa_nil)))) pa_nil)))))))))), ?_⟩
    rw [EqV] at eq
    rcases eq with ⟨b, rfl, rfl⟩ | ⟨x, rfl, rfl⟩ | ⟨a, b, xs, ys, rfl, rfl, h, hl, hz, k⟩
    · refine ⟨_, rfl, rfl, _, rfl, iteN (fun z => by cases z) ?_⟩
      refine ⟨_, rfl, is_r (ty_bl b) kb_bb ⟨true, rfl, iteT ⟨_, rfl, is_r (ty_bl b) kb_bb ⟨true, rfl, iteT ⟨_, rfl, _, rfl, rfl, ?_⟩⟩⟩⟩⟩
      rw [decide_eq_true rfl]
      exact q H (Same.refl H)
    · refine ⟨_, rfl, rfl, _, rfl, iteN (fun z => by cases z) ?_⟩
      refine ⟨_, rfl, is_r (ty_str x) kb_sb ⟨false, rfl, iteF ?_⟩⟩
      refine ⟨_, rfl, is_r (ty_str x) kb_si ⟨false, rfl, iteF ?_⟩⟩
      refine ⟨_, rfl, is_r (ty_str x) kb_ss ⟨true, rfl, iteT ⟨_, rfl, is_r (ty_str x) kb_ss ⟨true, rfl, iteT ⟨_, rfl, _, rfl, rfl, ?_⟩⟩⟩⟩⟩
      rw [decide_eq_true rfl]
      exact q H (Same.refl H)
    · refine ⟨_, rfl, rfl, _, rfl, iteN (fun z => by cases z) ?_⟩
      rcases h with ⟨h1, h2⟩ | ⟨h1, h2⟩
      · refine ⟨_, rfl, is_r (ty_tup h2) kb_tb ⟨false, rfl, iteF ?_⟩⟩
        refine ⟨_, rfl, is_r (ty_tup h2) kb_ti ⟨false, rfl, iteF ?_⟩⟩
        refine ⟨_, rfl, is_r (ty_tup h2) kb_ts ⟨false, rfl, iteF ?_⟩⟩
        refine ⟨_, rfl, is_r (ty_tup h2) kb_tt ⟨true, rfl, iteT ⟨_, rfl, is_r (ty_tup h1) kb_tt ⟨true, rfl, iteF ?_⟩⟩⟩⟩
        refine ⟨_, rfl, is_r (ty_tup h2) kb_tl ⟨false, rfl, iteF (iteF ?_)⟩⟩
        refine ⟨_, rfl, a, xs, rfl, .inr (SqT.of h1), _, rfl, b, ys, rfl, .inr (SqT.of h2), rfl, _, rfl, iteNS (by rw [hl]) ?_⟩
        refine ⟨_, rfl, b, ys, rfl, .inr (SqT.of h2), _, rfl, by omega, by omega, fun D hD => lc_fn (wa_range (n := ((ys.length : Nat) : Int).toNat)) (fun _ => .bl true) hD (lineT (by rw [List.length_range]; omega)) (fun _ _ => True.intro) (fun i H1 Q1 hi sm q1 => ?_) (fun H1 sm eD => ?_)⟩
        · have hi2 : i < ys.length := by have := List.mem_range.mp hi; omega
          have ex := List.getElem?_eq_getElem (l := xs) (i := i) (by omega)
          have ey := List.getElem?_eq_getElem hi2
          exact ⟨_, rfl, _, rfl, .inr (.inl ⟨a, xs, _, _, rfl, rfl, SqT.of (sm _ _ h1), atI_nat ex, _, rfl, _, rfl, .inr (.inl ⟨b, ys, _, _, rfl, rfl, SqT.of (sm _ _ h2), atI_nat ey, _, _, rfl, eqV_mono sm (k i _ _ ex ey), q1⟩)⟩)⟩
        · refine ⟨D, (List.range ((ys.length : Nat) : Int).toNat).map (fun _ => true), rfl, SqL.of (by rw [eD, List.map_map]; rfl), ?_⟩
          have : ((List.range ((ys.length : Nat) : Int).toNat).map (fun _ => true)).all id = true := by simp
          rw [this]
          exact q H1 sm
      · refine ⟨_, rfl, is_r (ty_lst h2) kb_lb ⟨false, rfl, iteF ?_⟩⟩
        refine ⟨_, rfl, is_r (ty_lst h2) kb_li ⟨false, rfl, iteF ?_⟩⟩
        refine ⟨_, rfl, is_r (ty_lst h2) kb_ls ⟨false, rfl, iteF ?_⟩⟩
        refine ⟨_, rfl, is_r (ty_lst h2) kb_lt ⟨false, rfl, iteF (iteF ?_)⟩⟩
        refine ⟨_, rfl, is_r (ty_lst h2) kb_ll ⟨true, rfl, iteT ⟨_, rfl, is_r (ty_lst h1) kb_ll ⟨true, rfl, iteF ?_⟩⟩⟩⟩
        refine ⟨_, rfl, a, xs, rfl, .inl (SqL.of h1), _, rfl, b, ys, rfl, .inl (SqL.of h2), rfl, _, rfl, iteNS (by rw [hl]) ?_⟩
        refine ⟨_, rfl, b, ys, rfl, .inl (SqL.of h2), _, rfl, by omega, by omega, fun D hD => lc_fn (wa_range (n := ((ys.length : Nat) : Int).toNat)) (fun _ => .bl true) hD (lineT (by rw [List.length_range]; omega)) (fun _ _ => True.intro) (fun i H1 Q1 hi sm q1 => ?_) (fun H1 sm eD => ?_)⟩
        · have hi2 : i < ys.length := by have := List.mem_range.mp hi; omega
          have ex := List.getElem?_eq_getElem (l := xs) (i := i) (by omega)
          have ey := List.getElem?_eq_getElem hi2
          exact ⟨_, rfl, _, rfl, .inl ⟨a, xs, _, _, rfl, rfl, SqL.of (sm _ _ h1), atI_nat ex, _, rfl, _, rfl, .inl ⟨b, ys, _, _, rfl, rfl, SqL.of (sm _ _ h2), atI_nat ey, _, _, rfl, eqV_mono sm (k i _ _ ex ey), q1⟩⟩⟩
        · refine ⟨D, (List.range ((ys.length : Nat) : Int).toNat).map (fun _ => true), rfl, SqL.of (by rw [eD, List.map_map]; rfl), ?_⟩
          have : ((List.range ((ys.length : Nat) : Int).toNat).map (fun _ => true)).all id = true := by simp
          rw [this]
          exact q H1 sm
end
end K05

set_option Elab.async false
set_option linter.all false
set_option maxRecDepth 100000
set_option maxHeartbeats 4000000
/-! K05: the law's draws: _law_stream, _law_next, _law_pick, _law_grown, _law_expression. -/
namespace K05
open PySem PySem.Spec PyProof.Rows L2 KM
/-- a stream of draws stands at s -/
def Strm (H : Hp) (s l : Addr) : Prop := ∃ (ns : List Int) (x : Int) (k : Nat), s ≠ l ∧ H s = some (.lst [.ref l, .int x, .int k]) ∧ H l = some (.lst (ns.map V.int)) ∧ 0 ≤ x ∧ ns.length ≤ 63
theorem Strm.same {H H' : Hp} {s l : Addr} (h : Strm H s l) (sm : Same H H') : Strm H' s l := by
  obtain ⟨ns, x, k, ne, e1, e2, h1, h2⟩ := h
  exact ⟨ns, x, k, ne, sm _ _ e1, sm _ _ e2, h1, h2⟩
theorem Strm.tups {H H' : Hp} {s l : Addr} (h : Strm H s l) (bt : But s H H') : Tups H H' := by
  obtain ⟨ns, x, k, ne, e1, _⟩ := h
  exact bt.tups e1
theorem Strm.ne {H : Hp} {s b l : Addr} {xs : List V} (h : Strm H s l) (e : H b = some (.lst xs)) (n : ∀ l x k, xs ≠ [.ref l, .int x, .int k]) : b ≠ s := by
  obtain ⟨ns, x, k, ne, e1, _⟩ := h
  intro z
  rw [z, e1] at e
  injection (Option.some.inj e) with e2
  exact n _ _ _ e2.symm
section
variable {P : Program} {w : World} {K : PySem.W.Frag} {mg : Str → Option Value} {base : Heap}
def spStream (K : PySem.W.Frag) : Sp := fun vs H Q _ => ∃ (a : Addr) (ns : List Int), vs = [.ref a] ∧ SqL K H a (ns.map V.int) ∧ ns.length ≤ 63 ∧ ∀ s l H', Same H H' → H s = none → Strm H' s l → Q (.ref s) H'
theorem boot_list2 : bootBuiltins "list" = some (.type "list") := by decide +kernel
theorem boot_int2 : bootBuiltins "int" = some (.type "int") := by decide +kernel
theorem boot_abs2 : bootBuiltins "abs" = some (.builtin "abs") := by decide +kernel
theorem ok_l_stream (p : Prog K mg) : FnOk P w K mg base CX0 1 p.d_l_stream.f p.d_l_stream.fd ["_law_script"] (spStream K) := by
  refine p.d_l_stream.F.ok sc_l_stream (fun vs H Q E h => ?_) (fun cdv A outer s H vs Q E hr h => ?_)
  · obtain ⟨a, ns, rfl, _⟩ := h
    rfl
  obtain ⟨a, ns, rfl, hS, hl, q⟩ := h
  refine ⟨_, pss_one (ps_ret (pe_lst (pa_cons (pe_callTy call_list_of (by rfl) p.z_list boot_list2 (pa_cons (pv 0) pa_nil)) (pa_cons pe_int (pa_cons pe_int pa_nil))))), ?_⟩
  refine ⟨_, rfl, a, _, rfl, .inl hS, fun l hl1 => ⟨(by show 3 ≤ sizeLine; decide), fun t ht => ?_⟩⟩
  have hne : t ≠ l := fun z => by rw [z, upd_same] at ht; cases ht
  refine q t l _ ((same_upd hl1).trans (same_upd ht)) ((same_upd hl1).free ht) ⟨ns, 0, 0, hne, upd_same, ?_, Int.le_refl 0, hl⟩
  rw [upd_ne hne.symm, upd_same]
/-! ### _law_next -/
def spNext : Sp := fun vs H Q _ => ∃ (s l : Addr) (m : Int), vs = [.ref s, .int m] ∧ Strm H s l ∧ 0 < m ∧ m < 1073741824 ∧ ∀ d H', 0 ≤ d → d < m → But s H H' → Strm H' s l → Q (.int d) H'
theorem ok_l_next (p : Prog K mg) : FnOk P w K mg base CX0 1 p.d_l_next.f p.d_l_next.fd ["_law_stream_here", "_law_many"] spNext := by
  refine p.d_l_next.F.ok sc_l_next (fun vs H Q E h => ?_) (fun cdv A outer s H vs Q E hr h => ?_)
  · obtain ⟨s, l, m, rfl, _⟩ := h
    rfl
  obtain ⟨s, l, m, rfl, ⟨ns, x, k, ne, eS, eL, hx, hns⟩, hm, hm2, q⟩ := h
  refine ⟨_, C8.pss_cut (ps_if (pt_cmpR op_eq (pe_ix ix_list (pv 0) pe_int (fun _ _ => rfl)) pe_int (nomark _))
      (pss_cons (ps_set (i := 2) sc_l_next.nd rfl (.inl rfl) (pe_ix ix_list (pv 0) pe_int (fun _ _ => rfl)))
      (pss_cons (ps_set (i := 3) sc_l_next.nd rfl (.inl rfl) (pe_op op_add pe_int (pv 2)))
      (C8.pss_cut (ps_if (pt_cmpR op_lt (pv 2) (pe_callB call_len_seq (by rfl) p.z_len PySem.boot_len (pa_cons (pe_ix ix_list (pv 0) pe_int (fun _ _ => rfl)) pa_nil)) (nomark _))
        (pss_one (ps_set (i := 3) sc_l_next.nd rfl (.inl rfl) (pe_callB call_abs (by rfl) p.z_abs boot_abs2 (pa_cons (pe_ix ix_list (pe_ix ix_list (pv 0) pe_int (fun _ _ => rfl)) (pv 2) (fun _ _ => rfl)) pa_nil)))) pss_nil)
      (C8.pss_cut (ps_if (pt_cmpR op_lt (pv 3) (pe_op op_pow pe_int pe_int) (nomark _))
        (pss_cons (ps_set (i := 3) sc_l_next.nd rfl (.inl rfl) (pe_op op_mod (pe_callTy call_int1 (by rfl) p.z_int boot_int2 (pa_cons (pe_op op_add (pe_op op_add (pe_op op_mul (pv 3) pe_int) (pe_op op_mul (pv 2) pe_int)) pe_int) pa_nil)) pe_int))
        (pss_one (ps_set (i := 3) sc_l_next.nd rfl (.inl rfl) (pe_op op_add (pe_op op_mul (pe_op op_mod (pe_callTy call_int1 (by rfl) p.z_int boot_int2 (pa_cons (pe_op op_add (pe_op op_mul (pv 3) pe_int) pe_int) pa_nil)) pe_int) pe_int) (pv 3))))) pss_nil)
      (pss_cons (ps_asg (pv 3) (pg_sub (pv 0) pe_int set_list))
      (pss_one (ps_asg (pe_op op_add (pv 2) pe_int) (pg_sub (pv 0) pe_int set_list)))))))) pss_nil)
    (pss_cons (ps_set (i := 4) sc_l_next.nd rfl (.inl rfl) (pe_op op_mod (pe_callTy call_int1 (by rfl) p.z_int boot_int2 (pa_cons (pe_ix ix_list (pv 0) pe_int (fun _ _ => rfl)) pa_nil)) (pv 1)))
    (pss_cons (ps_asg (pe_op op_fdiv (pe_ix ix_list (pv 0) pe_int (fun _ _ => rfl)) (pv 1)) (pg_sub (pv 0) pe_int set_list))
    (pss_one (ps_ret (pv 4))))), ?_⟩
  have sS : SqL K H s [.ref l, .int x, .int k] := SqL.of eS
  refine ⟨fun σ H1 => ∃ y2 y3, σ = [some (.ref s), some (.int m), y2, y3, none] ∧ But s H H1 ∧ ∃ (x1 : Int) (k1 : Nat), 0 ≤ x1 ∧ H1 s = some (.lst [.ref l, .int x1, .int k1]), ?_, ?_⟩
  · refine ⟨_, rfl, s, _, 1, _, rfl, rfl, sS, atI_nat (j := 1) rfl, rfl, _, rfl, ite2 (fun _ => ?_) (fun _ => ⟨none, none, rfl, fun b o _ e => e, x, k, hx, eS⟩)⟩
    refine ⟨_, rfl, s, _, 2, _, rfl, rfl, sS, atI_nat (j := 2) rfl, _, rfl, _, _, rfl, rfl, ?_⟩
    -- the cell
    refine ⟨fun σ H1 => H1 = H ∧ ∃ c, 0 ≤ c ∧ σ = [some (.ref s), some (.int m), some (.int k), some (.int c), none], ?_, ?_⟩
    · refine ⟨_, rfl, _, rfl, s, _, 0, _, rfl, rfl, sS, atI_nat (j := 0) rfl, l, _, rfl, .inl (SqL.of eL), _, _, rfl, rfl, _, rfl, ite2 (fun c => ?_) (fun _ => ⟨rfl, _, by omega, rfl⟩)⟩
      have c1 : (k : Int) < ((ns.map V.int).length : Nat) := of_decide_eq_true c
      rw [List.length_map] at c1
      have hk : k < ns.length := by omega
      have ea : (ns.map V.int)[k]? = some (.int ns[k]) := by rw [List.getElem?_map, List.getElem?_eq_getElem hk]; rfl
      refine ⟨_, rfl, s, _, 0, _, rfl, rfl, sS, atI_nat (j := 0) rfl, _, rfl, l, _, k, _, rfl, rfl, SqL.of eL, atI_nat ea, _, rfl, rfl, _, ?_, rfl⟩
      split <;> omega
    · rintro σ H1 ⟨rfl, c, hc, rfl⟩
      refine ⟨fun σ H2 => H2 = H1 ∧ ∃ c, 0 ≤ c ∧ σ = [some (.ref s), some (.int m), some (.int k), some (.int c), none], ?_, ?_⟩
      · refine ⟨_, rfl, _, _, rfl, rfl, ⟨by decide, by decide, by decide⟩, _, _, rfl, rfl, _, rfl, ite2 (fun _ => ?_) (fun _ => ⟨rfl, c, hc, rfl⟩)⟩
        refine ⟨_, rfl, _, _, rfl, rfl, .inr ⟨by decide, by decide⟩, _, rfl, _, _, rfl, rfl, .inr ⟨by decide, by decide⟩, _, _, rfl, rfl, _, _, rfl, rfl, .inl ⟨_, rfl, _, _, rfl, rfl, (by show (0 : Int) < 2147483647; decide), ?_⟩⟩
        refine ⟨_, rfl, _, _, rfl, rfl, .inr ⟨by decide, by decide⟩, _, _, rfl, rfl, .inl ⟨_, rfl, _, _, rfl, rfl, (by show (0 : Int) < 2147483647; decide), _, _, rfl, rfl, .inr ⟨by decide, by decide⟩, _, rfl, _, _, rfl, rfl, rfl, _, ?_, rfl⟩⟩
        omega
      · rintro σ H2 ⟨rfl, c2, hc2, rfl⟩
        refine ⟨_, rfl, _, rfl, s, _, 1, 1, rfl, rfl, eS, (show ixN 3 1 = some 1 by decide), ?_⟩
        refine ⟨_, rfl, _, _, rfl, rfl, _, rfl, s, _, 2, 2, rfl, rfl, upd_same, (show ixN 3 2 = some 2 by decide), ?_⟩
        refine ⟨_, _, rfl, ?_, c2, k + 1, hc2, ?_⟩
        · rw [upd_upd]; exact But.upd s _ _
        · rw [upd_same]; rfl
  · rintro σ H1 ⟨y2, y3, rfl, bt, x1, k1, hx1, e1⟩
    have s1 : SqL K H1 s [.ref l, .int x1, .int k1] := SqL.of e1
    refine ⟨_, rfl, s, _, 1, _, rfl, rfl, s1, atI_nat (j := 1) rfl, .inl ⟨_, rfl, _, rfl, _, _, rfl, rfl, hm, ?_⟩⟩
    refine ⟨_, rfl, s, _, 1, _, rfl, rfl, s1, atI_nat (j := 1) rfl, _, rfl, _, _, rfl, rfl, ⟨hm, hm2⟩, _, rfl, s, _, 1, 1, rfl, rfl, e1, (show ixN 3 1 = some 1 by decide), ?_⟩
    refine ⟨_, rfl, q _ _ (Int.emod_nonneg _ (by omega)) (Int.emod_lt_of_pos _ hm) (bt.trans (But.upd s _ _)) ⟨ns, x1 / m, k1, ne, by rw [upd_same]; rfl, ?_, Int.ediv_nonneg hx1 (by omega), hns⟩⟩
    rw [upd_ne ne.symm]
    exact bt _ _ ne.symm eL
/-! ### _law_pick -/
def spPick (K : PySem.W.Frag) : Sp := fun vs H Q _ => ∃ (s l b : Addr) (xs : List V), vs = [.ref s, .ref b] ∧ Strm H s l ∧ b ≠ s ∧ SqL K H b xs ∧ xs ≠ [] ∧ xs.length ≤ 1000 ∧ ∀ x H', x ∈ xs → But s H H' → Strm H' s l → Q x H'
theorem seq_but {H H' : Hp} {s b : Addr} {xs : List V} (h : SqL K H b xs) (bt : But s H H') (ne : b ≠ s) : SqL K H' b xs := by
  rcases h with (h | ⟨o, h⟩) | h
  · exact .inl (.inl (bt _ _ ne h))
  · exact .inl (.inr ⟨o, bt _ _ ne h⟩)
  · exact .inr h
theorem ok_l_pick (p : Prog K mg) : FnOk P w K mg base CX0 2 p.d_l_pick.f p.d_l_pick.fd ["_law_stream_here", "_law_rows"] (spPick K) := by
  refine p.d_l_pick.F.ok sc_l_pick (fun vs H Q E h => ?_) (fun cdv A outer s H vs Q E hr h => ?_)
  · obtain ⟨s, l, b, xs, rfl, _⟩ := h
    rfl
  obtain ⟨s, l, b, xs, rfl, st, ne, hS, hx, hl, q⟩ := h
  refine ⟨_, pss_one (ps_ret (pe_ix ix_list (pv 1) (pe_d _ (ok_l_next p) hr rfl (pa_cons (pv 0) (pa_cons (pe_callB call_len_seq (by rfl) p.z_len PySem.boot_len (pa_cons (pv 1) pa_nil)) pa_nil))) (fun _ _ => rfl))), ?_⟩
  have h0 : 0 < xs.length := List.length_pos_iff.mpr hx
  refine ⟨_, rfl, _, rfl, _, rfl, b, xs, rfl, .inl hS, s, l, _, rfl, st, by omega, by omega, fun d H' h1 h2 bt st' => ?_⟩
  have hd : d.toNat < xs.length := by omega
  have ed : d = ((d.toNat : Nat) : Int) := by omega
  have ex := List.getElem?_eq_getElem hd
  exact ⟨b, xs, d, _, rfl, rfl, seq_but hS bt ne, at_of ed ex, q _ H' (List.getElem_mem hd) bt st'⟩
/-! ### _law_grown -/
def nodes : Nat → Nat
  | 0 => 1
  | d + 1 => 1 + 3 * nodes d
theorem nodes_pos (d : Nat) : 1 ≤ nodes d := by cases d <;> simp [nodes] <;> omega
theorem nodes_mono {a b : Nat} (h : a ≤ b) : nodes a ≤ nodes b := by
  induction h with
  | refl => exact Nat.le_refl _
  | step _ ih => rw [nodes]; omega
theorem have_ {X G : Prop} (f : X → G) (x : X) : G := f x
theorem orX {a : Prop} [Decidable a] {X Y : Prop} (hx : X) (hy : ¬ a → Y) : if decide a = true then X else Y := by
  by_cases h : a
  · rw [decide_eq_true h, if_pos rfl]; exact hx
  · rw [decide_eq_false h, if_neg Bool.false_ne_true]; exact hy h
def spGrown (n : Nat) : Sp := fun vs H Q _ => ∃ (s l : Addr) (ls : Wd) (room deep : Nat) (o : Option Bool) (r dp : Int), vs = [.ref s, wV ls, .int r, .int dp, .str (owW o)] ∧ r = (room : Int) ∧ dp = (deep : Int) ∧ Strm H s l ∧ ls ≠ [] ∧ ls.length ≤ 4 ∧ (∀ c ∈ ls, Abc c) ∧ room ≤ 5 ∧ deep < n ∧ deep ≤ 4 ∧
  ∀ v e H', But s H H' → Strm H' s l → Rep H' e v → Ok o e → depth e ≤ deep → (lets e).length ≤ room → KM.cnt e ≤ nodes deep → Q v H'
theorem mem_two {x : V} {a b : Str} (h : x ∈ [V.str a, V.str b]) : x = .str a ∨ x = .str b := by simpa using h
theorem ok_l_grown (p : Prog K mg) : ∀ n, FnOk P w K mg base CX0 (n + 2) p.d_l_grown.f p.d_l_grown.fd ["_law_stream_here", "_law_letters_here", "_law_room", "_law_deep", "_law_outer"] (spGrown n)
  | 0 => fn_none fun vs H Q E h => by
    obtain ⟨s, l, ls, room, deep, o, _, _, _, _, _, _, _, _, _, _, h, _⟩ := h
    exact absurd h (Nat.not_lt_zero _)
  | n + 1 => by
    have G := ok_l_grown p n
    have h2 : 2 ≤ n + 2 := Nat.le_add_left 2 n
    refine p.d_l_grown.F.ok sc_l_grown (fun vs H Q E h => ?_) (fun cdv A outer s H vs Q E hr h => ?_)
    · obtain ⟨s, l, ls, room, deep, o, r, dp, rfl, _⟩ := h
      rfl
    obtain ⟨s, l, ls, room, deep, o, r, dp, rfl, rfl, rfl, st, hls, hl4, hab, hroom, hdn, hd4, q⟩ := h
    refine ⟨_, pss_cons (ps_set (i := 5) sc_l_grown.nd rfl (.inl rfl) (pe_d _ (ok_l_next p) (hr.mono (Nat.le_add_left 1 (n + 1))) rfl (pa_cons (pv 0) (pa_cons pe_int pa_nil))))
      (pss_cons (ps_if (PW.pt (pw_or (pt_cmpR op_eq (pv 3) pe_int (nomark _)) (pw_or (pt_cmpR op_eq (pv 2) pe_int (nomark _)) (pw_or1 (pt_cmpR op_eq (pv 5) pe_int (nomark _))))))
        (pss_one (ps_ret (pe_ifExp (PW.pt (pw_and (pt_cmpR op_gt (pv 2) pe_int (nomark _)) (pw_and1 (pt_cmpR op_gt (pe_d _ (ok_l_next p) (hr.mono (Nat.le_add_left 1 (n + 1))) rfl (pa_cons (pv 0) (pa_cons pe_int pa_nil))) pe_int (nomark _)))))
          (pe_d _ (ok_l_pick p) (hr.mono h2) rfl (pa_cons (pv 0) (pa_cons (pe_callTy (call_listTx rfl) (by rfl) p.z_list boot_list2 (pa_cons (pv 1) pa_nil)) pa_nil))) pe_str))) pss_nil)
      (pss_cons (ps_if (pt_cmpR op_lt (pv 5) pe_int (nomark _))
        (pss_one (ps_ret (pe_tup (pa_cons (pe_d _ (ok_l_pick p) (hr.mono h2) rfl (pa_cons (pv 0) (pa_cons (pe_lst (pa_cons pe_str (pa_cons pe_str pa_nil))) pa_nil)))
          (pa_cons (pe_d _ G hr rfl (pa_cons (pv 0) (pa_cons (pv 1) (pa_cons (pv 2) (pa_cons (pe_op op_sub (pv 3) pe_int) (pa_cons pe_str pa_nil)))))) pa_nil))))) pss_nil)
      (pss_cons (ps_set (i := 6) sc_l_grown.nd rfl (.inl rfl) (pe_d _ (ok_l_pick p) (hr.mono h2) rfl (pa_cons (pv 0) (pa_cons (pe_lst (pa_cons pe_str (pa_cons pe_str pa_nil))) pa_nil))))
      (C8.pss_cut (ps_if (pt_cmpR op_eq (pv 6) (pv 4) (nomark _)) (pss_one (ps_set (i := 6) sc_l_grown.nd rfl (.inl rfl) (pe_ifExp (pt_cmpR op_eq (pv 4) pe_str (nomark _)) pe_str pe_str))) pss_nil)
      (pss_cons (ps_set (i := 7) sc_l_grown.nd rfl (.inl rfl) (pe_op op_add pe_int (pe_d _ (ok_l_next p) (hr.mono (Nat.le_add_left 1 (n + 1))) rfl (pa_cons (pv 0) (pa_cons pe_int pa_nil)))))
      (pss_cons (ps_set (i := 8) sc_l_grown.nd rfl (.inl rfl) (pv 2))
      (pss_cons (ps_set (i := 9) sc_l_grown.nd rfl (.inl rfl) (pe_lst pa_nil))
      (pss_cons (ps_for PassesOwn.never rfl (pi_range1 (by rfl) p.z_range (pa_cons (pv 7) pa_nil)) (pg_name (i := 10) sc_l_grown.nd rfl (.inl rfl))
        (C8.pss_cut (ps_set (i := 11) sc_l_grown.nd rfl (.inl rfl) (pe_ifExp (pt_cmpR op_eq (pe_op op_add (pv 10) pe_int) (pv 7) (nomark _)) (pv 8) (pe_d _ (ok_l_next p) (hr.mono (Nat.le_add_left 1 (n + 1))) rfl (pa_cons (pv 0) (pa_cons (pe_op op_add (pv 8) pe_int) pa_nil)))))
        (pss_cons (ps_set (i := 8) sc_l_grown.nd rfl (.inl rfl) (pe_op op_sub (pv 8) (pv 11)))
        (pss_one (ps_expr (pe_bm PySem.F.plainAttrs_list PySem.F.slot_list_append PySem.F.type_list_append mt_append (pv 9) (pa_cons (pe_d _ G hr rfl (pa_cons (pv 0) (pa_cons (pv 1) (pa_cons (pv 11) (pa_cons (pe_op op_sub (pv 3) pe_int) (pa_cons (pv 6) pa_nil)))))) pa_nil)))))))
      (pss_one (ps_ret (pe_tup (pa_cons (pv 6) (pa_cons (pe_tupleOf (by rfl) p.z_tuple (pv 9)) pa_nil))))))))))))), ?_⟩
    refine ⟨_, rfl, s, l, 8, rfl, st, by omega, by omega, fun d H1 hd0 hd8 bt1 st1 => ?_⟩
    by_cases hz : deep = 0 ∨ room = 0 ∨ d = 0
    · refine have_ (fun hX => ⟨_, rfl, rfl, _, rfl, orX hX fun h1 => ⟨_, rfl, rfl, _, rfl, orX hX fun h2 => ⟨_, rfl, rfl, _, rfl, orX hX fun h3 => ?_⟩⟩⟩) ?_
      · exfalso
        rcases hz with z | z | z
        · exact h1 (by rw [z]; rfl)
        · exact h2 (by rw [z]; rfl)
        · exact h3 (by rw [z])
      · have leaf0 : ∀ H2, But s H H2 → Strm H2 s l → Q (.str "") H2 := fun H2 bt st => q _ (.leaf []) H2 bt st (by rw [rep_leaf, T_nil]) (by rw [Ok]; exact .inl rfl) (by rw [depth]; omega) (by rw [lets]; exact Nat.zero_le _) (by rw [KM.cnt]; exact nodes_pos deep)
        refine iteT ⟨_, rfl, _, _, rfl, rfl, _, rfl, ite2 (fun c => ?_) (fun c => iteF (leaf0 H1 bt1 st1))⟩
        refine ⟨_, rfl, s, l, 8, rfl, st1, by omega, by omega, fun d2 H2 _ _ bt2 st2 => ⟨_, _, rfl, rfl, _, rfl, ite2 (fun c2 => ?_) (fun c2 => leaf0 H2 (bt1.trans bt2) st2)⟩⟩
        refine ⟨_, rfl, _, rfl, _, rfl, lineT (by rw [T_len]; omega), fun z hz => ?_⟩
        have hzs : z ≠ s := fun e => by
          obtain ⟨ns, x, k, _, e1, _⟩ := st2
          rw [e, e1] at hz
          cases hz
        have sz := same_upd (o := .lst ((T ls).cps.toList.map sg)) hz
        refine ⟨s, l, z, _, rfl, st2.same sz, hzs, SqL.of upd_same, by rw [T_cps]; simpa using hls, by rw [List.length_map, T_cps]; omega, fun x H3 hx bt3 st3 => ?_⟩
        rw [T_cps] at hx
        obtain ⟨ch, hch, rfl⟩ := List.mem_map.mp hx
        have hr0 : (0 : Int) < (room : Int) := of_decide_eq_true c
        refine q _ (.leaf [ch]) H3 (((bt1.trans bt2).trans (Same.but sz s)).trans bt3) st3 (by rw [rep_leaf]) (by rw [Ok]; exact .inr ⟨ch, rfl, hab ch hch⟩) (by rw [depth]; omega) (by rw [lets]; show 1 ≤ room; omega) (by rw [KM.cnt]; exact nodes_pos deep)
    · have hz1 : deep ≠ 0 := fun z => hz (.inl z)
      have hz2 : room ≠ 0 := fun z => hz (.inr (.inl z))
      have hz3 : d ≠ 0 := fun z => hz (.inr (.inr z))
      have hnd : 1 + 3 * nodes (deep - 1) ≤ nodes deep := by
        obtain ⟨dd, rfl⟩ : ∃ dd, deep = dd + 1 := ⟨deep - 1, by omega⟩
        exact Nat.le_refl _
      refine ⟨_, rfl, rfl, _, rfl, iteN (fun z => hz1 (by have := V.int.inj z; omega)) ⟨_, rfl, rfl, _, rfl, iteN (fun z => hz2 (by have := V.int.inj z; omega)) ⟨_, rfl, rfl, _, rfl, iteN (fun z => hz3 (V.int.inj z)) ?_⟩⟩⟩
      refine ⟨_, rfl, _, _, rfl, rfl, _, rfl, ite2 (fun c => ?_) (fun c => ?_)⟩
      · -- maybe, many
        refine ⟨_, rfl, (by show 2 ≤ sizeLine; decide), fun z hz => ?_⟩
        have hzs : z ≠ s := fun e => by
          obtain ⟨ns, x, k, _, e1, _⟩ := st1
          rw [e, e1] at hz
          cases hz
        have sz := same_upd (o := .lst [.str "maybe", .str "many"]) hz
        refine ⟨s, l, z, _, rfl, st1.same sz, hzs, SqL.of upd_same, by simp, by decide, fun x H2 hx bt2 st2 => ?_⟩
        obtain ⟨m, rfl⟩ : ∃ m, x = .str (owd m) := by
          rcases mem_two hx with rfl | rfl
          · exact ⟨false, rfl⟩
          · exact ⟨true, rfl⟩
        refine ⟨_, rfl, _, rfl, _, rfl, _, rfl, _, _, rfl, rfl, s, l, ls, room, deep - 1, none, _, _, rfl, rfl, by omega, st2, hls, hl4, hab, hroom, by omega, by omega, fun v e H3 bt3 st3 rp ok dp lt ct => ⟨(by show 2 ≤ sizeLine; decide), fun t ht => ?_⟩⟩
        have s4 := same_upd (o := .tup [.str (owd m), v]) ht
        refine q _ (.one m e) _ ((((bt1.trans (Same.but sz s)).trans bt2).trans bt3).trans (Same.but s4 s)) (st3.same s4) ?_ (by rw [Ok]; exact ok) (by rw [depth]; omega) (by rw [lets]; exact lt) (by rw [KM.cnt]; have := nodes_pos (deep - 1); omega)
        rw [rep_one]
        exact ⟨t, v, rfl, upd_same, rep_mono (Same.tups s4) e v rp⟩
      · -- join, or
        refine ⟨_, rfl, (by show 2 ≤ sizeLine; decide), fun z hz => ?_⟩
        have hzs : z ≠ s := fun e => by
          obtain ⟨ns, x, k, _, e1, _⟩ := st1
          rw [e, e1] at hz
          cases hz
        have sz := same_upd (o := .lst [.str "join", .str "or"]) hz
        refine ⟨s, l, z, _, rfl, st1.same sz, hzs, SqL.of upd_same, by simp, by decide, fun x H2 hx bt2 st2 => ?_⟩
        obtain ⟨j0, rfl⟩ : ∃ j, x = .str (rwd j) := by
          rcases mem_two hx with rfl | rfl
          · exact ⟨true, rfl⟩
          · exact ⟨false, rfl⟩
        have bt12 : But s H H2 := (bt1.trans (Same.but sz s)).trans bt2
        refine ⟨fun σ H3 => H3 = H2 ∧ ∃ j, o ≠ some j ∧ σ = [some (.ref s), some (wV ls), some (.int room), some (.int deep), some (.str (owW o)), some (.int d), some (.str (rwd j)), none, none, none, none, none], ?_, ?_⟩
        · refine ⟨_, rfl, _, rfl, rfl, _, rfl, ?_⟩
          by_cases hoj : o = some j0
          · subst hoj
            refine iteY rfl ⟨_, rfl, rfl, _, rfl, ?_⟩
            cases j0 with
            | true => exact iteY rfl ⟨rfl, false, by simp, rfl⟩
            | false => exact iteN (by decide +kernel) ⟨rfl, true, by simp, rfl⟩
          · rw [rwd_ne hoj]
            exact iteF ⟨rfl, j0, hoj, rfl⟩
        rintro σ H3 ⟨rfl, j, hoj, rfl⟩
        refine ⟨_, rfl, s, l, 2, rfl, st2, by omega, by omega, fun d2 H3 hd20 hd22 bt3 st3 => ⟨_, _, rfl, rfl, ?_⟩⟩
        refine ⟨_, rfl, Nat.zero_le _, fun pa hpa => ?_⟩
        have spa := same_upd (o := .lst []) hpa
        have hpas : pa ≠ s := fun e => by
          obtain ⟨ns, x, k, _, e1, _⟩ := st3
          rw [e, e1] at hpa
          cases hpa
        refine ⟨_, rfl, 2 + d2, rfl, by omega, by omega, ?_⟩
        have hM : (2 + d2).toNat = 2 ∨ (2 + d2).toNat = 3 := by omega
        refine for_a (wa_range (n := (2 + d2).toNat)) (fun i σ H' => ∃ (lft : Nat) (us : List V) (ps : List Ex) (x10 x11 : Option V), σ = [some (.ref s), some (wV ls), some (.int room), some (.int deep), some (.str (owW o)), some (.int d), some (.str (rwd j)), some (.int (2 + d2)), some (.int lft), some (.ref pa), x10, x11] ∧
          But s H H' ∧ Strm H' s l ∧ H' pa = some (.lst us) ∧ Reps H' ps us ∧ ps.length = i ∧ (∀ x ∈ ps, Ok (some j) x) ∧ depths ps ≤ deep - 1 ∧ (letss ps).length + lft ≤ room ∧ cnts ps ≤ i * nodes (deep - 1)) ?_ (fun _ _ _ _ _ => True.intro) ?_ ?_
        · refine ⟨room, [], [], none, none, rfl, (bt12.trans bt3).trans (Same.but spa s), st3.same spa, upd_same, by rw [Reps], rfl, (fun x hx => nomatch hx), by rw [depths]; exact Nat.zero_le _, by rw [letss]; simp, by rw [cnts]; exact Nat.zero_le _⟩
        · rintro i i' σ H4 ei ⟨lft, us, ps, x10, x11, rfl, bt4, st4, epa, rx, hpl, hok, hdep, hlen, hcnt⟩
          have hi : i < (2 + d2).toNat := by
            have := (List.getElem?_eq_some_iff.mp ei).1
            rwa [List.length_range] at this
          have ei' : i' = i := by
            rw [List.getElem?_range hi] at ei
            exact (Option.some.inj ei).symm
          subst ei'
          refine ⟨fun σ H5 => ∃ shr : Nat, shr ≤ lft ∧ But s H4 H5 ∧ Strm H5 s l ∧ σ = [some (.ref s), some (wV ls), some (.int room), some (.int deep), some (.str (owW o)), some (.int d), some (.str (rwd j)), some (.int (2 + d2)), some (.int lft), some (.ref pa), some (.int i'), some (.int shr)], ?_, ?_⟩
          · refine ⟨_, rfl, _, _, rfl, rfl, _, rfl, rfl, _, rfl, ite2 (fun _ => ?_) (fun _ => ?_)⟩
            · exact ⟨_, rfl, lft, Nat.le_refl _, (fun b o _ e => e), st4, rfl⟩
            · refine ⟨_, rfl, _, rfl, _, _, rfl, rfl, s, l, (lft : Int) + 1, rfl, st4, by omega, by omega, fun d3 H5 h1 h2 bt5 st5 => ⟨d3.toNat, by omega, bt5, st5, ?_⟩⟩
              have : d3 = ((d3.toNat : Nat) : Int) := by omega
              conv => lhs; rw [this]
              rfl
          · rintro σ H5 ⟨shr, hshr, bt5, st5, rfl⟩
            have epa5 := bt5 _ _ hpas epa
            have rx5 := reps_mono (st4.tups bt5) rx
            refine ⟨_, rfl, _, rfl, _, _, rfl, rfl, ?_⟩
            refine ⟨_, rfl, .inl ⟨rfl, _, SqL.of epa5⟩, _, rfl, _, rfl, _, rfl, _, rfl, _, _, rfl, rfl, _, rfl, s, l, ls, shr, deep - 1, some j, _, _, rfl, rfl, by omega, st5, hls, hl4, hab, by omega, by omega, by omega, fun v e H6 bt6 st6 rp ok dp lt ct => ?_⟩
            have epa6 := bt6 _ _ hpas epa5
            have rx6 := reps_mono (st5.tups bt6) rx5
            have hul := reps_len rx
            refine ⟨pa, us, v, rfl, rfl, epa6, Nat.lt_of_le_of_lt (show us.length ≤ 3 by omega) (by decide), ?_⟩
            have tp : Tups H6 (upd H6 pa (.lst (us ++ [v]))) := (But.upd pa H6 _).tups epa6
            refine ⟨lft - shr, us ++ [v], ps ++ [e], some (.int i'), some (.int shr), ?_, ?_, ?_, upd_same, ?_, by rw [List.length_append, hpl]; rfl, ?_, ?_, ?_, ?_⟩
            · have : ((lft : Nat) : Int) - (shr : Nat) = ((lft - shr : Nat) : Int) := by omega
              show [_, _, _, _, _, _, _, _, some (V.int (((lft : Nat) : Int) - (shr : Nat))), _, _, _] = _
              rw [this]
            · have b1 : But s H H6 := (bt4.trans bt5).trans bt6
              intro b o nb eb
              have hb : b ≠ pa := by
                intro z2
                rw [z2] at eb
                have := (bt12.trans bt3) _ _ hpas eb
                rw [hpa] at this
                cases this
              rw [upd_ne hb]
              exact b1 b o nb eb
            · obtain ⟨ns, x, k, ne, e1, e2, h1, h2⟩ := st6
              have hlpa : l ≠ pa := by
                obtain ⟨_, _, _, _, _, e20, _⟩ := st3
                intro z2
                rw [z2, hpa] at e20
                cases e20
              exact ⟨ns, x, k, ne, by rw [upd_ne (Ne.symm hpas)]; exact e1, by rw [upd_ne hlpa]; exact e2, h1, h2⟩
            · obtain ⟨k1, k2⟩ := reps_iff.mp (reps_mono tp rx6)
              refine reps_iff.mpr ⟨by rw [List.length_append, List.length_append, k1]; rfl, fun i p1 u1 e1 e2 => ?_⟩
              by_cases hi2 : i < ps.length
              · rw [List.getElem?_append_left hi2] at e1
                rw [List.getElem?_append_left (by omega)] at e2
                exact k2 i p1 u1 e1 e2
              · have : i = ps.length := by
                  have := (List.getElem?_eq_some_iff.mp e1).1
                  rw [List.length_append] at this
                  have : i < ps.length + 1 := this
                  omega
                subst this
                have e3 : e = p1 := by simpa using e1
                have e4 : v = u1 := by
                  rw [← k1] at e2
                  simpa using e2
                subst e3 e4
                exact rep_mono tp e v rp
            · intro x hx
              rcases List.mem_append.mp hx with hx | hx
              · exact hok x hx
              · have : x = e := by simpa using hx
                rw [this]; exact ok
            · refine depths_lt fun x hx => ?_
              rcases List.mem_append.mp hx with hx | hx
              · exact Nat.le_trans (depths_le hx) hdep
              · have : x = e := by simpa using hx
                rw [this]; exact dp
            · rw [letss_eq, List.map_append, List.flatten_append, ← letss_eq, List.length_append]
              simp
              omega
            · rw [cnts_eq, List.map_append, List.sum_append, ← cnts_eq]
              simp
              rw [Nat.succ_mul]
              omega
        · rintro σ H4 ⟨lft, us, ps, x10, x11, rfl, bt4, st4, epa, rx, hpl, hok, hdep, hlen, hcnt⟩
          rw [List.length_range] at hpl hcnt
          refine ⟨_, rfl, _, rfl, .inl ⟨pa, us, rfl, SqL.of epa, fun t1 ht1 => ⟨(by show 2 ≤ sizeLine; decide), fun t ht => ?_⟩⟩⟩
          have s5 := same_upd (o := .tup us) ht1
          have s6 := same_upd (o := .tup [.str (rwd j), .ref t1]) ht
          have hne : t1 ≠ t := fun z => by rw [z, upd_same] at ht; cases ht
          refine q _ (.row j ps) _ (bt4.trans (Same.but (s5.trans s6) s)) (st4.same (s5.trans s6)) ?_ (by rw [Ok]; exact ⟨hoj, by omega, by omega, oks_iff.mpr hok⟩) (by rw [depth]; omega) (by rw [lets]; omega) ?_
          · rw [rep_row]
            exact ⟨t, t1, us, rfl, upd_same, by rw [upd_ne hne, upd_same], reps_mono (Same.tups (s5.trans s6)) rx⟩
          · rw [KM.cnt]
            have : (2 + d2).toNat * nodes (deep - 1) ≤ 3 * nodes (deep - 1) := Nat.mul_le_mul_right _ (by omega)
            omega
/-! ### _law_expression -/
theorem mem_six {x : V} (h : x ∈ [V.str "ab", .str "ab", .str "abc", .str "cd", .str "dba", .str "abcd"]) : ∃ ls : Wd, x = wV ls ∧ ls ≠ [] ∧ ls.length ≤ 4 ∧ ∀ c ∈ ls, Abc c := by
  have h1 : ("ab" : Str) = T [97, 98] := by decide +kernel
  have h2 : ("abc" : Str) = T [97, 98, 99] := by decide +kernel
  have h3 : ("cd" : Str) = T [99, 100] := by decide +kernel
  have h4 : ("dba" : Str) = T [100, 98, 97] := by decide +kernel
  have h5 : ("abcd" : Str) = T [97, 98, 99, 100] := by decide +kernel
  rw [h1, h2, h3, h4, h5] at h
  simp only [List.mem_cons, List.not_mem_nil, or_false] at h
  rcases h with rfl | rfl | rfl | rfl | rfl | rfl
  · exact ⟨_, rfl, by simp, by decide, fun c hc => by simp at hc; unfold Abc; omega⟩
  · exact ⟨_, rfl, by simp, by decide, fun c hc => by simp at hc; unfold Abc; omega⟩
  · exact ⟨_, rfl, by simp, by decide, fun c hc => by simp at hc; unfold Abc; omega⟩
  · exact ⟨_, rfl, by simp, by decide, fun c hc => by simp at hc; unfold Abc; omega⟩
  · exact ⟨_, rfl, by simp, by decide, fun c hc => by simp at hc; unfold Abc; omega⟩
  · exact ⟨_, rfl, by simp, by decide, fun c hc => by simp at hc; unfold Abc; omega⟩
def spExpr : Sp := fun vs H Q _ => ∃ (s l : Addr), vs = [.ref s, .int 5] ∧ Strm H s l ∧ ∀ v e H', But s H H' → Strm H' s l → Rep H' e v → WF e → Q v H'
theorem ok_l_expression (p : Prog K mg) : FnOk P w K mg base CX0 8 p.d_l_expression.f p.d_l_expression.fd ["_law_stream_here", "_law_most"] spExpr := by
  refine p.d_l_expression.F.ok sc_l_expression (fun vs H Q E h => ?_) (fun cdv A outer s H vs Q E hr h => ?_)
  · obtain ⟨s, l, rfl, _⟩ := h
    rfl
  obtain ⟨s, l, rfl, st, q⟩ := h
  refine ⟨_, pss_cons (ps_set (i := 2) sc_l_expression.nd rfl (.inl rfl) (pe_d _ (ok_l_pick p) (hr.mono (by decide)) rfl (pa_cons (pv 0) (pa_cons (pe_lst (pa_cons pe_str (pa_cons pe_str (pa_cons pe_str (pa_cons pe_str (pa_cons pe_str (pa_cons pe_str pa_nil))))))) pa_nil))))
    (pss_one (ps_ret (pe_d _ (ok_l_grown p 5) hr rfl (pa_cons (pv 0) (pa_cons (pv 2) (pa_cons (pe_op op_add pe_int (pe_d _ (ok_l_next p) (hr.mono (by decide)) rfl (pa_cons (pv 0) (pa_cons (pv 1) pa_nil))))
      (pa_cons (pe_op op_add pe_int (pe_d _ (ok_l_next p) (hr.mono (by decide)) rfl (pa_cons (pv 0) (pa_cons pe_int pa_nil)))) (pa_cons pe_str pa_nil)))))))), ?_⟩
  refine ⟨_, rfl, (by show 6 ≤ sizeLine; decide), fun z hz => ?_⟩
  have hzs : z ≠ s := fun e => by
    obtain ⟨ns, x, k, _, e1, _⟩ := st
    rw [e, e1] at hz
    cases hz
  have sz := same_upd (o := .lst [V.str "ab", .str "ab", .str "abc", .str "cd", .str "dba", .str "abcd"]) hz
  refine ⟨s, l, z, _, rfl, st.same sz, hzs, SqL.of upd_same, by simp, by decide, fun x H2 hx bt2 st2 => ?_⟩
  obtain ⟨ls, rfl, h1, h2, h3⟩ := mem_six hx
  refine ⟨_, rfl, _, rfl, _, rfl, _, rfl, s, l, 5, rfl, st2, by decide, by decide, fun d H3 d0 d5 bt3 st3 => ⟨_, _, rfl, rfl, ?_⟩⟩
  refine ⟨_, rfl, s, l, 4, rfl, st3, by decide, by decide, fun d2 H4 d20 d24 bt4 st4 => ⟨_, _, rfl, rfl, ?_⟩⟩
  refine ⟨s, l, ls, (1 + d).toNat, (1 + d2).toNat, none, _, _, rfl, by omega, by omega, st4, h1, h2, h3, by omega, by omega, by omega, fun v e H5 bt5 st5 rp ok dp lt ct => ?_⟩
  have hn : nodes (1 + d2).toNat ≤ nodes 4 := nodes_mono (by omega)
  have h4 : nodes 4 = 121 := rfl
  exact q v e H5 (((((Same.but sz s).trans bt2).trans bt3).trans bt4).trans bt5) st5 rp ⟨ok, by omega, by omega, by omega⟩
end
end K05

set_option Elab.async false
set_option linter.all false
set_option maxRecDepth 100000
set_option maxHeartbeats 4000000
/-! K05: _law_once, _law_joined, _law_words, _law_all_words. -/
namespace K05
open PySem PySem.Spec PyProof.Rows L2 KM
theorem line_of {n : Nat} (h : n ≤ 1000000) : n < sizeLine := Nat.lt_of_le_of_lt h (by decide)
theorem ck_inj (a b : Nat) (h : wk [a] = wk [b]) : a = b := by
  have := wk_inj _ _ h
  injection this
section
variable {P : Program} {w : World} {K : PySem.W.Frag} {mg : Str → Option Value} {base : Heap}
/-! ### _law_once -/
theorem once_loop {α : Type} [DecidableEq α] {J : It} {as : List α} {enc : α → V} {G : Hp → Prop} {key : α → Key} (wa : WalkA J as enc G) (inj : ∀ a b, key a = key b → a = b) (hk : ∀ a, enc a = kV (key a)) {D : Ends} {H : Hp} {v : Option V} {fd : Addr} (hfd : H fd = none) (hn : as.length ≤ 1000000)
    (hG : ∀ H', Same H H' → G H') (q : ∀ x2 H', Same H H' → H' fd = some (.dK (dk key (addAll [] as))) → D.nx [v, some (.ref fd), x2] H') :
    ∃ W : Nat → Nat → L2.St → Hp → Prop, (∃ m, W 0 m [v, some (.ref fd), none] (upd H fd (.dK []))) ∧ ∀ i m σ H, W i m σ H →
      (J.stop i H ∧ D.nx σ H) ∨ (J.go i H ∧ ∃ N : L2.St → Hp → Prop, (∀ σ' H', N σ' H' → ∃ m', m' < m ∧ W (i + 1) m' σ' H') ∧ ∀ x H', J.yld i H x H' → gName 2 x σ H' fun σ2 H2 => sDPut (tVar 1) (tVar 2) (tC (.bl true)) { D with nx := N, ct := N, bk := D.nx } σ2 H2) := by
  refine for_a wa (fun i σ H' => ∃ x2, σ = [v, some (.ref fd), x2] ∧ Same H H' ∧ H' fd = some (.dK (dk key (addAll [] (as.take i))))) ⟨none, rfl, same_upd hfd, upd_same⟩ (fun i σ H' _ h => hG H' (by obtain ⟨_, _, sm, _⟩ := h; exact sm)) ?_ ?_
  · rintro i a σ H' ea ⟨x2, rfl, sm, eF⟩
    have hlen : (dk key (addAll [] (as.take i))).length < sizeLine := by
      rw [dk_len]
      have := len_addAll (ks := ([] : List α)) (ls := as.take i)
      rw [List.length_take, List.length_nil] at this
      exact line_of (by omega)
    have hp : DPut H' fd (enc a) (.bl true) (upd H' fd (.dK (putK (dk key (addAll [] (as.take i))) (key a) (.bl true)))) := by
      rw [hk a]
      exact DPut.k eF hlen
    refine ⟨_, rfl, _, rfl, fd, _, rfl, hp, some (enc a), rfl, But.same sm (But.upd fd H' _) hfd, ?_⟩
    rw [upd_same, putK_dk inj, ← addAll_snoc, List.take_add_one, ea]; rfl
  · rintro σ H' ⟨x2, rfl, sm, eF⟩
    rw [List.take_length] at eF
    exact q x2 H' sm eF
def spOnceL (K : PySem.W.Frag) : Sp := fun vs H Q _ => ∃ (b : Addr) (ws : List Wd), vs = [.ref b] ∧ SqL K H b (ws.map wV) ∧ ws.length ≤ 1000000 ∧ ∀ r H', Same H H' → H r = none → H' r = some (.lst ((addAll [] ws).map wV)) → Q (.ref r) H'
theorem ok_once_l (p : Prog K mg) : FnOk P w K mg base CX0 1 p.d_l_once.f p.d_l_once.fd ["_law_rows"] (spOnceL K) := by
  refine p.d_l_once.F.ok sc_l_once (fun vs H Q E h => ?_) (fun cdv A outer s H vs Q E hr h => ?_)
  · obtain ⟨b, ws, rfl, _⟩ := h
    rfl
  obtain ⟨b, ws, rfl, hS, hl, q⟩ := h
  refine ⟨_, pss_cons (ps_set (i := 1) sc_l_once.nd rfl (.inl rfl) pe_dnewK) (pss_cons (ps_for PassesOwn.never rfl (pi_list (pv 0)) (pg_name (i := 2) sc_l_once.nd rfl (.inl rfl)) (pss_one (ps_dput (hu_of hr) (pv 1) (pv 2) pe_bl rfl)))
    (pss_one (ps_ret (pe_callTy (call_list_dK rfl) (by rfl) p.z_list boot_list2 (pa_cons (pv 1) pa_nil))))), ?_⟩
  refine fun fd hfd => ⟨_, rfl, b, rfl, ⟨_, (same_upd hfd).seq hS⟩, once_loop (wa_list (enc := wV)) wk_inj (fun _ => rfl) hfd hl (fun H' sm => sm.seq hS) (fun x2 H1 sm eF => ?_)⟩
  refine ⟨_, rfl, fd, _, rfl, eF, fun r hr1 => q r _ (sm.trans (same_upd hr1)) (sm.free hr1) ?_⟩
  rw [upd_same]
  unfold dk
  rw [List.map_map]; rfl
def spOnceS : Sp := fun vs H Q _ => ∃ l : Wd, vs = [wV l] ∧ l.length ≤ 1000 ∧ ∀ r H', Same H H' → H r = none → H' r = some (.lst ((addAll [] l).map sg)) → Q (.ref r) H'
theorem ok_once_s (p : Prog K mg) : FnOk P w K mg base CX0 1 p.d_l_once.f p.d_l_once.fd ["_law_rows"] spOnceS := by
  refine p.d_l_once.F.ok sc_l_once (fun vs H Q E h => ?_) (fun cdv A outer s H vs Q E hr h => ?_)
  · obtain ⟨l, rfl, _⟩ := h
    rfl
  obtain ⟨l, rfl, hl, q⟩ := h
  refine ⟨_, pss_cons (ps_set (i := 1) sc_l_once.nd rfl (.inl rfl) pe_dnewK) (pss_cons (ps_for PassesOwn.never rfl (pi_str (pv 0)) (pg_name (i := 2) sc_l_once.nd rfl (.inl rfl)) (pss_one (ps_dput (hu_of hr) (pv 1) (pv 2) pe_bl rfl)))
    (pss_one (ps_ret (pe_callTy (call_list_dK rfl) (by rfl) p.z_list boot_list2 (pa_cons (pv 1) pa_nil))))), ?_⟩
  refine fun fd hfd => ⟨_, rfl, _, rfl, once_loop (key := fun c => wk [c]) wa_str ck_inj (fun _ => rfl) hfd (by omega) (fun _ _ => True.intro) (fun x2 H1 sm eF => ?_)⟩
  refine ⟨_, rfl, fd, _, rfl, eF, fun r hr1 => q r _ (sm.trans (same_upd hr1)) (sm.free hr1) ?_⟩
  rw [upd_same]
  unfold dk
  rw [List.map_map]; rfl
/-! ### _law_joined -/
theorem dec_le {a b c : Nat} : decide (((a : Int) + (b : Int)) ≤ (c : Int)) = decide (a + b ≤ c) := by
  by_cases h : a + b ≤ c
  · rw [decide_eq_true h, decide_eq_true (by omega)]
  · rw [decide_eq_false h, decide_eq_false (by omega)]
/-- the words of one and another, short enough -/
def cat1 (n : Nat) (vs : List Wd) (u : Wd) : List Wd := (vs.filter fun v => decide (u.length + v.length ≤ n)).map (u ++ ·)
theorem cat1_len {n : Nat} {vs : List Wd} {u : Wd} : (cat1 n vs u).length ≤ vs.length := by
  unfold cat1
  rw [List.length_map]
  exact List.length_filter_le _ _
theorem cats_len {n : Nat} {vs : List Wd} : ∀ us : List Wd, (us.flatMap (cat1 n vs)).length ≤ us.length * vs.length
  | [] => by simp
  | u :: r => by
    rw [List.flatMap_cons, List.length_append, List.length_cons, Nat.succ_mul]
    have h1 := cat1_len (n := n) (vs := vs) (u := u)
    have h2 := cats_len r (n := n) (vs := vs)
    omega
theorem mem_cats {n : Nat} {us vs : List Wd} {x : Wd} : x ∈ us.flatMap (cat1 n vs) ↔ ∃ u ∈ us, ∃ v ∈ vs, x = u ++ v ∧ x.length ≤ n := by
  rw [List.mem_flatMap]
  constructor
  · rintro ⟨u, hu, h⟩
    obtain ⟨v, hv, rfl⟩ := List.mem_map.mp h
    obtain ⟨h1, h2⟩ := List.mem_filter.mp hv
    exact ⟨u, hu, v, h1, rfl, by rw [List.length_append]; exact of_decide_eq_true h2⟩
  · rintro ⟨u, hu, v, hv, rfl, hl⟩
    rw [List.length_append] at hl
    exact ⟨u, hu, List.mem_map.mpr ⟨v, List.mem_filter.mpr ⟨hv, decide_eq_true hl⟩, rfl⟩⟩
def spJoined (K : PySem.W.Frag) : Sp := fun xs H Q _ => ∃ (a b : Addr) (us vs : List Wd) (m : Int) (n : Nat), xs = [.ref a, .ref b, .int m] ∧ m = (n : Int) ∧ SqL K H a (us.map wV) ∧ SqL K H b (vs.map wV) ∧ us.length ≤ 341 ∧ vs.length ≤ 341 ∧ (∀ u ∈ us, u.length ≤ 4) ∧ (∀ v ∈ vs, v.length ≤ 4) ∧
  ∀ r H' (ws : List Wd), Same H H' → H r = none → H' r = some (.lst (ws.map wV)) → ws.Nodup → (∀ x, x ∈ ws ↔ ∃ u ∈ us, ∃ v ∈ vs, x = u ++ v ∧ x.length ≤ n) → Q (.ref r) H'
theorem ok_l_joined (p : Prog K mg) : FnOk P w K mg base CX0 2 p.d_l_joined.f p.d_l_joined.fd ["_law_first", "_law_second", "_law_most"] (spJoined K) := by
  refine p.d_l_joined.F.ok sc_l_joined (fun vs H Q E h => ?_) (fun cdv A outer s H vs Q E hr h => ?_)
  · obtain ⟨a, b, us, vs, m, n, rfl, _⟩ := h
    rfl
  obtain ⟨a, b, us, vs, m, n, rfl, rfl, hA, hB, hu, hv, hu4, hv4, q⟩ := h
  refine ⟨_, pss_cons (ps_set (i := 3) sc_l_joined.nd rfl (.inl rfl) (pe_lst pa_nil)) (pss_cons (ps_for PassesOwn.never rfl (pi_list (pv 0)) (pg_name (i := 4) sc_l_joined.nd rfl (.inr rfl))
      (pss_one (ps_expr (pe_bm PySem.F.plainAttrs_list PySem.F.slot_list_extend PySem.F.type_list_extend mt_extend (pv 3) (pa_cons (pe_lc (own := [("_law_other", 5)]) (g := gName 5) rfl sc_l_joined.nd (pi_list (pv 1))
          (blkOk_by (N := ["_law_first", "_law_second", "_law_most", "_law_found", "_law_one", "_law_other"]) (sc := defScope s_l_joined) (by decide +kernel)) (fun _ _ _ _ _ => pg_name (i := 5) sc_l_joined.nd rfl (Or.inl rfl))
          (fun _ _ _ _ _ => pts_one (pt_cmpR op_le (pe_op op_add (pe_callB call_len_str (by rfl) p.z_len PySem.boot_len (pa_cons (pv 4) pa_nil)) (pe_callB call_len_str (by rfl) p.z_len PySem.boot_len (pa_cons (pv 5) pa_nil))) (pv 2) (nomark _)))
          (fun _ _ _ _ _ => pe_op op_add_str (pv 4) (pv 5))) pa_nil)))))
    (pss_one (ps_ret (pe_d _ (ok_once_l p) hr rfl (pa_cons (pv 3) pa_nil))))), ?_⟩
  refine ⟨Nat.zero_le _, fun fl hfl => ?_⟩
  have s0 := same_upd (o := .lst []) hfl
  refine ⟨_, rfl, a, rfl, ⟨_, s0.seq hA⟩, for_a (wa_list (as := us) (enc := wV)) (fun i σ H' => ∃ x4, σ = [some (.ref a), some (.ref b), some (.int n), some (.ref fl), x4, none] ∧ Same H H' ∧ H' fl = some (.lst (((us.take i).flatMap (cat1 n vs)).map wV))) ⟨none, rfl, s0, upd_same⟩ (fun i σ H' _ h => by obtain ⟨_, _, sm, _⟩ := h; exact sm.seq hA) ?_ ?_⟩
  · rintro i u σ H1 eu ⟨x4, rfl, sm, eF⟩
    have hum : u ∈ us := List.mem_of_getElem? eu
    have hul := hu4 u hum
    have hi : i < us.length := (List.getElem?_eq_some_iff.mp eu).1
    have hB1 := sm.seq hB
    refine ⟨_, rfl, .inl ⟨rfl, _, SqL.of eF⟩, _, rfl, b, rfl, ⟨_, hB1⟩, fun D hD => lc_flt (wa_list (as := vs) (enc := wV)) (fun v => decide (u.length + v.length ≤ n)) (fun v => wV (u ++ v)) hD (lineT (by omega)) (fun H' s' => s'.seq hB1) (fun v H2 Q1 hv1 _ q1 => ?_) (fun v H2 Q1 hv1 _ _ q1 => ?_) (fun H2 s2 eD => ?_)⟩
    · refine ⟨_, rfl, _, rfl, lineT (by rw [T_len]; omega), _, rfl, _, rfl, lineT (by rw [T_len]; have := hv4 v hv1; omega), _, _, rfl, rfl, _, rfl, _, _, rfl, rfl, _, rfl, ?_⟩
      show Q1 (decide ((((T u).length : Nat) : Int) + (((T v).length : Nat) : Int) ≤ (n : Int))) H2
      rw [T_len, T_len, dec_le]
      exact q1 H2 (Same.refl H2)
    · refine ⟨_, rfl, _, rfl, _, _, rfl, rfl, lineT (by rw [T_len, T_len]; have := hv4 v hv1; omega), ?_⟩
      rw [T_app]
      exact q1 H2 (Same.refl H2)
    · have eF2 := s2 _ _ eF
      have hl1 := cats_len (n := n) (vs := vs) (us.take i)
      have hl2 := cat1_len (n := n) (vs := vs) (u := u)
      rw [List.length_take] at hl1
      have hmul : min i us.length * vs.length ≤ 341 * 341 := Nat.mul_le_mul (by omega) hv
      have hne : fl ≠ D := ne_of_none eF hD
      have eD' : H2 D = some (.lst ((cat1 n vs u).map wV)) := by rw [eD]; unfold cat1; rw [List.map_map]; rfl
      refine ⟨fl, D, _, _, rfl, rfl, eF2, eD', ?_, some (wV u), rfl, But.same (sm.trans s2) (But.upd fl H2 _) hfl, ?_⟩
      · rw [List.length_map, List.length_map]
        exact Nat.le_of_lt (line_of (by omega))
      · rw [upd_same, List.take_add_one, eu, List.flatMap_append, List.map_append]
        simp
  · rintro σ H1 ⟨x4, rfl, sm, eF⟩
    rw [List.take_length] at eF
    have hl1 := cats_len (n := n) (vs := vs) us
    have hmul : us.length * vs.length ≤ 341 * 341 := Nat.mul_le_mul hu hv
    refine ⟨_, rfl, fl, _, rfl, SqL.of eF, by omega, fun r H' s' hr1 er => ?_⟩
    refine q r H' _ (sm.trans s') (sm.free hr1) er (nodup_addAll List.nodup_nil) fun x => ?_
    rw [mem_addAll, mem_cats]
    simp
/-! ### _law_words -/
theorem lang_abc {e : Ex} {o : Option Bool} (h : Ok o e) {x : Wd} (hx : Lang e x) : ∀ c ∈ x, Abc c := fun c hc => ok_lets e o h c (lang_lets e x hx c hc)
theorem lj_abc {ps : List Ex} (h : ∀ p ∈ ps, ∃ o, Ok o p) {x : Wd} (hx : LJ ps x) : ∀ c ∈ x, Abc c := fun c hc => by
  have h1 : Lang (.row true ps) x := by rw [Lang]; exact hx
  have h2 := lang_lets _ x h1 c hc
  rw [lets, letss_eq] at h2
  obtain ⟨l, hl, hc2⟩ := List.mem_flatten.mp h2
  obtain ⟨p, hp, rfl⟩ := List.mem_map.mp hl
  obtain ⟨o, ho⟩ := h p hp
  exact ok_lets p o ho c hc2
theorem star_abc {P : Wd → Prop} (h : ∀ x, P x → ∀ c ∈ x, Abc c) {x : Wd} (hx : Star P x) : ∀ c ∈ x, Abc c := by
  induction hx with
  | nil => intro c hc; cases hc
  | @cons u v hu _ ih =>
    intro c hc
    rcases List.mem_append.mp hc with hc | hc
    · exact h u hu c hc
    · exact ih c hc
theorem lists_short {L : Wd → Prop} {n : Nat} {ws : List Wd} (h : Lists L n ws) (hn : n ≤ 4) : ∀ w ∈ ws, w.length ≤ 4 := fun w hw => by
  have := ((h w).mp hw).2
  omega
/-- a row of words of x stands there -/
def RowOf (D : Addr) (H0 : Hp) (nn : Nat) (ps : List Ex) (u y : V) (H : Hp) : Prop := ∀ x ∈ ps, Rep H0 x u → ∃ b ws, y = .ref b ∧ b ≠ D ∧ H b = some (.lst (ws.map wV)) ∧ ws.Nodup ∧ Lists (Lang x) nn ws
theorem rowOf_mono {D : Addr} {H0 : Hp} {nn : Nat} {ps : List Ex} {u y : V} {H H' : Hp} (bt : But D H H') (h : RowOf D H0 nn ps u y H) : RowOf D H0 nn ps u y H' := fun x hx rp => by
  obtain ⟨b, ws, e1, e2, e3, e4⟩ := h x hx rp
  exact ⟨b, ws, e1, e2, bt _ _ e2 e3, e4⟩
def spWords (n : Nat) : Sp := fun vs H Q _ => ∃ (v : V) (e : Ex) (o : Option Bool) (m : Int) (nn : Nat), vs = [v, .int m] ∧ m = (nn : Int) ∧ nn ≤ 4 ∧ Rep H e v ∧ Ok o e ∧ depth e < n ∧
  ∀ r H' (ws : List Wd), Same H H' → H r = none → H' r = some (.lst (ws.map wV)) → ws.Nodup → Lists (Lang e) nn ws → Q (.ref r) H'
theorem once_lists {L : Wd → Prop} {n : Nat} {ws : List Wd} (h : Lists L n ws) : Lists L n (addAll [] ws) := fun x => by rw [mem_addAll, ← h x]; simp
/-- rows of words of ps stand there -/
def RowsOf (H : Hp) (nn : Nat) (ps : List Ex) (ys : List V) : Prop := ys.length = ps.length ∧ ∀ (i : Nat) y, ys[i]? = some y → ∃ x b ws, ps[i]? = some x ∧ y = .ref b ∧ H b = some (.lst (ws.map wV)) ∧ ws.Nodup ∧ Lists (Lang x) nn ws
theorem rowsOf {D : Addr} {H0 H : Hp} {nn : Nat} {ps : List Ex} {us ys : List V} (rx : Reps H0 ps us) (rl : Rl (RowOf D H0 nn ps) us ys H) : RowsOf H nn ps ys := by
  have hl := reps_len rx
  refine ⟨by rw [rl.1, hl], fun i y ey => ?_⟩
  have hi := (List.getElem?_eq_some_iff.mp ey).1
  have eu := List.getElem?_eq_getElem (l := us) (i := i) (by rw [← rl.1]; exact hi)
  obtain ⟨x, ex, rpx⟩ := reps_get rx eu
  obtain ⟨b, ws, e1, _, e2, e3, e4⟩ := rl.2 i _ y eu ey x (List.mem_of_getElem? ex) rpx
  exact ⟨x, b, ws, ex, e1, e2, e3, e4⟩
theorem take_snoc {α : Type} {l : List α} {i : Nat} {a : α} (e : l[i]? = some a) : l.take (i + 1) = l.take i ++ [a] := by rw [List.take_add_one, e]; rfl
theorem lo_lists {ps : List Ex} {nn : Nat} {ws : List Wd} (h : ∀ x, x ∈ ws ↔ ∃ p ∈ ps, Lang p x ∧ x.length ≤ nn) : Lists (Lang (.row false ps)) nn ws := fun x => by
  rw [h, Lang, lo_iff]
  exact ⟨fun ⟨p, a, b, c⟩ => ⟨⟨p, a, b⟩, c⟩, fun ⟨⟨p, a, b⟩, c⟩ => ⟨p, a, b, c⟩⟩
theorem wd_ne5 (m : Bool) : ¬ V.str (owd m) = V.str "or" := by cases m <;> decide +kernel
theorem ok_l_words (p : Prog K mg) : ∀ n, FnOk P w K mg base CX0 (n + 3) p.d_l_words.f p.d_l_words.fd ["_law_expression_here", "_law_most"] (spWords n)
  | 0 => fn_none fun vs H Q E h => by
    obtain ⟨v, e, o, m, nn, _, _, _, _, _, h, _⟩ := h
    exact absurd h (Nat.not_lt_zero _)
  | n + 1 => by
    have G := ok_l_words p n
    refine p.d_l_words.F.ok sc_l_words (fun vs H Q E h => ?_) (fun cdv A outer s H vs Q E hr h => ?_)
    · obtain ⟨v, e, o, m, nn, rfl, _⟩ := h
      rfl
    obtain ⟨v, e, o, m, nn, rfl, rfl, hnn, rp, ok, hd, q⟩ := h
    refine ⟨_, pss_cons (ps_if (pt_val (pe_is p.z_isinstance p.z_str rfl rfl boot_str' (pv 0))) (pss_one (ps_ret (pe_ifExp (pt_cmpR op_le (pe_callB call_len_str (by rfl) p.z_len PySem.boot_len (pa_cons (pv 0) pa_nil)) (pv 1) (nomark _)) (pe_lst (pa_cons (pv 0) pa_nil)) (pe_lst pa_nil)))) pss_nil)
      (pss_cons (ps_setLc (i := 2) (own := [("_law_part", 6)]) (g := gName 6) (tt := tYes) rfl sc_l_words.nd rfl rfl (sw_true rfl rfl rfl (by decide +kernel)) (pi_tup (pe_d _ (ok_l_inside p) (hr.mono (Nat.le_add_left 1 (n + 2))) rfl (pa_cons (pv 0) pa_nil)))
          (blkOk_by (N := ["_law_expression_here", "_law_most", "_law_rows", "_law_found", "_law_row", "_law_turn", "_law_part"]) (sc := defScope s_l_words) (by decide +kernel)) (fun _ _ _ _ _ => pg_name (i := 6) sc_l_words.nd rfl (Or.inl rfl)) (fun _ _ _ _ _ => pts_nil)
          (fun _ _ _ _ _ => pe_d _ G hr rfl (pa_cons (pv 6) (pa_cons (pv 1) pa_nil))))
      (pss_cons (ps_if (pt_cmpR op_eq (pe_ix ix_tup (pv 0) pe_int (fun _ _ => rfl)) pe_str (nomark _))
        (pss_cons (ps_set (i := 3) sc_l_words.nd rfl (.inl rfl) (pe_lst (pa_cons pe_str pa_nil)))
        (pss_cons (ps_for PassesOwn.never rfl (pi_list (pv 2)) (pg_name (i := 4) sc_l_words.nd rfl (.inl rfl))
          (pss_one (ps_set (i := 3) sc_l_words.nd rfl (.inl rfl) (pe_d _ (ok_l_joined p) (hr.mono (Nat.le_add_left 2 (n + 1))) rfl (pa_cons (pv 3) (pa_cons (pv 4) (pa_cons (pv 1) pa_nil)))))))
        (pss_one (ps_ret (pv 3))))) pss_nil)
      (pss_cons (ps_if (pt_cmpR op_eq (pe_ix ix_tup (pv 0) pe_int (fun _ _ => rfl)) pe_str (nomark _))
        (pss_cons (ps_set (i := 3) sc_l_words.nd rfl (.inl rfl) (pe_lst pa_nil))
        (pss_cons (ps_for PassesOwn.never rfl (pi_list (pv 2)) (pg_name (i := 4) sc_l_words.nd rfl (.inl rfl))
          (pss_one (ps_expr (pe_bm PySem.F.plainAttrs_list PySem.F.slot_list_extend PySem.F.type_list_extend mt_extend (pv 3) (pa_cons (pv 4) pa_nil)))))
        (pss_one (ps_ret (pe_d _ (ok_once_l p) (hr.mono (Nat.le_add_left 1 (n + 2))) rfl (pa_cons (pv 3) pa_nil)))))) pss_nil)
      (pss_cons (ps_set (i := 3) sc_l_words.nd rfl (.inl rfl) (pe_d _ (ok_once_l p) (hr.mono (Nat.le_add_left 1 (n + 2))) rfl (pa_cons (pe_op op_cat (pe_lst (pa_cons pe_str pa_nil)) (pe_ix ix_list (pv 2) pe_int (fun _ _ => rfl))) pa_nil)))
      (pss_cons (ps_if (pt_cmpR op_eq (pe_ix ix_tup (pv 0) pe_int (fun _ _ => rfl)) pe_str (nomark _))
        (pss_one (ps_for PassesOwn.never rfl (pi_range1 (by rfl) p.z_range (pa_cons (pv 1) pa_nil)) (pg_name (i := 5) sc_l_words.nd rfl (.inl rfl))
          (pss_one (ps_set (i := 3) sc_l_words.nd rfl (.inl rfl) (pe_d _ (ok_once_l p) (hr.mono (Nat.le_add_left 1 (n + 2))) rfl (pa_cons (pe_op op_cat (pv 3) (pe_d _ (ok_l_joined p) (hr.mono (Nat.le_add_left 2 (n + 1))) rfl (pa_cons (pv 3) (pa_cons (pe_ix ix_list (pv 2) pe_int (fun _ _ => rfl)) (pa_cons (pv 1) pa_nil))))) pa_nil)))))) pss_nil)
      (pss_one (ps_ret (pv 3)))))))), ?_⟩
    by_cases hleaf : ∃ l, e = .leaf l
    · obtain ⟨l, rfl⟩ := hleaf
      rw [rep_leaf] at rp
      subst rp
      have hl : l.length ≤ 1 := by
        rw [Ok] at ok
        rcases ok with rfl | ⟨c, rfl, _⟩
        · exact Nat.zero_le _
        · exact Nat.le_refl _
      refine ⟨_, rfl, is_r (ty_str _) kb_ss ⟨true, rfl, iteT ⟨_, rfl, _, rfl, lineT (by rw [T_len]; omega), _, rfl, _, _, rfl, rfl, _, rfl, ?_⟩⟩⟩
      rw [T_len]
      by_cases hc : l.length ≤ nn
      · refine iteY (by omega) ?_
        refine ⟨_, rfl, (by show 1 ≤ sizeLine; decide), fun t ht => q t _ [l] (same_upd ht) ht upd_same (by simp) fun x => ?_⟩
        rw [Lang]
        constructor
        · intro h
          have : x = l := by simpa using h
          subst this
          exact ⟨rfl, hc⟩
        · rintro ⟨rfl, _⟩; simp
      · refine iteN (by omega) ?_
        refine ⟨Nat.zero_le _, fun t ht => q t _ [] (same_upd ht) ht upd_same List.nodup_nil fun x => ?_⟩
        rw [Lang]
        constructor
        · intro h; cases h
        · rintro ⟨rfl, h⟩; exact absurd h hc
    have hleaf : ∀ l, e ≠ .leaf l := fun l z => hleaf ⟨l, z⟩
    obtain ⟨a, z, u, rfl, e1⟩ := rep_ref rp hleaf
    refine ⟨_, rfl, is_r (ty_tup e1) kb_ts ⟨false, rfl, iteF ?_⟩⟩
    obtain ⟨hp3, hpo⟩ := parts_ok ok
    refine ⟨_, rfl, _, e, rfl, rp, fun b us H1 sm1 e2 rx => ⟨b, rfl, ⟨us, SqT.of e2⟩, fun D hD => ?_⟩⟩
    have hul := reps_len rx
    refine lc_rel (wa_tupV (xs := us)) (RowOf D H1 nn (parts e)) hD (lineT (by omega)) (fun u y Ha Hb _ bt k => rowOf_mono bt k) (fun H' sm => SqT.of (sm _ _ e2)) (fun u H2 Q1 hu sm eD q1 => ?_) (fun HB ys sm eD rl => ?_)
    · obtain ⟨i, ei⟩ := List.getElem?_of_mem hu
      obtain ⟨x, ex, rpx⟩ := reps_get rx ei
      have hm := List.mem_of_getElem? ex
      obtain ⟨ox, okx⟩ := hpo x hm
      have hdx := parts_depth hm
      obtain ⟨ysD, eD⟩ := eD
      refine ⟨_, rfl, _, rfl, u, x, ox, _, nn, rfl, rfl, hnn, rep_mono (Same.tups sm) x u rpx, okx, by omega, fun r H' ws s' hr1 er nd ls => q1 _ H' s' fun x' hx' rp' => ?_⟩
      have hxx := rep_inj rpx rp'
      subst hxx
      exact ⟨r, ws, rfl, (ne_of_none eD hr1).symm, er, nd, ls⟩
    have sB := sm1.trans sm
    obtain ⟨hyl, hrow⟩ := rowsOf rx rl
    have e1B := sB _ _ e1
    have h341 : ∀ {x : Ex} {ws : List Wd}, x ∈ parts e → ws.Nodup → Lists (Lang x) nn ws → ws.length ≤ 341 := fun hx nd ls => by
      obtain ⟨ox, okx⟩ := hpo _ hx
      exact lists_le hnn nd ls fun x hx => lang_abc okx hx
    have abc : ∀ x, Lang e x → ∀ c ∈ x, Abc c := fun x hx => lang_abc ok hx
    clear rl hD sm sm1 e2 rx
    cases e with
    | leaf l => exact absurd rfl (hleaf l)
    | row j ps =>
      obtain ⟨a', b', us', za, eq, _, _⟩ := rep_row.mp rp
      cases za
      rw [e1] at eq
      cases eq
      have hps : parts (.row j ps) = ps := rfl
      rw [hps] at hrow h341 hyl hpo hp3
      refine ⟨_, rfl, a, _, 0, _, rfl, rfl, SqT.of e1B, atI_nat (j := 0) rfl, rfl, _, rfl, ?_⟩
      cases j with
      | true =>
        refine iteY rfl ⟨(by show 1 ≤ sizeLine; decide), fun fl hfl => ?_⟩
        have sl := same_upd (o := .lst [.str ""]) hfl
        refine ⟨_, rfl, D, rfl, ⟨ys, SqL.of (sl _ _ eD)⟩, for_a (wa_listV (xs := ys)) (fun i σ H' => ∃ (x4 : Option V) (c : Addr) (ws : List Wd), σ = [some (.ref a), some (.int nn), some (.ref D), some (.ref c), x4, none, none] ∧ Same HB H' ∧ (H c = none) ∧ H' c = some (.lst (ws.map wV)) ∧ ws.Nodup ∧ Lists (LJ (ps.take i)) nn ws) ?_ ?_ ?_ ?_⟩
        · refine ⟨none, fl, [[]], rfl, sl, sB.free hfl, upd_same, by simp, fun x => ?_⟩
          rw [List.take_zero, LJ]
          constructor
          · intro h
            have : x = [] := by simpa using h
            subst this
            exact ⟨rfl, Nat.zero_le _⟩
          · rintro ⟨rfl, _⟩; simp
        · rintro i σ H' _ ⟨_, _, _, _, s', _⟩
          exact SqL.of (s' _ _ eD)
        · rintro i y σ H2 ey ⟨x4, c, us2, rfl, s2, hc, ec, nd, ls⟩
          obtain ⟨x, b2, vs2, ex, rfl, eb, nd2, ls2⟩ := hrow i y ey
          have hm := List.mem_of_getElem? ex
          have hus : us2.length ≤ 341 := lists_le hnn nd ls fun x hx => lj_abc (fun p hp => hpo p (List.mem_of_mem_take hp)) hx
          refine ⟨_, rfl, _, rfl, _, rfl, c, b2, us2, vs2, _, nn, rfl, rfl, SqL.of ec, SqL.of (s2 _ _ eb), hus, h341 hm nd2 ls2, lists_short ls hnn, lists_short ls2 hnn, fun r H3 ws s3 hr3 er nd3 mem => ?_⟩
          refine ⟨some (.ref b2), r, ws, rfl, s2.trans s3, (sB.trans s2).free hr3, er, nd3, ?_⟩
          rw [take_snoc ex]
          exact lists_cat ls ls2 mem fun x => lj_snoc
        · rintro σ H2 ⟨x4, c, us2, rfl, s2, hc, ec, nd, ls⟩
          rw [List.take_of_length_le (by omega)] at ls
          refine ⟨_, rfl, q c H2 us2 (sB.trans s2) hc ec nd ?_⟩
          have : Lang (.row true ps) = LJ ps := by funext x; rw [Lang]
          rw [this]
          exact ls
      | false =>
        refine iteN wd_ne1 ⟨_, rfl, a, _, 0, _, rfl, rfl, SqT.of e1B, atI_nat (j := 0) rfl, rfl, _, rfl, iteY rfl ⟨Nat.zero_le _, fun fl hfl => ?_⟩⟩
        have sl := same_upd (o := .lst []) hfl
        refine ⟨_, rfl, D, rfl, ⟨ys, SqL.of (sl _ _ eD)⟩, for_a (wa_listV (xs := ys)) (fun i σ H' => ∃ (x4 : Option V) (ws : List Wd), σ = [some (.ref a), some (.int nn), some (.ref D), some (.ref fl), x4, none, none] ∧ Same HB H' ∧ H' fl = some (.lst (ws.map wV)) ∧ ws.length ≤ i * 341 ∧ ∀ x, x ∈ ws ↔ ∃ p ∈ ps.take i, Lang p x ∧ x.length ≤ nn) ?_ ?_ ?_ ?_⟩
        · refine ⟨none, [], rfl, sl, upd_same, Nat.zero_le _, fun x => ?_⟩
          rw [List.take_zero]
          simp
        · rintro i σ H' _ ⟨_, _, _, s', _⟩
          exact SqL.of (s' _ _ eD)
        · rintro i y σ H2 ey ⟨x4, us2, rfl, s2, eF, hlen, mem⟩
          obtain ⟨x, b2, vs2, ex, rfl, eb, nd2, ls2⟩ := hrow i y ey
          have hm := List.mem_of_getElem? ex
          have hi : i < ps.length := (List.getElem?_eq_some_iff.mp ex).1
          have hv := h341 hm nd2 ls2
          refine ⟨_, rfl, .inl ⟨rfl, _, SqL.of eF⟩, _, rfl, fl, b2, _, _, rfl, rfl, eF, s2 _ _ eb, ?_, some (.ref b2), us2 ++ vs2, rfl, But.same s2 (But.upd fl H2 _) hfl, ?_, ?_, fun x' => ?_⟩
          · rw [List.length_map, List.length_map]
            exact Nat.le_of_lt (line_of (by omega))
          · rw [upd_same, List.map_append]
          · rw [List.length_append]; omega
          · rw [List.mem_append, mem x', ls2 x', take_snoc ex]
            constructor
            · rintro (⟨p1, h1, h2⟩ | h)
              · exact ⟨p1, List.mem_append.mpr (.inl h1), h2⟩
              · exact ⟨x, by simp, h⟩
            · rintro ⟨p1, h1, h2⟩
              rcases List.mem_append.mp h1 with h1 | h1
              · exact .inl ⟨p1, h1, h2⟩
              · have : p1 = x := by simpa using h1
                subst this
                exact .inr h2
        · rintro σ H2 ⟨x4, us2, rfl, s2, eF, hlen, mem⟩
          rw [List.take_of_length_le (by omega)] at mem
          refine ⟨_, rfl, fl, us2, rfl, SqL.of eF, by omega, fun r H3 s3 hr3 er => ?_⟩
          exact q r H3 _ ((sB.trans s2).trans s3) ((sB.trans s2).free hr3) er (nodup_addAll List.nodup_nil) (once_lists (lo_lists mem))
    | one m x0 =>
      obtain ⟨a', u', za, eq, _⟩ := rep_one.mp rp
      cases za
      rw [e1] at eq
      cases eq
      rw [Ok] at ok
      have hps : parts (.one m x0) = [x0] := rfl
      rw [hps] at hrow h341 hyl hpo hp3
      have h1 : ys.length = 1 := hyl
      obtain ⟨x, b2, vs2, ex, ey2, eb, nd2, ls2⟩ := hrow 0 _ (List.getElem?_eq_getElem (by omega))
      have hxx : x0 = x := by simpa using ex
      subst hxx
      have ey0 : ys[0]? = some (.ref b2) := by rw [List.getElem?_eq_getElem (by omega), ey2]
      have hv := h341 List.mem_cons_self nd2 ls2
      refine ⟨_, rfl, a, _, 0, _, rfl, rfl, SqT.of e1B, atI_nat (j := 0) rfl, rfl, _, rfl, iteN (wd_ne2 m) ?_⟩
      refine ⟨_, rfl, a, _, 0, _, rfl, rfl, SqT.of e1B, atI_nat (j := 0) rfl, rfl, _, rfl, iteN (wd_ne5 m) ?_⟩
      refine ⟨(by show 1 ≤ sizeLine; decide), fun t ht => ?_⟩
      have st := same_upd (o := .lst [.str ""]) ht
      refine ⟨_, rfl, D, ys, 0, _, rfl, rfl, SqL.of (st _ _ eD), atI_nat (j := 0) ey0, t, b2, [wV []], vs2.map wV, rfl, rfl, upd_same, st _ _ eb, by rw [List.length_map]; exact Nat.le_of_lt (line_of (by show 1 + _ ≤ _; omega)), fun t2 ht2 => ?_⟩
      have st2 := same_upd (o := .lst ([wV []] ++ vs2.map wV)) ht2
      refine ⟨t2, [] :: vs2, rfl, SqL.of upd_same, by rw [List.length_cons]; omega, fun r H3 s3 hr3 er => ?_⟩
      have sA := st.trans (st2.trans s3)
      have hm0 : ∀ x, x ∈ addAll [] ([] :: vs2) ↔ x = [] ∨ x ∈ vs2 := fun x => by rw [mem_addAll]; simp
      have nd0 : (addAll [] ([] :: vs2)).Nodup := nodup_addAll List.nodup_nil
      have e13 := sA _ _ e1B
      refine ⟨_, rfl, a, _, 0, _, rfl, rfl, SqT.of e13, atI_nat (j := 0) rfl, rfl, _, rfl, ?_⟩
      have hrH : H r = none := sB.free (st.free (st2.free hr3))
      cases m with
      | false =>
        refine iteN wd_ne4 ⟨_, rfl, q r H3 _ (sB.trans sA) hrH er nd0 (lists_maybe ls2 hm0)⟩
      | true =>
        refine iteY rfl ⟨_, rfl, (nn : Int), rfl, by omega, by omega, ?_⟩
        have hN : ((nn : Int)).toNat = nn := Int.toNat_natCast nn
        refine for_a (wa_range (n := ((nn : Int)).toNat)) (fun i σ H' => ∃ (x5 : Option V) (c : Addr) (ws : List Wd), σ = [some (.ref a), some (.int nn), some (.ref D), some (.ref c), none, x5, none] ∧ Same HB H' ∧ H c = none ∧ H' c = some (.lst (ws.map wV)) ∧ ws.Nodup ∧ Lists (StarN (Lang x0) (i + 1)) nn ws) ?_ (fun _ _ _ _ _ => True.intro) ?_ ?_
        · exact ⟨none, r, _, rfl, sA, hrH, er, nd0, lists_star0 ls2 hm0⟩
        · rintro i i' σ H4 ei ⟨x5, c, us2, rfl, s4, hc, ec, nd, ls⟩
          have hab : ∀ {k : Nat} {x : Wd}, StarN (Lang x0) k x → ∀ c ∈ x, Abc c := fun h => star_abc (fun x hx => lang_abc ok hx) (starN_star h)
          have hus : us2.length ≤ 341 := lists_le hnn nd ls fun x hx => hab hx
          refine ⟨_, rfl, _, rfl, _, rfl, D, ys, 0, _, rfl, rfl, SqL.of (s4 _ _ eD), atI_nat (j := 0) ey0, _, rfl, c, b2, us2, vs2, _, nn, rfl, rfl, SqL.of ec, SqL.of (s4 _ _ eb), hus, hv, lists_short ls hnn, lists_short ls2 hnn, fun r5 H5 js s5 hr5 er5 nd5 mem => ?_⟩
          have ecj := s5 _ _ ec
          have hjs : js.length ≤ 341 := words_le hnn nd5 fun w hw => by
            obtain ⟨u, hu, v, hv, rfl, hl⟩ := (mem w).mp hw
            exact ⟨hl, fun c hc => by
              rcases List.mem_append.mp hc with hc | hc
              · exact hab ((ls u).mp hu).1 c hc
              · exact lang_abc ok ((ls2 v).mp hv).1 c hc⟩
          refine ⟨c, r5, _, _, rfl, rfl, ecj, er5, by rw [List.length_map, List.length_map]; exact Nat.le_of_lt (line_of (by omega)), fun t6 ht6 => ?_⟩
          have s6 := same_upd (o := .lst (us2.map wV ++ js.map wV)) ht6
          refine ⟨t6, us2 ++ js, rfl, SqL.of (by rw [upd_same, List.map_append]), by rw [List.length_append]; omega, fun r7 H7 s7 hr7 er7 => ?_⟩
          have s47 := s4.trans (s5.trans (s6.trans s7))
          refine ⟨_, r7, _, rfl, s47, sB.free (s4.free (s5.free (s6.free hr7))), er7, nodup_addAll List.nodup_nil, ?_⟩
          exact lists_starS ls ls2 mem fun x => by rw [mem_addAll]; simp
        · rintro σ H4 ⟨x5, c, us2, rfl, s4, hc, ec, nd, ls⟩
          rw [List.length_range, hN] at ls
          exact ⟨_, rfl, q c H4 us2 (sB.trans s4) hc ec nd (lists_many ls)⟩
end
end K05

set_option Elab.async false
set_option linter.all false
set_option maxRecDepth 100000
set_option maxHeartbeats 4000000
/-! K05: _law_all_words. -/
namespace K05
open PySem PySem.Spec PyProof.Rows L2 KM
theorem pow_le {i k : Nat} (h : i ≤ 4) (hk : k ≤ 4) : k ^ i ≤ 256 :=
  Nat.le_trans (Nat.pow_le_pow_left hk i) (Nat.le_trans (Nat.pow_le_pow_right (by omega) h) (by decide))
/-- one letter more -/
def ext1 (ls w : Wd) : List Wd := ls.map fun c => w ++ [c]
theorem ext_len (ls : Wd) : ∀ ws : List Wd, (ws.flatMap (ext1 ls)).length = ws.length * ls.length
  | [] => by simp
  | a :: r => by rw [List.flatMap_cons, List.length_append, ext_len ls r, ext1, List.length_map, List.length_cons, Nat.succ_mul]; omega
theorem mem_ext {ls x : Wd} {ws : List Wd} : x ∈ ws.flatMap (ext1 ls) ↔ ∃ w ∈ ws, ∃ c ∈ ls, x = w ++ [c] := by
  rw [List.mem_flatMap]
  constructor
  · rintro ⟨w, hw, h⟩
    obtain ⟨c, hc, rfl⟩ := List.mem_map.mp h
    exact ⟨w, hw, c, hc, rfl⟩
  · rintro ⟨w, hw, c, hc, rfl⟩
    exact ⟨w, hw, List.mem_map.mpr ⟨c, hc, rfl⟩⟩
section
variable {P : Program} {w : World} {K : PySem.W.Frag} {mg : Str → Option Value} {base : Heap}
def spAll : Sp := fun vs H Q _ => ∃ (ls : Wd) (m : Int) (nn : Nat), vs = [wV ls, .int m] ∧ m = (nn : Int) ∧ nn ≤ 4 ∧ ls.length ≤ 4 ∧ (∀ c ∈ ls, Abc c) ∧
  ∀ r H' (ws : List Wd), Same H H' → H r = none → H' r = some (.lst (ws.map wV)) → (∀ w ∈ ws, w.length ≤ nn ∧ ∀ c ∈ w, Abc c) → ws.length ≤ 2000 → Q (.ref r) H'
theorem ok_l_all_words (p : Prog K mg) : FnOk P w K mg base CX0 1 p.d_l_all_words.f p.d_l_all_words.fd ["_law_letters_here", "_law_most"] spAll := by
  refine p.d_l_all_words.F.ok sc_l_all_words (fun vs H Q E h => ?_) (fun cdv A outer s H vs Q E hr h => ?_)
  · obtain ⟨ls, m, nn, rfl, _⟩ := h
    rfl
  obtain ⟨ls, m, nn, rfl, rfl, hnn, hls, habc, q⟩ := h
  refine ⟨_, pss_cons (ps_set (i := 2) sc_l_all_words.nd rfl (.inl rfl) (pe_lst (pa_cons pe_str pa_nil)))
    (pss_cons (ps_set (i := 3) sc_l_all_words.nd rfl (.inl rfl) (pe_lst (pa_cons pe_str pa_nil)))
    (pss_cons (ps_for PassesOwn.never rfl (pi_range1 (by rfl) p.z_range (pa_cons (pv 1) pa_nil)) (pg_name (i := 4) sc_l_all_words.nd rfl (.inl rfl))
      (pss_cons (ps_set (i := 5) sc_l_all_words.nd rfl (.inl rfl) (pe_lst pa_nil))
      (pss_cons (ps_for PassesOwn.never rfl (pi_list (pv 3)) (pg_name (i := 6) sc_l_all_words.nd rfl (.inr rfl))
        (pss_one (ps_expr (pe_bm PySem.F.plainAttrs_list PySem.F.slot_list_extend PySem.F.type_list_extend mt_extend (pv 5) (pa_cons (pe_lc (own := [("_law_letter", 7)]) (g := gName 7) (tt := tYes) rfl sc_l_all_words.nd (pi_str (pv 0))
          (blkOk_by (N := ["_law_letters_here", "_law_most", "_law_found", "_law_layer", "_law_turn", "_law_longer", "_law_word", "_law_letter"]) (sc := defScope s_l_all_words) (by decide +kernel)) (fun _ _ _ _ _ => pg_name (i := 7) sc_l_all_words.nd rfl (Or.inl rfl)) (fun _ _ _ _ _ => pts_nil)
          (fun _ _ _ _ _ => pe_op op_add_str (pv 6) (pv 7))) pa_nil)))))
      (pss_cons (ps_expr (pe_bm PySem.F.plainAttrs_list PySem.F.slot_list_extend PySem.F.type_list_extend mt_extend (pv 2) (pa_cons (pv 5) pa_nil)))
      (pss_one (ps_set (i := 3) sc_l_all_words.nd rfl (.inl rfl) (pv 5)))))))
    (pss_one (ps_ret (pv 2))))), ?_⟩
  refine ⟨(by show 1 ≤ sizeLine; decide), fun fl hfl => ⟨(by show 1 ≤ sizeLine; decide), fun la hla => ?_⟩⟩
  have sf := same_upd (o := .lst [.str ""]) hfl
  have sl := same_upd (o := .lst [.str ""]) hla
  have hN : ((nn : Int)).toNat = nn := Int.toNat_natCast nn
  refine ⟨_, rfl, (nn : Int), rfl, by omega, by omega, ?_⟩
  refine for_a (wa_range (n := ((nn : Int)).toNat)) (fun i σ H' => ∃ (x4 x5 x6 : Option V) (c : Addr) (ws lay : List Wd), σ = [some (wV ls), some (.int nn), some (.ref fl), some (.ref c), x4, x5, x6, none] ∧ Same H H' ∧ c ≠ fl ∧ H' fl = some (.lst (ws.map wV)) ∧ H' c = some (.lst (lay.map wV)) ∧
    (∀ w ∈ ws, w.length ≤ i ∧ ∀ c ∈ w, Abc c) ∧ (∀ w ∈ lay, w.length ≤ i ∧ ∀ c ∈ w, Abc c) ∧ lay.length = ls.length ^ i ∧ ws.length ≤ 1 + i * 256) ?_ (fun _ _ _ _ _ => True.intro) ?_ ?_
  · have h0 : ∀ w ∈ [([] : Wd)], w.length ≤ 0 ∧ ∀ c ∈ w, Abc c := fun w hw => by
      have : w = [] := by simpa using hw
      subst this
      exact ⟨Nat.le_refl _, fun c hc => nomatch hc⟩
    exact ⟨none, none, none, la, [[]], [[]], rfl, sf.trans sl, (ne_of_none upd_same hla).symm, sl _ _ upd_same, upd_same, h0, h0, rfl, by simp⟩
  · rintro i i' σ H1 ei ⟨x4, x5, x6, c, ws, lay, rfl, sm, hcf, eF, eC, hws, hlay, hll, hwl⟩
    have hi : i < nn := by
      have := (List.getElem?_eq_some_iff.mp ei).1
      rw [List.length_range, hN] at this
      exact this
    have hp : ls.length ^ i ≤ 256 := pow_le (by omega) hls
    have hp2 : ls.length ^ (i + 1) ≤ 256 := pow_le (by omega) hls
    refine ⟨Nat.zero_le _, fun lo hlo => ?_⟩
    have so := same_upd (o := .lst []) hlo
    have hlf : lo ≠ fl := (ne_of_none eF hlo).symm
    refine ⟨_, rfl, c, rfl, ⟨_, SqL.of (so _ _ eC)⟩, for_a (wa_list (as := lay) (enc := wV)) (fun t σ H' => ∃ (x6 : Option V), σ = [some (wV ls), some (.int nn), some (.ref fl), some (.ref c), some (.int (i' : Nat)), some (.ref lo), x6, none] ∧ Same H1 H' ∧ H' lo = some (.lst (((lay.take t).flatMap (ext1 ls)).map wV))) ?_ ?_ ?_ ?_⟩
    · exact ⟨x6, rfl, so, upd_same⟩
    · rintro t σ H' _ ⟨_, _, s', _⟩
      exact SqL.of (s' _ _ eC)
    · rintro t wd σ H2 et ⟨x6, rfl, s2, eL⟩
      have hwm : wd ∈ lay := List.mem_of_getElem? et
      have ht : t < lay.length := (List.getElem?_eq_some_iff.mp et).1
      have hwd := (hlay wd hwm).1
      refine ⟨_, rfl, .inl ⟨rfl, _, SqL.of eL⟩, _, rfl, _, rfl, fun D hD => lc_fn wa_str (fun c => wV (wd ++ [c])) hD (lineT (by omega)) (fun _ _ => True.intro) (fun c H3 Q1 hc s3 q1 => ?_) (fun H3 s3 eD => ?_)⟩
      · refine ⟨_, rfl, _, rfl, _, _, rfl, rfl, lineT (by rw [T_len]; show wd.length + 1 ≤ 1000; omega), ?_⟩
        have e4 : (V.str (T wd ++ T [c])) = wV (wd ++ [c]) := by rw [T_app]
        show Q1 (V.str (T wd ++ T [c])) H3
        rw [e4]
        exact q1 H3 (Same.refl H3)
      · have eL3 := s3 _ _ eL
        have hne : lo ≠ D := ne_of_none eL hD
        have hlen := ext_len ls (lay.take t)
        have hmul : (lay.take t).length * ls.length ≤ 256 * 4 := Nat.mul_le_mul (by rw [List.length_take]; omega) hls
        refine ⟨lo, D, _, (ext1 ls wd).map wV, rfl, rfl, eL3, by rw [eD]; unfold ext1; rw [List.map_map]; rfl, ?_, some (wV wd), rfl, But.same (s2.trans s3) (But.upd lo H3 _) hlo, ?_⟩
        · have h5 : (ext1 ls wd).length = ls.length := List.length_map _
          rw [List.length_map, List.length_map]
          exact Nat.le_of_lt (line_of (by omega))
        · rw [upd_same, take_snoc et, List.flatMap_append, List.map_append]
          simp
    · rintro σ H2 ⟨x6, rfl, s2, eL⟩
      rw [List.take_length] at eL
      have hlen := ext_len ls lay
      have hpow : (lay.flatMap (ext1 ls)).length = ls.length ^ (i + 1) := by rw [hlen, hll, Nat.pow_succ]
      have eF2 := s2 _ _ eF
      refine ⟨_, rfl, .inl ⟨rfl, _, SqL.of eF2⟩, _, rfl, fl, lo, _, _, rfl, rfl, eF2, eL, by rw [List.length_map, List.length_map]; exact Nat.le_of_lt (line_of (by omega)), ?_⟩
      have h6 : ∀ w ∈ lay.flatMap (ext1 ls), w.length ≤ i + 1 ∧ ∀ c ∈ w, Abc c := fun x hx => by
        obtain ⟨u, hu, c, hc, rfl⟩ := mem_ext.mp hx
        obtain ⟨h1, h2⟩ := hlay u hu
        refine ⟨by rw [List.length_append]; show u.length + 1 ≤ _; omega, fun d hd => ?_⟩
        rcases List.mem_append.mp hd with hd | hd
        · exact h2 d hd
        · have : d = c := by simpa using hd
          subst this
          exact habc d hc
      refine ⟨_, rfl, _, _, x6, lo, ws ++ lay.flatMap (ext1 ls), _, rfl, But.same (sm.trans s2) (But.upd fl H2 _) hfl, hlf, by rw [upd_same, List.map_append], by rw [upd_ne hlf]; exact eL, fun x hx => ?_, h6, hpow, by rw [List.length_append]; omega⟩
      rcases List.mem_append.mp hx with hx | hx
      · have := hws x hx
        exact ⟨by omega, this.2⟩
      · exact h6 x hx
  · rintro σ H1 ⟨x4, x5, x6, c, ws, lay, rfl, sm, hcf, eF, eC, hws, hlay, hll, hwl⟩
    rw [List.length_range, hN] at hws hwl
    exact ⟨_, rfl, q fl H1 ws sm hfl eF hws (by omega)⟩
end
end K05

set_option Elab.async false
set_option linter.all false
set_option maxRecDepth 100000
set_option maxHeartbeats 4000000
/-! K05: law. -/
namespace K05
open PySem PySem.Spec PyProof.Rows L2 KM
theorem Strm.upd {H : Hp} {s l b : Addr} {o : HO} (h : Strm H s l) (h1 : b ≠ s) (h2 : b ≠ l) : Strm (upd H b o) s l := by
  obtain ⟨ns, x, k, ne, e1, e2, h3, h4⟩ := h
  exact ⟨ns, x, k, ne, by rw [upd_ne h1.symm]; exact e1, by rw [upd_ne h2.symm]; exact e2, h3, h4⟩
theorem seqIx {d : Int} {n : Nat} (h0 : 0 ≤ d) (h : d < (n : Int)) : seqIndex? d n = some d.toNat := by
  have e : (if d < 0 then d + (n : Int) else d) = d := if_neg (by omega)
  unfold seqIndex?
  dsimp only
  rw [e, decide_eq_true h0, decide_eq_true h]; rfl
theorem abcd_sg : [V.str "a", .str "b", .str "c", .str "d"] = [97, 98, 99, 100].map sg := by decide +kernel
theorem erase_perm : ∀ {l : Wd} {k c : Nat}, l[k]? = some c → (c :: l.eraseIdx k).Perm l
  | [], k, c, h => by simp at h
  | a :: r, 0, c, h => by
    have : a = c := by simpa using h
    subst this
    exact List.Perm.refl _
  | a :: r, k + 1, c, h => by
    have h2 : r[k]? = some c := by simpa using h
    exact (List.Perm.swap a c (r.eraseIdx k)).trans (List.Perm.cons a (erase_perm h2))
theorem erase_map {l : Wd} {k : Nat} : (l.map sg).eraseIdx k = (l.eraseIdx k).map sg := by
  induction l generalizing k with
  | nil => rfl
  | cons a r ih =>
    cases k with
    | zero => rfl
    | succ k => show sg a :: (r.map sg).eraseIdx k = sg a :: (r.eraseIdx k).map sg; rw [ih]
theorem join_sgn (l : Wd) : Txt.join ("" : Str) (l.map fun c => T [c]) = T l := by
  have e : (l.map fun c => T [c]) = (l.map fun c => [c]).map T := by rw [List.map_map]; rfl
  rw [e, join_T, flat_one (fun c => c), List.map_id']
theorem join_sgn_size (l : Wd) (h : l.length ≤ 1000) : ((l.map fun c => T [c]).map (·.length)).sum + (l.map fun c => T [c]).length * ("" : Str).length ≤ 16777216 := by
  have e : (l.map fun c => T [c]) = (l.map fun c => [c]).map T := by rw [List.map_map]; rfl
  rw [e]
  exact join_size _ (by rw [flat_one (fun c => c), List.length_map]; exact h)
/-- what sorted hands back of letters -/
theorem perm_sgn {ms : Wd} {ys : List Str} (h : ys.Perm (ms.map fun c => T [c])) : ∃ ns : Wd, ys = ns.map (fun c => T [c]) ∧ ns.Perm ms := by
  have hm : ∀ y ∈ ys, ∃ c, y = T [c] := fun y hy => by
    obtain ⟨c, _, rfl⟩ := List.mem_map.mp (h.mem_iff.mp hy)
    exact ⟨c, rfl⟩
  refine ⟨ys.map fun y => y.cps.getD 0 0, ?_, ?_⟩
  · rw [List.map_map]
    conv => lhs; rw [← List.map_id ys]
    refine List.map_congr_left fun y hy => ?_
    obtain ⟨c, rfl⟩ := hm y hy
    rfl
  · have h1 := h.map fun y => y.cps.getD 0 0
    rw [List.map_map] at h1
    have e2 : ms.map ((fun y : Str => y.cps.getD 0 0) ∘ fun c => T [c]) = ms := by
      conv => rhs; rw [← List.map_id ms]
      exact List.map_congr_left fun c _ => rfl
    rw [e2] at h1
    exact h1
theorem inV_wd (x : Wd) (ws : List Wd) : inV (wV x) (ws.map wV) = true ↔ x ∈ ws := by
  unfold inV
  rw [List.any_map, List.any_eq_true]
  constructor
  · rintro ⟨k, hk, h⟩
    have h2 : (T k == T x) = true := h
    have h3 : T k = T x := by simpa using h2
    exact (T_inj h3) ▸ hk
  · intro h
    exact ⟨x, h, by show (T x == T x) = true; simp⟩
theorem four_letters {ms : Wd} (h : ms.Nodup) (ha : ∀ c ∈ ms, Abc c) : ms.length ≤ 4 :=
  nodup_sub (m := [97, 98, 99, 100]) h fun c hc => by
    rcases ha c hc with rfl | rfl | rfl | rfl <;> simp
theorem ite_most {c : Bool} {σ : L2.St} {H : Hp} {Q : VK} (k : ∀ nn : Nat, nn ≤ 4 → Q (.int (nn : Int)) H) : if c = true then tC (.int 4) σ H Q else tC (.int 3) σ H Q := by
  cases c
  · exact k 3 (by omega)
  · exact k 4 (by omega)
theorem tyes_go {σ : L2.St} {H : Hp} {A B : Hp → Prop} (h : A H) : tYes σ H (fun b H3 => if b = true then A H3 else B H3) := by
  show if true = true then A H else B H
  rw [if_pos rfl]
  exact h
theorem wf_turn {e : Ex} (h : WF e) : WF (turn e) := ⟨ok_turn e _ h.ok, by rw [depth_turn]; exact h.dp, by rw [lets_turn_len]; exact h.lt, by rw [cnt_turn]; exact h.ct⟩
theorem wf_ren {e : Ex} {os : Wd} (ho : Order os) (h : WF e) : WF (ren (ordF os) e) := ⟨ok_ren ho.to e _ h.ok, by rw [depth_ren]; exact h.dp, by rw [lets_ren, List.length_map]; exact h.lt, by rw [cnt_ren]; exact h.ct⟩
section
variable {X : Cx} {K : PySem.W.Frag}
def rLenK (K : PySem.W.Frag) : List V → Hp → VK → Prop := fun xs H Q => ∃ p ys, xs = [.ref p] ∧ (SqL K H p ys ∨ SqT K H p ys) ∧ Q (.int ys.length) H
theorem call_lenK (h : X.K = K) : CallR X (.builtin "len") (rLenK K) := by
  subst h
  exact call_len_seq
theorem pe_popK {o e : Expr} {to : TE} {t : TA} {apos cpos : Pos} (h : X.K = K) (ho : PE X o to) (ha : PA X [e] t)
    (hbase : attributeBase o "pop" X.env (eval o X.env) = eval o X.env := by rfl)
    (hfew : ((backTo cpos (starEach [e] X.env)).all (fun x => !x.1) && (backToKw cpos (keywordEach [] X.env)).all (fun x => x.1.isSome)
      && decide ([e].length + ([] : List Keyword).length + (if ([] : List Keyword).isEmpty then 0 else 1) < 30)) = true := by rfl)
    (hline : (apos.endLine == cpos.line) = true := by rfl) (hs : starEach [e] X.env = (false, eval e X.env) :: starEach [] X.env := by rfl) (hplain : (backTo cpos (starEach [] X.env)).any (·.1) = false := by rfl) :
    PE X (.Call (.Attribute o "pop" apos) [e] [] cpos) (tBM K "list" rPopAt to t) := by
  subst h
  exact pe_bm PySem.F.plainAttrs_list PySem.F.slot_list_pop PySem.F.type_list_pop mt_popAt ho ha hbase hfew hline hs hplain
end
section
variable {P : Program} {w : World} {K : PySem.W.Frag} {mg : Str → Option Value} {base : Heap}
/-- what law(script) promises -/
def spLaw (K : PySem.W.Frag) : Sp := fun vs H Q _ => ∃ (a : Addr) (ns : List Int), vs = [.ref a] ∧ SqL K H a (ns.map V.int) ∧ ns.length ≤ 63 ∧ ∀ H', Q (.bl true) H'
theorem ok_law (p : Prog K mg) : FnOk P w K mg base CX0 14 p.d_law.f p.d_law.fd ["_law_script"] (spLaw K) := by
  refine p.d_law.F.ok sc_law (fun vs H Q E h => ?_) (fun cdv A outer s H vs Q E hr h => ?_)
  · obtain ⟨a, ns, rfl, _⟩ := h
    rfl
  obtain ⟨a, ns, rfl, hS, hl, q⟩ := h
  refine ⟨_, pss_cons (ps_set (i := 1) sc_law.nd rfl (.inr rfl) (pe_d _ (ok_l_stream p) (hr.mono (by decide)) rfl (pa_cons (pv 0) pa_nil)))
    (pss_cons (ps_set (i := 2) sc_law.nd rfl (.inl rfl) (pe_d _ (ok_l_expression p) (hr.mono (by decide)) rfl (pa_cons (pv 1) (pa_cons pe_int pa_nil))))
    (pss_cons (ps_set (i := 3) sc_law.nd rfl (.inr rfl) (pe_lst (pa_cons pe_str (pa_cons pe_str (pa_cons pe_str (pa_cons pe_str pa_nil))))))
    (pss_cons (ps_set (i := 4) sc_law.nd rfl (.inr rfl) (pe_join pe_str (pe_lc (own := [("_law_k", 11)]) (g := gName 11) (tt := tYes) rfl sc_law.nd (pi_range1 (by rfl) p.z_range (pa_cons pe_int pa_nil))
        (blkOk_by (N := ["_law_script", "_law_stream_here", "_law_expression_here", "_law_left", "_law_order", "_law_due", "_law_letters_here", "_law_most", "_law_words_here", "_law_word", "_law_moved", "_law_k", "_law_letter"]) (sc := defScope s_law) (by decide +kernel)) (fun _ _ _ _ _ => pg_name (i := 11) sc_law.nd rfl (Or.inl rfl)) (fun _ _ _ _ _ => pts_nil)
        (fun _ _ _ _ _ => pe_popK (K := K) (by rfl) (pv 3) (pa_cons (pe_d _ (ok_l_next p) (hr.mono (by decide)) rfl (pa_cons (pv 1) (pa_cons (pe_callB (call_lenK (K := K) (by rfl)) (by rfl) p.z_len PySem.boot_len (pa_cons (pv 3) pa_nil)) pa_nil))) pa_nil)))))
    (pss_cons (ps_set (i := 5) sc_law.nd rfl (.inl rfl) (pe_lst (pa_cons (pe_d _ (ok_l_turned p 6) (hr.mono (by decide)) rfl (pa_cons (pv 2) pa_nil)) (pa_cons (pe_d _ (ok_l_renamed p 6) (hr.mono (by decide)) rfl (pa_cons (pv 2) (pa_cons (pv 4) pa_nil))) pa_nil))))
    (pss_cons (ps_if (pt_not (pt_val (pe_d _ (ok_l_equal p 12) hr rfl (pa_cons (pe_lst (pa_cons (pe_d _ (ok_turned p) (hr.mono (by decide)) rfl (pa_cons (pv 2) pa_nil)) (pa_cons (pe_d _ (ok_renamed p) (hr.mono (by decide)) rfl (pa_cons (pv 2) (pa_cons (pv 4) pa_nil)))
        (pa_cons (pe_d _ (ok_turned p) (hr.mono (by decide)) rfl (pa_cons (pe_d _ (ok_turned p) (hr.mono (by decide)) rfl (pa_cons (pv 2) pa_nil)) pa_nil)) pa_nil)))) (pa_cons (pe_op op_cat (pv 5) (pe_lst (pa_cons (pv 2) pa_nil))) pa_nil))))) (pss_one (ps_ret pe_bl)) pss_nil)
    (pss_cons (ps_set (i := 6) sc_law.nd rfl (.inl rfl) (pe_join pe_str (pe_callB cr_sortedS (by rfl) p.z_sorted (by decide +kernel) (pa_cons (pe_d _ (ok_once_s p) (hr.mono (by decide)) rfl (pa_cons (pe_op op_add_str (pe_d _ (ok_l_letters p 6) (hr.mono (by decide)) rfl (pa_cons (pv 2) pa_nil)) pe_str) pa_nil)) pa_nil))))
    (pss_cons (ps_set (i := 7) sc_law.nd rfl (.inl rfl) (pe_ifExp (pt_cmpR op_eq (pe_callB call_len_str (by rfl) p.z_len PySem.boot_len (pa_cons (pv 6) pa_nil)) pe_int (nomark _)) pe_int pe_int))
    (pss_cons (ps_set (i := 8) sc_law.nd rfl (.inl rfl) (pe_d _ (ok_l_words p 6) (hr.mono (by decide)) rfl (pa_cons (pv 2) (pa_cons (pv 7) pa_nil))))
    (pss_cons (ps_for PassesOwn.never rfl (pi_list (pe_d _ (ok_l_all_words p) (hr.mono (by decide)) rfl (pa_cons (pv 6) (pa_cons (pv 7) pa_nil)))) (pg_name (i := 9) sc_law.nd rfl (.inl rfl))
      (pss_cons (ps_set (i := 10) sc_law.nd rfl (.inl rfl) (pe_join pe_str (pe_lc (own := [("_law_letter", 12)]) (g := gName 12) (tt := tYes) rfl sc_law.nd (pi_str (pv 9))
          (blkOk_by (N := ["_law_script", "_law_stream_here", "_law_expression_here", "_law_left", "_law_order", "_law_due", "_law_letters_here", "_law_most", "_law_words_here", "_law_word", "_law_moved", "_law_k", "_law_letter"]) (sc := defScope s_law) (by decide +kernel)) (fun _ _ _ _ _ => pg_name (i := 12) sc_law.nd rfl (Or.inl rfl)) (fun _ _ _ _ _ => pts_nil)
          (fun _ _ _ _ _ => pe_ix ix_str (pv 4) (pe_m1 F.slot_str_index F.type_str_index mt_sindex pe_str (pv 12)) (fun _ _ => rfl)))))
      (pss_one (ps_if (pt_not (pt_val (pe_d _ (ok_l_equal p 2) (hr.mono (by decide)) rfl (pa_cons (pe_lst (pa_cons (pe_d _ (ok_matches p) (hr.mono (by decide)) rfl (pa_cons (pe_ix ix_list (pv 5) pe_int (fun _ _ => rfl)) (pa_cons (pe_revS (pv 9)) pa_nil)))
          (pa_cons (pe_d _ (ok_matches p) (hr.mono (by decide)) rfl (pa_cons (pe_ix ix_list (pv 5) pe_int (fun _ _ => rfl)) (pa_cons (pv 10) pa_nil))) pa_nil)))
          (pa_cons (pe_lst (pa_cons (pe_cmpR op_in_seq (pv 9) (pv 8) (by rfl)) (pa_cons (pe_cmpR op_in_seq (pv 9) (pv 8) (by rfl)) pa_nil))) pa_nil))))) (pss_one (ps_ret pe_bl)) pss_nil))))
    (pss_one (ps_ret pe_bl))))))))))), ?_⟩
  -- the stream and the expression
  refine ⟨_, rfl, a, ns, rfl, hS, hl, fun s l H1 _ _ st1 => ?_⟩
  refine ⟨_, rfl, s, l, rfl, st1, fun v e H2 _ st2 rp2 wf => ?_⟩
  -- the order
  refine ⟨(by show 4 ≤ sizeLine; decide), fun lf hlf => ?_⟩
  have hfs : lf ≠ s := fun z => by
    obtain ⟨_, _, _, _, e1, _⟩ := st2
    rw [z, e1] at hlf; cases hlf
  have hfl : lf ≠ l := fun z => by
    obtain ⟨_, _, _, _, _, e1, _⟩ := st2
    rw [z, e1] at hlf; cases hlf
  refine ⟨⟨_, rfl⟩, 4, rfl, by decide, by decide, fun D hD => ?_⟩
  have hDf : lf ≠ D := ne_of_none upd_same hD
  have st3 : Strm (upd H2 lf (.lst [V.str "a", .str "b", .str "c", .str "d"])) s l := st2.upd hfs hfl
  have hDs : D ≠ s := fun z => by
    obtain ⟨_, _, _, _, e1, _⟩ := st3
    rw [z, e1] at hD; cases hD
  have hDl : D ≠ l := fun z => by
    obtain ⟨_, _, _, _, _, e1, _⟩ := st3
    rw [z, e1] at hD; cases hD
  refine lc_range (n := (4 : Int).toNat) (fun i H => ∃ lft os : Wd, H lf = some (.lst (lft.map sg)) ∧ H D = some (.lst (os.map sg)) ∧ os.length = i ∧ (os ++ lft).Perm [97, 98, 99, 100] ∧ Strm H s l ∧ Rep H e v) ?_ ?_ ?_
  · refine ⟨[97, 98, 99, 100], [], ?_, upd_same, rfl, List.Perm.refl _, st3.upd hDs hDl, ?_⟩
    · rw [upd_ne hDf, upd_same, abcd_sg]
    · exact rep_mono (Same.tups ((same_upd hlf).trans (same_upd hD))) e v rp2
  · rintro i H hi ⟨lft, os, eF, eD, hos, pm, st, rp⟩
    have hi4 : i < 4 := hi
    have hlen : lft.length = 4 - i := by
      have := pm.length_eq
      rw [List.length_append] at this
      have h4 : ([97, 98, 99, 100] : Wd).length = 4 := rfl
      omega
    refine ⟨rfl, tyes_go ?_⟩
    refine ⟨_, rfl, .inl ⟨rfl, _, SqL.of eF⟩, _, rfl, _, rfl, lf, _, rfl, .inl (SqL.of eF), s, l, _, rfl, st, by rw [List.length_map]; omega, by rw [List.length_map]; omega, fun d H5 d0 d5 bt5 st5 => ?_⟩
    rw [List.length_map] at d5
    have hk : d.toNat < lft.length := by omega
    have ec := List.getElem?_eq_getElem hk
    have eF5 := bt5 _ _ hfs eF
    have eD5 := bt5 _ _ hDs eD
    refine ⟨lf, lft.map sg, d, d.toNat, sg lft[d.toNat], rfl, rfl, eF5, by omega, by omega, seqIx d0 (by rw [List.length_map]; exact d5), by rw [List.getElem?_map, ec]; rfl, ?_⟩
    refine ⟨os.map sg, by rw [upd_ne hDf.symm]; exact eD5, by rw [List.length_map]; exact Nat.lt_of_le_of_lt (show os.length ≤ 4 by omega) (by decide), lft.eraseIdx d.toNat, os ++ [lft[d.toNat]], ?_, ?_, ?_, ?_, ?_, ?_⟩
    · rw [upd_ne hDf, upd_same, erase_map]
    · rw [upd_same, List.map_append]; rfl
    · rw [List.length_append, hos]; rfl
    · rw [List.append_assoc]
      exact ((erase_perm ec).append_left os).trans pm
    · exact (st5.upd hfs hfl).upd hDs hDl
    · have rp5 := rep_mono (st.tups bt5) e v rp
      have rp6 := rep_mono ((But.upd lf H5 (.lst ((lft.map sg).eraseIdx d.toNat))).tups eF5) e v rp5
      refine rep_mono ((But.upd D _ _).tups (xs := os.map sg) ?_) e v rp6
      rw [upd_ne hDf.symm]; exact eD5
  rintro H3 ⟨lft, os, eF, eD, hos, pm, st, rp⟩
  have hos4 : os.length = 4 := hos
  have hlft : lft = [] := by
    have := pm.length_eq
    rw [List.length_append] at this
    have h4 : ([97, 98, 99, 100] : Wd).length = 4 := rfl
    exact List.length_eq_zero_iff.mp (by omega)
  subst hlft
  rw [List.append_nil] at pm
  have ho : Order os := ⟨pm⟩
  refine ⟨_, D, os.map (fun c => T [c]), rfl, rfl, .inl (SqL.of (by rw [eD, List.map_map]; rfl)), join_sgn_size os (by omega), ?_⟩
  rw [join_sgn]
  have wfT := wf_turn wf
  have wfR := wf_ren ho wf
  -- what is due
  refine ⟨_, rfl, v, e, none, rfl, rp, wf.ok, wf.dp, fun r1 H4 s4 rr1 => ⟨_, rfl, _, rfl, v, e, none, os, rfl, ho, rep_mono (Same.tups s4) e v rp, wf.ok, wf.dp, fun r2 H5 s5 rr2 => ⟨(by show 2 ≤ sizeLine; decide), fun du hdu => ?_⟩⟩⟩
  have s6 := same_upd (o := .lst [r1, r2]) hdu
  have rr1 := rep_mono (Same.tups (s5.trans s6)) _ _ rr1
  have rr2 := rep_mono (Same.tups s6) _ _ rr2
  have rp := rep_mono (Same.tups (s4.trans (s5.trans s6))) e v rp
  have eU : (upd H5 du (.lst [r1, r2])) du = some (.lst [r1, r2]) := upd_same
  generalize upd H5 du (.lst [r1, r2]) = H6 at rr1 rr2 rp eU
  clear s6 s4 s5 hdu
  -- the first question
  refine ⟨_, rfl, v, e, rfl, rp, wf, fun r3 H7 s7 rr3 => ⟨_, rfl, _, rfl, v, e, os, rfl, ho, rep_mono (Same.tups s7) e v rp, wf, fun r4 H8 s8 rr4 => ⟨_, rfl, v, e, rfl, rep_mono (Same.tups (s7.trans s8)) e v rp, wf, fun r5 H9 s9 rr5 => ⟨r5, turn e, rfl, rr5, wfT, fun r6 HA sA rr6 => ⟨(by show 3 ≤ sizeLine; decide), fun dA hdA => ?_⟩⟩⟩⟩⟩
  have sB := same_upd (o := .lst [r3, r4, r6]) hdA
  have s6B := s7.trans (s8.trans (s9.trans (sA.trans sB)))
  refine ⟨_, rfl, _, rfl, (by show 1 ≤ sizeLine; decide), fun t ht => ⟨du, t, _, _, rfl, rfl, same_upd ht _ _ (s6B _ _ eU), upd_same, (by show 3 ≤ sizeLine; decide), fun dc hdc => ?_⟩⟩
  have sC := (same_upd (o := .lst [v]) ht).trans (same_upd (o := .lst ([r1, r2] ++ [v])) hdc)
  refine ⟨_, _, rfl, ?_, fun HD sD => ⟨true, rfl, iteF ?_⟩⟩
  · rw [EqV]
    refine .inr (.inr ⟨dA, dc, [r3, r4, r6], [r1, r2] ++ [v], rfl, rfl, .inr ⟨sC _ _ upd_same, upd_same⟩, rfl, by show 3 ≤ 1000; decide, fun i x y e3 e4 => ?_⟩)
    have h6 := s6B.trans sC
    have hdp := wf.dp
    match i, e3, e4 with
    | 0, e3, e4 =>
      cases e3; cases e4
      exact eqV_rep (turn e) wfT.ok (by rw [depth_turn]; omega) (rep_mono (Same.tups (s8.trans (s9.trans (sA.trans (sB.trans sC))))) _ _ rr3) (rep_mono (Same.tups h6) _ _ rr1)
    | 1, e3, e4 =>
      cases e3; cases e4
      exact eqV_rep (ren (ordF os) e) wfR.ok (by rw [depth_ren]; omega) (rep_mono (Same.tups (s9.trans (sA.trans (sB.trans sC)))) _ _ rr4) (rep_mono (Same.tups h6) _ _ rr2)
    | 2, e3, e4 =>
      cases e3; cases e4
      rw [turn_turn] at rr6
      exact eqV_rep e wf.ok (by omega) (rep_mono (Same.tups (sB.trans sC)) _ _ rr6) (rep_mono (Same.tups h6) _ _ rp)
    | i + 3, e3, e4 => simp at e3
  have s6D := s6B.trans (sC.trans sD)
  have rp := rep_mono (Same.tups s6D) _ _ rp
  have rr1 := rep_mono (Same.tups s6D) _ _ rr1
  have rr2 := rep_mono (Same.tups s6D) _ _ rr2
  have eU := s6D _ _ eU
  clear s6D sD sC s6B sB
  -- the letters
  have hlt := wf.lt
  refine ⟨⟨_, rfl⟩, _, rfl, v, e, none, rfl, rp, wf.ok, Nat.lt_of_lt_of_le wf.dp (by omega), by omega, fun HE sE => ⟨_, _, rfl, rfl, lineT (by rw [T_len]; show _ + 2 ≤ 1000; omega), ?_⟩⟩
  refine ⟨lets e ++ [97, 98], by rw [T_ab, T_app]; rfl, by rw [List.length_append]; show _ + 2 ≤ 1000; omega, fun r7 HF sF _ er7 => ?_⟩
  have hla : ∀ c ∈ addAll [] (lets e ++ [97, 98]), Abc c := fun c hc => by
    rcases mem_addAll.mp hc with hc | hc
    · cases hc
    · rcases List.mem_append.mp hc with hc | hc
      · exact ok_lets e none wf.ok c hc
      · simp at hc
        unfold Abc; omega
  have hln : (addAll [] (lets e ++ [97, 98])).Nodup := nodup_addAll List.nodup_nil
  have hl4 := four_letters hln hla
  refine ⟨r7, (addAll [] (lets e ++ [97, 98])).map (fun c => T [c]), rfl, SqL.of (by rw [er7, List.map_map]; rfl), by rw [List.length_map]; omega, fun zs d8 pm8 _ hd8 => ?_⟩
  obtain ⟨ms, rfl, pmm⟩ := perm_sgn pm8
  have hms : ms.length ≤ 4 := by rw [pmm.length_eq]; exact hl4
  have hma : ∀ c ∈ ms, Abc c := fun c hc => hla c (pmm.mem_iff.mp hc)
  refine ⟨_, d8, ms.map (fun c => T [c]), rfl, rfl, .inl (SqL.of upd_same), join_sgn_size ms (by omega), ?_⟩
  rw [join_sgn]
  have sG := sE.trans (sF.trans (same_upd (o := .lst ((ms.map fun c => T [c]).map V.str)) hd8))
  have rp := rep_mono (Same.tups sG) _ _ rp
  have rr1 := rep_mono (Same.tups sG) _ _ rr1
  have rr2 := rep_mono (Same.tups sG) _ _ rr2
  have eU := sG _ _ eU
  clear sG
  generalize upd HF d8 (.lst ((ms.map fun c => T [c]).map V.str)) = HG at rp rr1 rr2 eU
  -- how long
  refine ⟨_, rfl, _, rfl, lineT (by rw [T_len]; omega), rfl, _, rfl, ite_most fun nn hnn => ?_⟩
  -- the words
  refine ⟨_, rfl, _, rfl, v, e, none, _, nn, rfl, rfl, hnn, rp, wf.ok, wf.dp, fun rW HI ws sI _ erw nd ls => ?_⟩
  refine ⟨_, rfl, _, rfl, ms, _, nn, rfl, rfl, hnn, hms, hma, fun ra HJ aw sJ _ era has hal => ?_⟩
  have sIJ := sI.trans sJ
  have rr1 := rep_mono (Same.tups sIJ) _ _ rr1
  have rr2 := rep_mono (Same.tups sIJ) _ _ rr2
  have eU := sIJ _ _ eU
  have erw := sJ _ _ erw
  refine ⟨ra, rfl, ⟨_, SqL.of era⟩, for_a (wa_list (as := aw) (enc := wV)) (fun i σ H' => ∃ x9 x10 : Option V, σ = [some (.ref a), some (.ref s), some v, some (.ref lf), some (wV os), some (.ref du), some (wV ms), some (.int nn), some (.ref rW), x9, x10, none, none] ∧ Same HJ H') ?_ ?_ ?_ ?_⟩
  · exact ⟨none, none, rfl, Same.refl HJ⟩
  · rintro i σ H' _ ⟨_, _, _, s'⟩
    exact SqL.of (s' _ _ era)
  · rintro i x σ H' ex ⟨x9, x10, rfl, s'⟩
    have hx := List.mem_of_getElem? ex
    obtain ⟨hxl, hxa⟩ := has x hx
    refine ⟨⟨_, rfl⟩, _, rfl, _, rfl, fun D2 hD2 => lc_fn wa_str (fun c => V.str (T [ordF os c])) hD2 (lineT (by omega)) (fun _ _ => True.intro) (fun c H1 Q1 hc sm q1 => ?_) (fun H1 sm eD2 => ?_)⟩
    · exact ⟨_, rfl, ⟨_, rfl⟩, _, rfl, _, _, c - 97, [], rfl, rfl, index_abcd (hxa c hc), _, _, ordF os c, rfl, rfl, lineT (by rw [T_len, ho.len]; decide), ord_at ho (hxa c hc), q1 H1 (Same.refl H1)⟩
    · have e3 : x.map (fun c => T [ordF os c]) = (x.map (ordF os)).map (fun c => T [c]) := by rw [List.map_map]; rfl
      refine ⟨_, D2, (x.map (ordF os)).map (fun c => T [c]), rfl, rfl, .inl (SqL.of (by rw [eD2, ← e3, List.map_map]; rfl)), join_sgn_size _ (by rw [List.length_map]; omega), ?_⟩
      rw [join_sgn]
      have s1 := s'.trans sm
      have hxo : ∀ c ∈ x.map (ordF os), Abc c := fun c hc => by
        obtain ⟨d, hd, rfl⟩ := List.mem_map.mp hc
        exact ho.to d (hxa d hd)
      refine ⟨_, rfl, du, _, 0, _, rfl, rfl, SqL.of (s1 _ _ eU), atI_nat (j := 0) rfl, _, rfl, _, rfl, lineT (by rw [T_len]; omega), r1, turn e, x.reverse, rfl, rep_mono (Same.tups s1) _ _ rr1, wfT, by rw [List.length_reverse]; omega, fun c hc => hxa c (List.mem_reverse.mp hc), fun b1 H2 s2 hb1 => ?_⟩
      have s12 := s1.trans s2
      refine ⟨_, rfl, du, _, 1, _, rfl, rfl, SqL.of (s12 _ _ eU), atI_nat (j := 1) rfl, _, rfl, r2, ren (ordF os) e, x.map (ordF os), rfl, rep_mono (Same.tups s12) _ _ rr2, wfR, by rw [List.length_map]; omega, hxo, fun b2 H3 s3 hb2 => ⟨(by show 2 ≤ sizeLine; decide), fun dA hdA => ?_⟩⟩
      have s13 := s12.trans (s3.trans (same_upd (o := .lst [.bl b1, .bl b2]) hdA))
      have efl : (ws.map wV).all flatV = true := by rw [List.all_map]; exact List.all_eq_true.mpr fun _ _ => rfl
      refine ⟨_, rfl, _, rfl, rW, _, rfl, .inl (SqL.of (s13 _ _ erw)), rfl, efl, _, rfl, _, rfl, rW, _, rfl, .inl (SqL.of (s13 _ _ erw)), rfl, efl, (by show 2 ≤ sizeLine; decide), fun dB hdB => ?_⟩
      have sB := same_upd (o := .lst [.bl (inV (wV x) (ws.map wV)), .bl (inV (wV x) (ws.map wV))]) hdB
      have hin : inV (wV x) (ws.map wV) = true ↔ Lang e x := by
        rw [inV_wd, ls x]
        exact ⟨fun h => h.1, fun h => ⟨h, hxl⟩⟩
      have eb1 : b1 = inV (wV x) (ws.map wV) := Bool.eq_iff_iff.mpr ((hb1.trans (turn_lang wf.ok x)).trans hin.symm)
      have eb2 : b2 = inV (wV x) (ws.map wV) := Bool.eq_iff_iff.mpr ((hb2.trans (ren_lang ho.inj wf.ok hxa)).trans hin.symm)
      refine ⟨_, _, rfl, ?_, fun HK sK => ⟨true, rfl, iteF ⟨_, _, rfl, s13.trans (sB.trans sK)⟩⟩⟩
      rw [EqV]
      refine .inr (.inr ⟨dA, dB, [.bl b1, .bl b2], [.bl (inV (wV x) (ws.map wV)), .bl (inV (wV x) (ws.map wV))], rfl, rfl, .inr ⟨sB _ _ upd_same, upd_same⟩, rfl, by show 2 ≤ 1000; decide, fun i y z e3 e4 => ?_⟩)
      match i, e3, e4 with
      | 0, e3, e4 =>
        cases e3; cases e4
        rw [EqV]; exact .inl ⟨_, by rw [eb1], rfl⟩
      | 1, e3, e4 =>
        cases e3; cases e4
        rw [EqV]; exact .inl ⟨_, by rw [eb2], rfl⟩
      | i + 2, e3, e4 => simp at e3
  · rintro σ H' ⟨x9, x10, rfl, s'⟩
    exact q _
end
end K05

set_option Elab.async false
set_option linter.all false
set_option maxRecDepth 100000
set_option maxHeartbeats 4000000
/-! K05: the end: what the top has written, the law's own head. -/
namespace K05
open PySem PySem.Spec PyProof.Rows L2 KM
theorem all_mk {l : PySem.W.OpenLaw} {w : World} {K : PySem.W.Frag} {h : Heap} {mg : Str → Option Value} {fa : Addr} (X : K.In h) (G : h.Ns mainGlobals mg) (hfa : mg "law" = some (.ref fa))
    {f0 : Addr} {od0 an0 : Option Addr} {sl0 : Array (Option Value)} {oc0 kV0 dc0 pm0 cd0 ct0 : Value}
    (a0 : PySem.W.nsIn K mainGlobals "is_leaf" = some (some (.ref f0))) (l0 : K.lookup f0 = some ⟨oc0, od0, .func (PySem.W.fnOf "is_leaf" "is_leaf" (defArgs s_is_leaf) (defBody s_is_leaf) (defScope s_is_leaf) .none kV0 dc0 pm0 an0 cd0 ct0), sl0⟩) (c0 : PySem.W.codeIn K cd0 "is_leaf" = true) (k0 : PySem.W.keepIn K (.ref f0) = true)
    {f1 : Addr} {od1 an1 : Option Addr} {sl1 : Array (Option Value)} {oc1 kV1 dc1 pm1 cd1 ct1 : Value}
    (a1 : PySem.W.nsIn K mainGlobals "has_form" = some (some (.ref f1))) (l1 : K.lookup f1 = some ⟨oc1, od1, .func (PySem.W.fnOf "has_form" "has_form" (defArgs s_has_form) (defBody s_has_form) (defScope s_has_form) .none kV1 dc1 pm1 an1 cd1 ct1), sl1⟩) (c1 : PySem.W.codeIn K cd1 "has_form" = true) (k1 : PySem.W.keepIn K (.ref f1) = true)
    {f2 : Addr} {od2 an2 : Option Addr} {sl2 : Array (Option Value)} {oc2 kV2 dc2 pm2 cd2 ct2 : Value}
    (a2 : PySem.W.nsIn K mainGlobals "parts_of" = some (some (.ref f2))) (l2 : K.lookup f2 = some ⟨oc2, od2, .func (PySem.W.fnOf "parts_of" "parts_of" (defArgs s_parts_of) (defBody s_parts_of) (defScope s_parts_of) .none kV2 dc2 pm2 an2 cd2 ct2), sl2⟩) (c2 : PySem.W.codeIn K cd2 "parts_of" = true) (k2 : PySem.W.keepIn K (.ref f2) = true)
    {f3 : Addr} {od3 an3 : Option Addr} {sl3 : Array (Option Value)} {oc3 kV3 dc3 pm3 cd3 ct3 : Value}
    (a3 : PySem.W.nsIn K mainGlobals "letters_of" = some (some (.ref f3))) (l3 : K.lookup f3 = some ⟨oc3, od3, .func (PySem.W.fnOf "letters_of" "letters_of" (defArgs s_letters_of) (defBody s_letters_of) (defScope s_letters_of) .none kV3 dc3 pm3 an3 cd3 ct3), sl3⟩) (c3 : PySem.W.codeIn K cd3 "letters_of" = true) (k3 : PySem.W.keepIn K (.ref f3) = true)
    {f4 : Addr} {od4 an4 : Option Addr} {sl4 : Array (Option Value)} {oc4 kV4 dc4 pm4 cd4 ct4 : Value}
    (a4 : PySem.W.nsIn K mainGlobals "count_of" = some (some (.ref f4))) (l4 : K.lookup f4 = some ⟨oc4, od4, .func (PySem.W.fnOf "count_of" "count_of" (defArgs s_count_of) (defBody s_count_of) (defScope s_count_of) .none kV4 dc4 pm4 an4 cd4 ct4), sl4⟩) (c4 : PySem.W.codeIn K cd4 "count_of" = true) (k4 : PySem.W.keepIn K (.ref f4) = true)
    {f5 : Addr} {od5 an5 : Option Addr} {sl5 : Array (Option Value)} {oc5 kV5 dc5 pm5 cd5 ct5 : Value}
    (a5 : PySem.W.nsIn K mainGlobals "is_long" = some (some (.ref f5))) (l5 : K.lookup f5 = some ⟨oc5, od5, .func (PySem.W.fnOf "is_long" "is_long" (defArgs s_is_long) (defBody s_is_long) (defScope s_is_long) .none kV5 dc5 pm5 an5 cd5 ct5), sl5⟩) (c5 : PySem.W.codeIn K cd5 "is_long" = true) (k5 : PySem.W.keepIn K (.ref f5) = true)
    {f6 : Addr} {od6 an6 : Option Addr} {sl6 : Array (Option Value)} {oc6 kV6 dc6 pm6 cd6 ct6 : Value}
    (a6 : PySem.W.nsIn K mainGlobals "is_word" = some (some (.ref f6))) (l6 : K.lookup f6 = some ⟨oc6, od6, .func (PySem.W.fnOf "is_word" "is_word" (defArgs s_is_word) (defBody s_is_word) (defScope s_is_word) .none kV6 dc6 pm6 an6 cd6 ct6), sl6⟩) (c6 : PySem.W.codeIn K cd6 "is_word" = true) (k6 : PySem.W.keepIn K (.ref f6) = true)
    {f7 : Addr} {od7 an7 : Option Addr} {sl7 : Array (Option Value)} {oc7 kV7 dc7 pm7 cd7 ct7 : Value}
    (a7 : PySem.W.nsIn K mainGlobals "check_long" = some (some (.ref f7))) (l7 : K.lookup f7 = some ⟨oc7, od7, .func (PySem.W.fnOf "check_long" "check_long" (defArgs s_check_long) (defBody s_check_long) (defScope s_check_long) .none kV7 dc7 pm7 an7 cd7 ct7), sl7⟩) (c7 : PySem.W.codeIn K cd7 "check_long" = true) (k7 : PySem.W.keepIn K (.ref f7) = true)
    {f8 : Addr} {od8 an8 : Option Addr} {sl8 : Array (Option Value)} {oc8 kV8 dc8 pm8 cd8 ct8 : Value}
    (a8 : PySem.W.nsIn K mainGlobals "check_word" = some (some (.ref f8))) (l8 : K.lookup f8 = some ⟨oc8, od8, .func (PySem.W.fnOf "check_word" "check_word" (defArgs s_check_word) (defBody s_check_word) (defScope s_check_word) .none kV8 dc8 pm8 an8 cd8 ct8), sl8⟩) (c8 : PySem.W.codeIn K cd8 "check_word" = true) (k8 : PySem.W.keepIn K (.ref f8) = true)
    {f9 : Addr} {od9 an9 : Option Addr} {sl9 : Array (Option Value)} {oc9 kV9 dc9 pm9 cd9 ct9 : Value}
    (a9 : PySem.W.nsIn K mainGlobals "ends_in" = some (some (.ref f9))) (l9 : K.lookup f9 = some ⟨oc9, od9, .func (PySem.W.fnOf "ends_in" "ends_in" (defArgs s_ends_in) (defBody s_ends_in) (defScope s_ends_in) .none kV9 dc9 pm9 an9 cd9 ct9), sl9⟩) (c9 : PySem.W.codeIn K cd9 "ends_in" = true) (k9 : PySem.W.keepIn K (.ref f9) = true)
    {f10 : Addr} {od10 an10 : Option Addr} {sl10 : Array (Option Value)} {oc10 kV10 dc10 pm10 cd10 ct10 : Value}
    (a10 : PySem.W.nsIn K mainGlobals "is_matched" = some (some (.ref f10))) (l10 : K.lookup f10 = some ⟨oc10, od10, .func (PySem.W.fnOf "is_matched" "is_matched" (defArgs s_is_matched) (defBody s_is_matched) (defScope s_is_matched) .none kV10 dc10 pm10 an10 cd10 ct10), sl10⟩) (c10 : PySem.W.codeIn K cd10 "is_matched" = true) (k10 : PySem.W.keepIn K (.ref f10) = true)
    {f11 : Addr} {od11 an11 : Option Addr} {sl11 : Array (Option Value)} {oc11 kV11 dc11 pm11 cd11 ct11 : Value}
    (a11 : PySem.W.nsIn K mainGlobals "matches" = some (some (.ref f11))) (l11 : K.lookup f11 = some ⟨oc11, od11, .func (PySem.W.fnOf "matches" "matches" (defArgs s_matches) (defBody s_matches) (defScope s_matches) .none kV11 dc11 pm11 an11 cd11 ct11), sl11⟩) (c11 : PySem.W.codeIn K cd11 "matches" = true) (k11 : PySem.W.keepIn K (.ref f11) = true)
    {f12 : Addr} {od12 an12 : Option Addr} {sl12 : Array (Option Value)} {oc12 kV12 dc12 pm12 cd12 ct12 : Value}
    (a12 : PySem.W.nsIn K mainGlobals "turn" = some (some (.ref f12))) (l12 : K.lookup f12 = some ⟨oc12, od12, .func (PySem.W.fnOf "turn" "turn" (defArgs s_turn) (defBody s_turn) (defScope s_turn) .none kV12 dc12 pm12 an12 cd12 ct12), sl12⟩) (c12 : PySem.W.codeIn K cd12 "turn" = true) (k12 : PySem.W.keepIn K (.ref f12) = true)
    {f13 : Addr} {od13 an13 : Option Addr} {sl13 : Array (Option Value)} {oc13 kV13 dc13 pm13 cd13 ct13 : Value}
    (a13 : PySem.W.nsIn K mainGlobals "turned" = some (some (.ref f13))) (l13 : K.lookup f13 = some ⟨oc13, od13, .func (PySem.W.fnOf "turned" "turned" (defArgs s_turned) (defBody s_turned) (defScope s_turned) .none kV13 dc13 pm13 an13 cd13 ct13), sl13⟩) (c13 : PySem.W.codeIn K cd13 "turned" = true) (k13 : PySem.W.keepIn K (.ref f13) = true)
    {f14 : Addr} {od14 an14 : Option Addr} {sl14 : Array (Option Value)} {oc14 kV14 dc14 pm14 cd14 ct14 : Value}
    (a14 : PySem.W.nsIn K mainGlobals "rename" = some (some (.ref f14))) (l14 : K.lookup f14 = some ⟨oc14, od14, .func (PySem.W.fnOf "rename" "rename" (defArgs s_rename) (defBody s_rename) (defScope s_rename) .none kV14 dc14 pm14 an14 cd14 ct14), sl14⟩) (c14 : PySem.W.codeIn K cd14 "rename" = true) (k14 : PySem.W.keepIn K (.ref f14) = true)
    {f15 : Addr} {od15 an15 : Option Addr} {sl15 : Array (Option Value)} {oc15 kV15 dc15 pm15 cd15 ct15 : Value}
    (a15 : PySem.W.nsIn K mainGlobals "renamed" = some (some (.ref f15))) (l15 : K.lookup f15 = some ⟨oc15, od15, .func (PySem.W.fnOf "renamed" "renamed" (defArgs s_renamed) (defBody s_renamed) (defScope s_renamed) .none kV15 dc15 pm15 an15 cd15 ct15), sl15⟩) (c15 : PySem.W.codeIn K cd15 "renamed" = true) (k15 : PySem.W.keepIn K (.ref f15) = true)
    {f16 : Addr} {od16 an16 : Option Addr} {sl16 : Array (Option Value)} {oc16 kV16 dc16 pm16 cd16 ct16 : Value}
    (a16 : PySem.W.nsIn K mainGlobals "_law_stream" = some (some (.ref f16))) (l16 : K.lookup f16 = some ⟨oc16, od16, .func (PySem.W.fnOf "_law_stream" "_law_stream" (defArgs s_l_stream) (defBody s_l_stream) (defScope s_l_stream) .none kV16 dc16 pm16 an16 cd16 ct16), sl16⟩) (c16 : PySem.W.codeIn K cd16 "_law_stream" = true) (k16 : PySem.W.keepIn K (.ref f16) = true)
    {f17 : Addr} {od17 an17 : Option Addr} {sl17 : Array (Option Value)} {oc17 kV17 dc17 pm17 cd17 ct17 : Value}
    (a17 : PySem.W.nsIn K mainGlobals "_law_next" = some (some (.ref f17))) (l17 : K.lookup f17 = some ⟨oc17, od17, .func (PySem.W.fnOf "_law_next" "_law_next" (defArgs s_l_next) (defBody s_l_next) (defScope s_l_next) .none kV17 dc17 pm17 an17 cd17 ct17), sl17⟩) (c17 : PySem.W.codeIn K cd17 "_law_next" = true) (k17 : PySem.W.keepIn K (.ref f17) = true)
    {f18 : Addr} {od18 an18 : Option Addr} {sl18 : Array (Option Value)} {oc18 kV18 dc18 pm18 cd18 ct18 : Value}
    (a18 : PySem.W.nsIn K mainGlobals "_law_equal" = some (some (.ref f18))) (l18 : K.lookup f18 = some ⟨oc18, od18, .func (PySem.W.fnOf "_law_equal" "_law_equal" (defArgs s_l_equal) (defBody s_l_equal) (defScope s_l_equal) .none kV18 dc18 pm18 an18 cd18 ct18), sl18⟩) (c18 : PySem.W.codeIn K cd18 "_law_equal" = true) (k18 : PySem.W.keepIn K (.ref f18) = true)
    {f19 : Addr} {od19 an19 : Option Addr} {sl19 : Array (Option Value)} {oc19 kV19 dc19 pm19 cd19 ct19 : Value}
    (a19 : PySem.W.nsIn K mainGlobals "_law_pick" = some (some (.ref f19))) (l19 : K.lookup f19 = some ⟨oc19, od19, .func (PySem.W.fnOf "_law_pick" "_law_pick" (defArgs s_l_pick) (defBody s_l_pick) (defScope s_l_pick) .none kV19 dc19 pm19 an19 cd19 ct19), sl19⟩) (c19 : PySem.W.codeIn K cd19 "_law_pick" = true) (k19 : PySem.W.keepIn K (.ref f19) = true)
    {f20 : Addr} {od20 an20 : Option Addr} {sl20 : Array (Option Value)} {oc20 kV20 dc20 pm20 cd20 ct20 : Value}
    (a20 : PySem.W.nsIn K mainGlobals "_law_grown" = some (some (.ref f20))) (l20 : K.lookup f20 = some ⟨oc20, od20, .func (PySem.W.fnOf "_law_grown" "_law_grown" (defArgs s_l_grown) (defBody s_l_grown) (defScope s_l_grown) .none kV20 dc20 pm20 an20 cd20 ct20), sl20⟩) (c20 : PySem.W.codeIn K cd20 "_law_grown" = true) (k20 : PySem.W.keepIn K (.ref f20) = true)
    {f21 : Addr} {od21 an21 : Option Addr} {sl21 : Array (Option Value)} {oc21 kV21 dc21 pm21 cd21 ct21 : Value}
    (a21 : PySem.W.nsIn K mainGlobals "_law_expression" = some (some (.ref f21))) (l21 : K.lookup f21 = some ⟨oc21, od21, .func (PySem.W.fnOf "_law_expression" "_law_expression" (defArgs s_l_expression) (defBody s_l_expression) (defScope s_l_expression) .none kV21 dc21 pm21 an21 cd21 ct21), sl21⟩) (c21 : PySem.W.codeIn K cd21 "_law_expression" = true) (k21 : PySem.W.keepIn K (.ref f21) = true)
    {f22 : Addr} {od22 an22 : Option Addr} {sl22 : Array (Option Value)} {oc22 kV22 dc22 pm22 cd22 ct22 : Value}
    (a22 : PySem.W.nsIn K mainGlobals "_law_inside" = some (some (.ref f22))) (l22 : K.lookup f22 = some ⟨oc22, od22, .func (PySem.W.fnOf "_law_inside" "_law_inside" (defArgs s_l_inside) (defBody s_l_inside) (defScope s_l_inside) .none kV22 dc22 pm22 an22 cd22 ct22), sl22⟩) (c22 : PySem.W.codeIn K cd22 "_law_inside" = true) (k22 : PySem.W.keepIn K (.ref f22) = true)
    {f23 : Addr} {od23 an23 : Option Addr} {sl23 : Array (Option Value)} {oc23 kV23 dc23 pm23 cd23 ct23 : Value}
    (a23 : PySem.W.nsIn K mainGlobals "_law_letters" = some (some (.ref f23))) (l23 : K.lookup f23 = some ⟨oc23, od23, .func (PySem.W.fnOf "_law_letters" "_law_letters" (defArgs s_l_letters) (defBody s_l_letters) (defScope s_l_letters) .none kV23 dc23 pm23 an23 cd23 ct23), sl23⟩) (c23 : PySem.W.codeIn K cd23 "_law_letters" = true) (k23 : PySem.W.keepIn K (.ref f23) = true)
    {f24 : Addr} {od24 an24 : Option Addr} {sl24 : Array (Option Value)} {oc24 kV24 dc24 pm24 cd24 ct24 : Value}
    (a24 : PySem.W.nsIn K mainGlobals "_law_joined" = some (some (.ref f24))) (l24 : K.lookup f24 = some ⟨oc24, od24, .func (PySem.W.fnOf "_law_joined" "_law_joined" (defArgs s_l_joined) (defBody s_l_joined) (defScope s_l_joined) .none kV24 dc24 pm24 an24 cd24 ct24), sl24⟩) (c24 : PySem.W.codeIn K cd24 "_law_joined" = true) (k24 : PySem.W.keepIn K (.ref f24) = true)
    {f25 : Addr} {od25 an25 : Option Addr} {sl25 : Array (Option Value)} {oc25 kV25 dc25 pm25 cd25 ct25 : Value}
    (a25 : PySem.W.nsIn K mainGlobals "_law_once" = some (some (.ref f25))) (l25 : K.lookup f25 = some ⟨oc25, od25, .func (PySem.W.fnOf "_law_once" "_law_once" (defArgs s_l_once) (defBody s_l_once) (defScope s_l_once) .none kV25 dc25 pm25 an25 cd25 ct25), sl25⟩) (c25 : PySem.W.codeIn K cd25 "_law_once" = true) (k25 : PySem.W.keepIn K (.ref f25) = true)
    {f26 : Addr} {od26 an26 : Option Addr} {sl26 : Array (Option Value)} {oc26 kV26 dc26 pm26 cd26 ct26 : Value}
    (a26 : PySem.W.nsIn K mainGlobals "_law_words" = some (some (.ref f26))) (l26 : K.lookup f26 = some ⟨oc26, od26, .func (PySem.W.fnOf "_law_words" "_law_words" (defArgs s_l_words) (defBody s_l_words) (defScope s_l_words) .none kV26 dc26 pm26 an26 cd26 ct26), sl26⟩) (c26 : PySem.W.codeIn K cd26 "_law_words" = true) (k26 : PySem.W.keepIn K (.ref f26) = true)
    {f27 : Addr} {od27 an27 : Option Addr} {sl27 : Array (Option Value)} {oc27 kV27 dc27 pm27 cd27 ct27 : Value}
    (a27 : PySem.W.nsIn K mainGlobals "_law_all_words" = some (some (.ref f27))) (l27 : K.lookup f27 = some ⟨oc27, od27, .func (PySem.W.fnOf "_law_all_words" "_law_all_words" (defArgs s_l_all_words) (defBody s_l_all_words) (defScope s_l_all_words) .none kV27 dc27 pm27 an27 cd27 ct27), sl27⟩) (c27 : PySem.W.codeIn K cd27 "_law_all_words" = true) (k27 : PySem.W.keepIn K (.ref f27) = true)
    {f28 : Addr} {od28 an28 : Option Addr} {sl28 : Array (Option Value)} {oc28 kV28 dc28 pm28 cd28 ct28 : Value}
    (a28 : PySem.W.nsIn K mainGlobals "_law_turned" = some (some (.ref f28))) (l28 : K.lookup f28 = some ⟨oc28, od28, .func (PySem.W.fnOf "_law_turned" "_law_turned" (defArgs s_l_turned) (defBody s_l_turned) (defScope s_l_turned) .none kV28 dc28 pm28 an28 cd28 ct28), sl28⟩) (c28 : PySem.W.codeIn K cd28 "_law_turned" = true) (k28 : PySem.W.keepIn K (.ref f28) = true)
    {f29 : Addr} {od29 an29 : Option Addr} {sl29 : Array (Option Value)} {oc29 kV29 dc29 pm29 cd29 ct29 : Value}
    (a29 : PySem.W.nsIn K mainGlobals "_law_renamed" = some (some (.ref f29))) (l29 : K.lookup f29 = some ⟨oc29, od29, .func (PySem.W.fnOf "_law_renamed" "_law_renamed" (defArgs s_l_renamed) (defBody s_l_renamed) (defScope s_l_renamed) .none kV29 dc29 pm29 an29 cd29 ct29), sl29⟩) (c29 : PySem.W.codeIn K cd29 "_law_renamed" = true) (k29 : PySem.W.keepIn K (.ref f29) = true)
    {f30 : Addr} {od30 an30 : Option Addr} {sl30 : Array (Option Value)} {oc30 kV30 dc30 pm30 cd30 ct30 : Value}
    (a30 : PySem.W.nsIn K mainGlobals "law" = some (some (.ref f30))) (l30 : K.lookup f30 = some ⟨oc30, od30, .func (PySem.W.fnOf "law" "law" (defArgs s_law) (defBody s_law) (defScope s_law) .none kV30 dc30 pm30 an30 cd30 ct30), sl30⟩) (c30 : PySem.W.codeIn K cd30 "law" = true) (k30 : PySem.W.keepIn K (.ref f30) = true)
    (z0 : PySem.W.nsIn K mainGlobals "isinstance" = some none)
    (z1 : PySem.W.nsIn K mainGlobals "str" = some none)
    (z2 : PySem.W.nsIn K mainGlobals "tuple" = some none)
    (z3 : PySem.W.nsIn K mainGlobals "len" = some none)
    (z4 : PySem.W.nsIn K mainGlobals "all" = some none)
    (z5 : PySem.W.nsIn K mainGlobals "sum" = some none)
    (z6 : PySem.W.nsIn K mainGlobals "sorted" = some none)
    (z7 : PySem.W.nsIn K mainGlobals "list" = some none)
    (z8 : PySem.W.nsIn K mainGlobals "abs" = some none)
    (z9 : PySem.W.nsIn K mainGlobals "int" = some none)
    (z10 : PySem.W.nsIn K mainGlobals "bool" = some none)
    (z11 : PySem.W.nsIn K mainGlobals "range" = some none)
    {t0 : Tok} (vc0 : PySem.W.nsIn K mainGlobals "LETTERS" = some (some (.str "abcd" t0)))
    {t1 : Tok} (vc1 : PySem.W.nsIn K mainGlobals "LONGEST_WORD" = some (some (.int 24 t1)))
    {t2 : Tok} (vc2 : PySem.W.nsIn K mainGlobals "MOST_LONG_LETTERS" = some (some (.int 40 t2)))
    {t3 : Tok} (vc3 : PySem.W.nsIn K mainGlobals "DEEPEST_LONG" = some (some (.int 40 t3)))
    {t4 : Tok} (vc4 : PySem.W.nsIn K mainGlobals "MOST_LONG_PARTS" = some (some (.int 200 t4)))
    {aR : Addr} {dR : Option Addr} {tR1 tR2 : Tok} {nR : Nat} {slR : Array (Option Value)} (gR : PySem.W.nsIn K mainGlobals "ROWS" = some (some (.ref aR))) (lR : K.lookup aR = some ⟨.type "tuple", dR, .seq #[.str "join" tR1, .str "or" tR2] nR, slR⟩)
    {aS : Addr} {dS : Option Addr} {tS1 tS2 : Tok} {nS : Nat} {slS : Array (Option Value)} (gS : PySem.W.nsIn K mainGlobals "SINGLES" = some (some (.ref aS))) (lS : K.lookup aS = some ⟨.type "tuple", dS, .seq #[.str "maybe" tS1, .str "many" tS2] nS, slS⟩) :
    ∃ fd : FuncData, (∀ (s : Shared) (v : Value), BindsTo s fd ⟨[v], []⟩ [("_law_script", v)]) ∧ ∀ base : Heap, K.In base → base.Ns mainGlobals mg → FnOk l.prog w K mg base CX0 14 fa fd ["_law_script"] (spLaw K) := by
  have e := hfa.symm.trans (PySem.W.mg_of X G a30)
  cases e
  have F0 := fun_mk (st := s_is_leaf) l0 c0 k0
  have b0 := F0.binds (ps := ["value"]) fun _ _ _ _ _ _ us hl => match us, hl with | [_], _ => rfl
  have F1 := fun_mk (st := s_has_form) l1 c1 k1
  have b1 := F1.binds (ps := ["value", "outer", "deep"]) fun _ _ _ _ _ _ us hl => match us, hl with | [_, _, _], _ => rfl
  have F2 := fun_mk (st := s_parts_of) l2 c2 k2
  have b2 := F2.binds (ps := ["expression"]) fun _ _ _ _ _ _ us hl => match us, hl with | [_], _ => rfl
  have F3 := fun_mk (st := s_letters_of) l3 c3 k3
  have b3 := F3.binds (ps := ["expression"]) fun _ _ _ _ _ _ us hl => match us, hl with | [_], _ => rfl
  have F4 := fun_mk (st := s_count_of) l4 c4 k4
  have b4 := F4.binds (ps := ["expression"]) fun _ _ _ _ _ _ us hl => match us, hl with | [_], _ => rfl
  have F5 := fun_mk (st := s_is_long) l5 c5 k5
  have b5 := F5.binds (ps := ["value"]) fun _ _ _ _ _ _ us hl => match us, hl with | [_], _ => rfl
  have F6 := fun_mk (st := s_is_word) l6 c6 k6
  have b6 := F6.binds (ps := ["value"]) fun _ _ _ _ _ _ us hl => match us, hl with | [_], _ => rfl
  have F7 := fun_mk (st := s_check_long) l7 c7 k7
  have b7 := F7.binds (ps := ["value"]) fun _ _ _ _ _ _ us hl => match us, hl with | [_], _ => rfl
  have F8 := fun_mk (st := s_check_word) l8 c8 k8
  have b8 := F8.binds (ps := ["word"]) fun _ _ _ _ _ _ us hl => match us, hl with | [_], _ => rfl
  have F9 := fun_mk (st := s_ends_in) l9 c9 k9
  have b9 := F9.binds (ps := ["expression", "word", "starts"]) fun _ _ _ _ _ _ us hl => match us, hl with | [_, _, _], _ => rfl
  have F10 := fun_mk (st := s_is_matched) l10 c10 k10
  have b10 := F10.binds (ps := ["expression", "word"]) fun _ _ _ _ _ _ us hl => match us, hl with | [_, _], _ => rfl
  have F11 := fun_mk (st := s_matches) l11 c11 k11
  have b11 := F11.binds (ps := ["expression", "word"]) fun _ _ _ _ _ _ us hl => match us, hl with | [_, _], _ => rfl
  have F12 := fun_mk (st := s_turn) l12 c12 k12
  have b12 := F12.binds (ps := ["expression"]) fun _ _ _ _ _ _ us hl => match us, hl with | [_], _ => rfl
  have F13 := fun_mk (st := s_turned) l13 c13 k13
  have b13 := F13.binds (ps := ["expression"]) fun _ _ _ _ _ _ us hl => match us, hl with | [_], _ => rfl
  have F14 := fun_mk (st := s_rename) l14 c14 k14
  have b14 := F14.binds (ps := ["expression", "order"]) fun _ _ _ _ _ _ us hl => match us, hl with | [_, _], _ => rfl
  have F15 := fun_mk (st := s_renamed) l15 c15 k15
  have b15 := F15.binds (ps := ["expression", "order"]) fun _ _ _ _ _ _ us hl => match us, hl with | [_, _], _ => rfl
  have F16 := fun_mk (st := s_l_stream) l16 c16 k16
  have b16 := F16.binds (ps := ["_law_script"]) fun _ _ _ _ _ _ us hl => match us, hl with | [_], _ => rfl
  have F17 := fun_mk (st := s_l_next) l17 c17 k17
  have b17 := F17.binds (ps := ["_law_stream_here", "_law_many"]) fun _ _ _ _ _ _ us hl => match us, hl with | [_, _], _ => rfl
  have F18 := fun_mk (st := s_l_equal) l18 c18 k18
  have b18 := F18.binds (ps := ["_law_actual", "_law_due"]) fun _ _ _ _ _ _ us hl => match us, hl with | [_, _], _ => rfl
  have F19 := fun_mk (st := s_l_pick) l19 c19 k19
  have b19 := F19.binds (ps := ["_law_stream_here", "_law_rows"]) fun _ _ _ _ _ _ us hl => match us, hl with | [_, _], _ => rfl
  have F20 := fun_mk (st := s_l_grown) l20 c20 k20
  have b20 := F20.binds (ps := ["_law_stream_here", "_law_letters_here", "_law_room", "_law_deep", "_law_outer"]) fun _ _ _ _ _ _ us hl => match us, hl with | [_, _, _, _, _], _ => rfl
  have F21 := fun_mk (st := s_l_expression) l21 c21 k21
  have b21 := F21.binds (ps := ["_law_stream_here", "_law_most"]) fun _ _ _ _ _ _ us hl => match us, hl with | [_, _], _ => rfl
  have F22 := fun_mk (st := s_l_inside) l22 c22 k22
  have b22 := F22.binds (ps := ["_law_expression_here"]) fun _ _ _ _ _ _ us hl => match us, hl with | [_], _ => rfl
  have F23 := fun_mk (st := s_l_letters) l23 c23 k23
  have b23 := F23.binds (ps := ["_law_expression_here"]) fun _ _ _ _ _ _ us hl => match us, hl with | [_], _ => rfl
  have F24 := fun_mk (st := s_l_joined) l24 c24 k24
  have b24 := F24.binds (ps := ["_law_first", "_law_second", "_law_most"]) fun _ _ _ _ _ _ us hl => match us, hl with | [_, _, _], _ => rfl
  have F25 := fun_mk (st := s_l_once) l25 c25 k25
  have b25 := F25.binds (ps := ["_law_rows"]) fun _ _ _ _ _ _ us hl => match us, hl with | [_], _ => rfl
  have F26 := fun_mk (st := s_l_words) l26 c26 k26
  have b26 := F26.binds (ps := ["_law_expression_here", "_law_most"]) fun _ _ _ _ _ _ us hl => match us, hl with | [_, _], _ => rfl
  have F27 := fun_mk (st := s_l_all_words) l27 c27 k27
  have b27 := F27.binds (ps := ["_law_letters_here", "_law_most"]) fun _ _ _ _ _ _ us hl => match us, hl with | [_, _], _ => rfl
  have F28 := fun_mk (st := s_l_turned) l28 c28 k28
  have b28 := F28.binds (ps := ["_law_expression_here"]) fun _ _ _ _ _ _ us hl => match us, hl with | [_], _ => rfl
  have F29 := fun_mk (st := s_l_renamed) l29 c29 k29
  have b29 := F29.binds (ps := ["_law_expression_here", "_law_order"]) fun _ _ _ _ _ _ us hl => match us, hl with | [_, _], _ => rfl
  have F30 := fun_mk (st := s_law) l30 c30 k30
  have b30 := F30.binds (ps := ["_law_script"]) fun _ _ _ _ _ _ us hl => match us, hl with | [_], _ => rfl
  let p : Prog K mg := {
    z_isinstance := PySem.W.mg_none_of X G z0
    z_str := PySem.W.mg_none_of X G z1
    z_tuple := PySem.W.mg_none_of X G z2
    z_len := PySem.W.mg_none_of X G z3
    z_all := PySem.W.mg_none_of X G z4
    z_sum := PySem.W.mg_none_of X G z5
    z_sorted := PySem.W.mg_none_of X G z6
    z_list := PySem.W.mg_none_of X G z7
    z_abs := PySem.W.mg_none_of X G z8
    z_int := PySem.W.mg_none_of X G z9
    z_bool := PySem.W.mg_none_of X G z10
    z_range := PySem.W.mg_none_of X G z11
    c_LETTERS := ⟨_, PySem.W.mg_of X G vc0⟩
    c_LONGEST := ⟨_, PySem.W.mg_of X G vc1⟩
    c_LETTERS_LONG := ⟨_, PySem.W.mg_of X G vc2⟩
    c_DEEPEST := ⟨_, PySem.W.mg_of X G vc3⟩
    c_PARTS := ⟨_, PySem.W.mg_of X G vc4⟩
    c_ROWS := ⟨_, PySem.W.mg_of X G gR, fun H => .inr ⟨_, _, _, lR, rfl, rfl, (by show 2 ≤ sizeLine; decide), .cons ⟨_, rfl⟩ (.cons ⟨_, rfl⟩ .nil)⟩⟩
    c_SINGLES := ⟨_, PySem.W.mg_of X G gS, fun H => .inr ⟨_, _, _, lS, rfl, rfl, (by show 2 ≤ sizeLine; decide), .cons ⟨_, rfl⟩ (.cons ⟨_, rfl⟩ .nil)⟩⟩
    d_is_leaf := ⟨_, _, F0, PySem.W.mg_of X G a0, b0⟩
    d_has_form := ⟨_, _, F1, PySem.W.mg_of X G a1, b1⟩
    d_parts_of := ⟨_, _, F2, PySem.W.mg_of X G a2, b2⟩
    d_letters_of := ⟨_, _, F3, PySem.W.mg_of X G a3, b3⟩
    d_count_of := ⟨_, _, F4, PySem.W.mg_of X G a4, b4⟩
    d_is_long := ⟨_, _, F5, PySem.W.mg_of X G a5, b5⟩
    d_is_word := ⟨_, _, F6, PySem.W.mg_of X G a6, b6⟩
    d_check_long := ⟨_, _, F7, PySem.W.mg_of X G a7, b7⟩
    d_check_word := ⟨_, _, F8, PySem.W.mg_of X G a8, b8⟩
    d_ends_in := ⟨_, _, F9, PySem.W.mg_of X G a9, b9⟩
    d_is_matched := ⟨_, _, F10, PySem.W.mg_of X G a10, b10⟩
    d_matches := ⟨_, _, F11, PySem.W.mg_of X G a11, b11⟩
    d_turn := ⟨_, _, F12, PySem.W.mg_of X G a12, b12⟩
    d_turned := ⟨_, _, F13, PySem.W.mg_of X G a13, b13⟩
    d_rename := ⟨_, _, F14, PySem.W.mg_of X G a14, b14⟩
    d_renamed := ⟨_, _, F15, PySem.W.mg_of X G a15, b15⟩
    d_l_stream := ⟨_, _, F16, PySem.W.mg_of X G a16, b16⟩
    d_l_next := ⟨_, _, F17, PySem.W.mg_of X G a17, b17⟩
    d_l_equal := ⟨_, _, F18, PySem.W.mg_of X G a18, b18⟩
    d_l_pick := ⟨_, _, F19, PySem.W.mg_of X G a19, b19⟩
    d_l_grown := ⟨_, _, F20, PySem.W.mg_of X G a20, b20⟩
    d_l_expression := ⟨_, _, F21, PySem.W.mg_of X G a21, b21⟩
    d_l_inside := ⟨_, _, F22, PySem.W.mg_of X G a22, b22⟩
    d_l_letters := ⟨_, _, F23, PySem.W.mg_of X G a23, b23⟩
    d_l_joined := ⟨_, _, F24, PySem.W.mg_of X G a24, b24⟩
    d_l_once := ⟨_, _, F25, PySem.W.mg_of X G a25, b25⟩
    d_l_words := ⟨_, _, F26, PySem.W.mg_of X G a26, b26⟩
    d_l_all_words := ⟨_, _, F27, PySem.W.mg_of X G a27, b27⟩
    d_l_turned := ⟨_, _, F28, PySem.W.mg_of X G a28, b28⟩
    d_l_renamed := ⟨_, _, F29, PySem.W.mg_of X G a29, b29⟩
    d_law := ⟨_, _, F30, PySem.W.mg_of X G a30, b30⟩
  }
  exact ⟨p.d_law.fd, fun s v => .of_eq rfl, fun base _ _ => ok_law p⟩
end K05

set_option Elab.async false
set_option linter.all false
open PySem PySem.W PyProof.Rows
set_option maxRecDepth 100000 in
set_option maxHeartbeats 0 in
theorem PySem.Challenge.cw_nodoubt_k05_whole_turned_and_renamed_holds : PySem.Challenge.rw_nodoubt_k05_whole_turned_and_renamed.Holds := by
  w_on; o_law; k_head; (case hw => w_witness2)
  k_fill
  refine L2.walk_of (l := PySem.Challenge.rw_nodoubt_k05_whole_turned_and_renamed) (n := 63) (k := 14) (x := "_law_script") (CX := fun _ => L2.CX0) (sp := fun w => K05.spLaw _) rfl (by decide) rfl ⟨rfl, by decide, by decide⟩ (fun w h Y => PySem.W.kIn_of Y) ?F (fun _ _ a ns hl _ hS => ⟨a, ns, rfl, hS, hl, fun _ => rfl⟩) (fun _ _ _ _ _ h => h)
  case F =>
    intro w mg fa h KX G hmg
    refine' K05.all_mk KX G hmg ?a0 ?l0 ?c0 ?k0 ?a1 ?l1 ?c1 ?k1 ?a2 ?l2 ?c2 ?k2 ?a3 ?l3 ?c3 ?k3 ?a4 ?l4 ?c4 ?k4 ?a5 ?l5 ?c5 ?k5 ?a6 ?l6 ?c6 ?k6 ?a7 ?l7 ?c7 ?k7 ?a8 ?l8 ?c8 ?k8 ?a9 ?l9 ?c9 ?k9 ?a10 ?l10 ?c10 ?k10 ?a11 ?l11 ?c11 ?k11 ?a12 ?l12 ?c12 ?k12 ?a13 ?l13 ?c13 ?k13 ?a14 ?l14 ?c14 ?k14 ?a15 ?l15 ?c15 ?k15 ?a16 ?l16 ?c16 ?k16 ?a17 ?l17 ?c17 ?k17 ?a18 ?l18 ?c18 ?k18 ?a19 ?l19 ?c19 ?k19 ?a20 ?l20 ?c20 ?k20 ?a21 ?l21 ?c21 ?k21 ?a22 ?l22 ?c22 ?k22 ?a23 ?l23 ?c23 ?k23 ?a24 ?l24 ?c24 ?k24 ?a25 ?l25 ?c25 ?k25 ?a26 ?l26 ?c26 ?k26 ?a27 ?l27 ?c27 ?k27 ?a28 ?l28 ?c28 ?k28 ?a29 ?l29 ?c29 ?k29 ?a30 ?l30 ?c30 ?k30 ?z0 ?z1 ?z2 ?z3 ?z4 ?z5 ?z6 ?z7 ?z8 ?z9 ?z10 ?z11 ?vc0 ?vc1 ?vc2 ?vc3 ?vc4 ?gR ?lR ?gS ?lS

    (case a0 => k_is)
    (case l0 => k_is)
    (case c0 => k_is)
    (case k0 => k_is)
    (case a1 => k_is)
    (case l1 => k_is)
    (case c1 => k_is)
    (case k1 => k_is)
    (case a2 => k_is)
    (case l2 => k_is)
    (case c2 => k_is)
    (case k2 => k_is)
    (case a3 => k_is)
    (case l3 => k_is)
    (case c3 => k_is)
    (case k3 => k_is)
    (case a4 => k_is)
    (case l4 => k_is)
    (case c4 => k_is)
    (case k4 => k_is)
    (case a5 => k_is)
    (case l5 => k_is)
    (case c5 => k_is)
    (case k5 => k_is)
    (case a6 => k_is)
    (case l6 => k_is)
    (case c6 => k_is)
    (case k6 => k_is)
    (case a7 => k_is)
    (case l7 => k_is)
    (case c7 => k_is)
    (case k7 => k_is)
    (case a8 => k_is)
    (case l8 => k_is)
    (case c8 => k_is)
    (case k8 => k_is)
    (case a9 => k_is)
    (case l9 => k_is)
    (case c9 => k_is)
    (case k9 => k_is)
    (case a10 => k_is)
    (case l10 => k_is)
    (case c10 => k_is)
    (case k10 => k_is)
    (case a11 => k_is)
    (case l11 => k_is)
    (case c11 => k_is)
    (case k11 => k_is)
    (case a12 => k_is)
    (case l12 => k_is)
    (case c12 => k_is)
    (case k12 => k_is)
    (case a13 => k_is)
    (case l13 => k_is)
    (case c13 => k_is)
    (case k13 => k_is)
    (case a14 => k_is)
    (case l14 => k_is)
    (case c14 => k_is)
    (case k14 => k_is)
    (case a15 => k_is)
    (case l15 => k_is)
    (case c15 => k_is)
    (case k15 => k_is)
    (case a16 => k_is)
    (case l16 => k_is)
    (case c16 => k_is)
    (case k16 => k_is)
    (case a17 => k_is)
    (case l17 => k_is)
    (case c17 => k_is)
    (case k17 => k_is)
    (case a18 => k_is)
    (case l18 => k_is)
    (case c18 => k_is)
    (case k18 => k_is)
    (case a19 => k_is)
    (case l19 => k_is)
    (case c19 => k_is)
    (case k19 => k_is)
    (case a20 => k_is)
    (case l20 => k_is)
    (case c20 => k_is)
    (case k20 => k_is)
    (case a21 => k_is)
    (case l21 => k_is)
    (case c21 => k_is)
    (case k21 => k_is)
    (case a22 => k_is)
    (case l22 => k_is)
    (case c22 => k_is)
    (case k22 => k_is)
    (case a23 => k_is)
    (case l23 => k_is)
    (case c23 => k_is)
    (case k23 => k_is)
    (case a24 => k_is)
    (case l24 => k_is)
    (case c24 => k_is)
    (case k24 => k_is)
    (case a25 => k_is)
    (case l25 => k_is)
    (case c25 => k_is)
    (case k25 => k_is)
    (case a26 => k_is)
    (case l26 => k_is)
    (case c26 => k_is)
    (case k26 => k_is)
    (case a27 => k_is)
    (case l27 => k_is)
    (case c27 => k_is)
    (case k27 => k_is)
    (case a28 => k_is)
    (case l28 => k_is)
    (case c28 => k_is)
    (case k28 => k_is)
    (case a29 => k_is)
    (case l29 => k_is)
    (case c29 => k_is)
    (case k29 => k_is)
    (case a30 => k_is)
    (case l30 => k_is)
    (case c30 => k_is)
    (case k30 => k_is)
    (case z0 => k_is)
    (case z1 => k_is)
    (case z2 => k_is)
    (case z3 => k_is)
    (case z4 => k_is)
    (case z5 => k_is)
    (case z6 => k_is)
    (case z7 => k_is)
    (case z8 => k_is)
    (case z9 => k_is)
    (case z10 => k_is)
    (case z11 => k_is)
    (case vc0 => k_is)
    (case vc1 => k_is)
    (case vc2 => k_is)
    (case vc3 => k_is)
    (case vc4 => k_is)
    (case gR => k_is)
    (case lR => k_is)
    (case gS => k_is)
    (case lS => k_is)
