import PyProof.Rows.All
import Wide.All
import OpenK.AllK
import Wide.FinOn
import HandS.ForMost
import HandS.Evl
import HandS.Defaults
import HandS.Exc
import HandS.More
import HandS.HeadHook1
import HandS.HeadHook2
import HandS.HeadHook3
import PySem.Challenge.RW_thenbeside_k15_whole_small_parts_tell
import KE.KStateDown
import HandS.Head0
import HandS.Head1
import HandS.Head2
import HandS.Head3
import HandS.HeadEnd
import HandS.HeadHook4
import HandS.TupAny
import HandS.Style
import HandS.SortInts
import HandS.IsInst
import HandS.Conv
import HandS.DictComp
import HandS.Flow
import HandS.SortKw
import HandS.Codes
import PyProof.ZipIter
import PyProof.CallType
import PyProof.Walk
import PyProof.WalkLemmas
import PyProof.RangeIter
import PyProof.RulesTry
import HandS.Base
import HandS.Call
import KE.SortKeyHeap
import KE.DatumOrd
/-! K15: the plain mathematics: relations, tables, flaws, the cograph lemma. No program in sight. -/
namespace K15
inductive R where | same | before | beside | after
  deriving DecidableEq, Repr
def R.opp : R → R
  | .same => .same
  | .before => .after
  | .beside => .beside
  | .after => .before
theorem R.opp_opp (r : R) : r.opp.opp = r := by cases r <;> rfl
abbrev Tb := Nat → Nat → R
def TabOk (n : Nat) (T : Tb) : Prop := ∀ i j, i < n → j < n → ((T i j = .same ↔ i = j) ∧ T j i = (T i j).opp)
def Gap (T : Tb) (a b c : Nat) : Prop := T a b = .before ∧ T b c = .before ∧ T a c ≠ .before
def Enn (T : Tb) (a b c d : Nat) : Prop := T a c = .before ∧ T b c = .before ∧ T b d = .before ∧ T a b = .beside ∧ T c d = .beside ∧ T a d = .beside
instance (T : Tb) (a b c : Nat) : Decidable (Gap T a b c) := by unfold Gap; infer_instance
instance (T : Tb) (a b c d : Nat) : Decidable (Enn T a b c d) := by unfold Enn; infer_instance
structure NoFlaw (n : Nat) (T : Tb) : Prop where
  gap : ∀ a b c, a < n → b < n → c < n → [a, b, c].Nodup → ¬ Gap T a b c
  enn : ∀ a b c d, a < n → b < n → c < n → d < n → [a, b, c, d].Nodup → ¬ Enn T a b c d

/-! ### a graph or its complement is not connected, or there is a path of four -/
section
variable {E E' : Nat → Nat → Prop}
def Conn (E : Nat → Nat → Prop) (V : List Nat) : Prop := ∀ S : Nat → Prop, (∃ x, x ∈ V ∧ S x) → (∃ y, y ∈ V ∧ ¬ S y) → ∃ x y, x ∈ V ∧ y ∈ V ∧ S x ∧ ¬ S y ∧ E x y
def P4 (E E' : Nat → Nat → Prop) (V : List Nat) : Prop := ∃ z v x y, (z ∈ V ∧ v ∈ V ∧ x ∈ V ∧ y ∈ V) ∧ (E z v ∧ E v x ∧ E x y) ∧ (E' z x ∧ E' z y ∧ E' v y)
structure Two (E E' : Nat → Nat → Prop) (V : List Nat) : Prop where
  sy : ∀ x y, x ∈ V → y ∈ V → E x y → E y x
  sy' : ∀ x y, x ∈ V → y ∈ V → E' x y → E' y x
  tot : ∀ x y, x ∈ V → y ∈ V → x ≠ y → E x y ∨ E' x y
  non : ∀ x y, x ∈ V → y ∈ V → E x y → E' x y → False
theorem Two.swap {V : List Nat} (h : Two E E' V) : Two E' E V := ⟨h.sy', h.sy, fun x y a b c => (h.tot x y a b c).symm, fun x y a b c d => h.non x y a b d c⟩
theorem Two.tail {v : Nat} {W : List Nat} (h : Two E E' (v :: W)) : Two E E' W :=
  ⟨fun x y a b => h.sy x y (.tail _ a) (.tail _ b), fun x y a b => h.sy' x y (.tail _ a) (.tail _ b), fun x y a b => h.tot x y (.tail _ a) (.tail _ b), fun x y a b => h.non x y (.tail _ a) (.tail _ b)⟩
theorem P4.swap {V : List Nat} (t : Two E E' V) (h : P4 E' E V) : P4 E E' V := by
  obtain ⟨z, v, x, y, ⟨hz, hv, hx, hy⟩, ⟨h1, h2, h3⟩, h4, h5, h6⟩ := h
  exact ⟨v, y, z, x, ⟨hv, hy, hz, hx⟩, ⟨h6, t.sy _ _ hz hy h5, h4⟩, t.sy' _ _ hz hv h1, h2, t.sy' _ _ hx hy h3⟩
theorem P4.cons {v : Nat} {W : List Nat} (h : P4 E E' W) : P4 E E' (v :: W) := by
  obtain ⟨z, v, x, y, ⟨hz, hv, hx, hy⟩, h⟩ := h
  exact ⟨z, v, x, y, ⟨.tail _ hz, .tail _ hv, .tail _ hx, .tail _ hy⟩, h⟩
theorem cog_sub {v : Nat} {W : List Nat} (t : Two E E' (v :: W)) (nd : v ∉ W) (cE : Conn E (v :: W)) (S : Nat → Prop)
    (hc : ∃ y, y ∈ W ∧ ¬ S y) (cut : ∀ x y, x ∈ W → y ∈ W → S x → ¬ S y → ¬ E x y) (u : Nat) (hu : u ∈ W) (su : S u) (eu : E' v u) : P4 E E' (v :: W) := by
  have ne : ∀ x, x ∈ W → x ≠ v := fun x hx e => nd (e ▸ hx)
  obtain ⟨y, x, hy, hx, ⟨hyW, sy, evy⟩, nx, exy⟩ := cE (fun y => y ∈ W ∧ S y ∧ E' v y) ⟨u, .tail _ hu, hu, su, eu⟩ ⟨v, .head _, fun h => nd h.1⟩
  have hxv : x ≠ v := by
    rintro rfl
    exact t.non _ _ (.head _) (.tail _ hyW) (t.sy _ _ (.tail _ hyW) (.head _) exy) evy
  have hxW : x ∈ W := by
    rcases List.mem_cons.mp hx with e | e
    · exact absurd e hxv
    · exact e
  have sx : S x := by
    refine Classical.byContradiction fun n => ?_
    exact cut y x hyW hxW sy n exy
  have evx : E v x := by
    rcases t.tot v x (.head _) hx (Ne.symm hxv) with e | e
    · exact e
    · exact absurd ⟨hxW, sx, e⟩ nx
  obtain ⟨z0, hz0, sz0⟩ := hc
  obtain ⟨z, w, hz, hw, ⟨hzW, sz⟩, nw, ezw⟩ := cE (fun z => z ∈ W ∧ ¬ S z) ⟨z0, .tail _ hz0, hz0, sz0⟩ ⟨v, .head _, fun h => nd h.1⟩
  have hwv : w = v := by
    rcases List.mem_cons.mp hw with e | e
    · exact e
    · have sw : S w := Classical.byContradiction fun n => nw ⟨e, n⟩
      exact (cut w z e hzW sw sz (t.sy _ _ hz hw ezw)).elim
  subst hwv
  have oth : ∀ a, a ∈ W → S a → E' z a := fun a ha sa => by
    have na : z ≠ a := fun e => sz (e ▸ sa)
    rcases t.tot z a hz (.tail _ ha) na with e | e
    · exact (cut a z ha hzW sa sz (t.sy _ _ hz (.tail _ ha) e)).elim
    · exact e
  exact ⟨z, w, x, y, ⟨hz, .head _, hx, hy⟩, ⟨ezw, evx, t.sy _ _ hy hx exy⟩, oth x hxW sx, oth y hyW sy, evy⟩
theorem cog_step {v : Nat} {W : List Nat} (t : Two E E' (v :: W)) (nd : v ∉ W) (cE : Conn E (v :: W)) (cE' : Conn E' (v :: W)) (hW : W ≠ []) (n : ¬ Conn E W) : P4 E E' (v :: W) := by
  have key : ∃ S : Nat → Prop, (∃ x, x ∈ W ∧ S x) ∧ (∃ y, y ∈ W ∧ ¬ S y) ∧ ∀ x y, x ∈ W → y ∈ W → S x → ¬ S y → ¬ E x y := by
    refine Classical.byContradiction fun q => n fun S h1 h2 => Classical.byContradiction fun r => q ⟨S, h1, h2, fun x y hx hy sx sy e => r ⟨x, y, hx, hy, sx, sy, e⟩⟩
  obtain ⟨S, h1, h2, cut⟩ := key
  obtain ⟨w, hw⟩ := List.exists_mem_of_ne_nil W hW
  obtain ⟨x, u, hx, hu, rfl, huv, exu⟩ := cE' (fun x => x = v) ⟨v, .head _, rfl⟩ ⟨w, .tail _ hw, fun e => nd (e ▸ hw)⟩
  have huW : u ∈ W := by
    rcases List.mem_cons.mp hu with e | e
    · exact absurd e huv
    · exact e
  by_cases su : S u
  · exact cog_sub t nd cE S h2 cut u huW su exu
  · refine cog_sub t nd cE (fun x => ¬ S x) ?_ (fun a b ha hb sa sb e => ?_) u huW su exu
    · obtain ⟨a, ha, sa⟩ := h1
      exact ⟨a, ha, fun q => q sa⟩
    · have sb' : S b := Classical.byContradiction sb
      exact cut b a hb ha sb' sa (t.sy _ _ (.tail _ ha) (.tail _ hb) e)
theorem cog : ∀ V : List Nat, Two E E' V → V.Nodup → 2 ≤ V.length → Conn E V → Conn E' V → P4 E E' V
  | [], _, _, h, _, _ => by simp at h
  | v :: W, t, nd, h, cE, cE' => by
    have nd' := List.nodup_cons.mp nd
    have hW : W ≠ [] := by
      rintro rfl
      simp at h
    by_cases hl : 2 ≤ W.length
    · by_cases a : Conn E W
      · by_cases b : Conn E' W
        · exact (cog W t.tail nd'.2 hl a b).cons
        · exact P4.swap t (cog_step t.swap nd'.1 cE' cE hW b)
      · exact cog_step t nd'.1 cE cE' hW a
    · exfalso
      obtain ⟨u, hu⟩ := List.exists_mem_of_ne_nil W hW
      have hWu : W = [u] := by
        match W, hu, hl with
        | [a], hu, _ => simp at hu; rw [hu]
        | _ :: _ :: _, _, hl => simp at hl
      subst hWu
      have ne : u ≠ v := fun e => nd'.1 (by simp [e])
      have side : ∀ F : Nat → Nat → Prop, Conn F [v, u] → F v u := fun F c => by
        obtain ⟨x, y, hx, hy, rfl, q, e⟩ := c (fun x => x = v) ⟨v, .head _, rfl⟩ ⟨u, .tail _ (.head _), ne⟩
        have : y = u := by
          simp at hy
          rcases hy with e | e
          · exact absurd e q
          · exact e
        rw [← this]; exact e
      exact t.non v u (.head _) (.tail _ (.head _)) (side E cE) (side E' cE')
end
/-- comparable, beside -/
def Cmp (T : Tb) (x y : Nat) : Prop := T x y = .before ∨ T x y = .after
def Bes (T : Tb) (x y : Nat) : Prop := T x y = .beside
theorem two_of {n : Nat} {T : Tb} (ok : TabOk n T) {V : List Nat} (hV : ∀ x ∈ V, x < n) : Two (Cmp T) (Bes T) V where
  sy := fun x y hx hy h => by
    have e := (ok x y (hV x hx) (hV y hy)).2
    rcases h with h | h <;> rw [h] at e
    · exact .inr e
    · exact .inl e
  sy' := fun x y hx hy h => by
    have e := (ok x y (hV x hx) (hV y hy)).2
    rw [show T x y = .beside from h] at e
    exact e
  tot := fun x y hx hy h => by
    have e := (ok x y (hV x hx) (hV y hy)).1
    unfold Cmp Bes
    cases q : T x y with
    | same => exact absurd (e.mp q) h
    | before => simp
    | beside => simp
    | after => simp
  non := fun x y _ _ h h' => by
    have h' : T x y = .beside := h'
    rcases h with h | h <;> rw [h'] at h <;> cases h
theorem no_p4 {n : Nat} {T : Tb} (ok : TabOk n T) (nf : NoFlaw n T) {V : List Nat} (hV : ∀ x ∈ V, x < n) : ¬ P4 (Cmp T) (Bes T) V := by
  rintro ⟨z, v, x, y, ⟨hz, hv, hx, hy⟩, ⟨h1, h2, h3⟩, h4, h5, h6⟩
  have hz := hV z hz
  have hv := hV v hv
  have hx := hV x hx
  have hy := hV y hy
  have op : ∀ a b, a < n → b < n → T b a = (T a b).opp := fun a b ha hb => (ok a b ha hb).2
  have irr : ∀ a b, a < n → b < n → T a b ≠ .same → a ≠ b := fun a b ha hb q e => q ((ok a b ha hb).1.mpr e)
  have b1 : T z x = .beside := h4
  have b2 : T z y = .beside := h5
  have b3 : T v y = .beside := h6
  have n1 : z ≠ v := irr _ _ hz hv (by rcases h1 with e | e <;> rw [e] <;> decide)
  have n2 : v ≠ x := irr _ _ hv hx (by rcases h2 with e | e <;> rw [e] <;> decide)
  have n3 : x ≠ y := irr _ _ hx hy (by rcases h3 with e | e <;> rw [e] <;> decide)
  have n4 : z ≠ x := irr _ _ hz hx (by rw [b1]; decide)
  have n5 : z ≠ y := irr _ _ hz hy (by rw [b2]; decide)
  have n6 : v ≠ y := irr _ _ hv hy (by rw [b3]; decide)
  have c1 : T x z = .beside := by rw [op z x hz hx, b1]; rfl
  have c2 : T y z = .beside := by rw [op z y hz hy, b2]; rfl
  have c3 : T y v = .beside := by rw [op v y hv hy, b3]; rfl
  have gp : ∀ a b c, a < n → b < n → c < n → a ≠ b → b ≠ c → a ≠ c → T a b = .before → T b c = .before → T a c = .beside → False := fun a b c ha hb hc x1 x2 x3 e1 e2 e3 =>
    nf.gap a b c ha hb hc (by simp; exact ⟨⟨x1, x3⟩, x2⟩) ⟨e1, e2, by rw [e3]; decide⟩
  rcases h1 with zv | zv
  · -- z before v
    have hxv : T x v = .before := by
      rcases h2 with e | e
      · exact (gp z v x hz hv hx n1 n2 n4 zv e b1).elim
      · have := op v x hv hx; rw [e] at this; exact this
    have hxy : T x y = .before := by
      rcases h3 with e | e
      · exact e
      · have e' : T y x = .before := by rw [op x y hx hy, e]; rfl
        exact (gp y x v hy hx hv (Ne.symm n3) (Ne.symm n2) (Ne.symm n6) e' hxv c3).elim
    exact nf.enn z x v y hz hx hv hy (by simp; exact ⟨⟨n4, n1, n5⟩, ⟨Ne.symm n2, n3⟩, n6⟩) ⟨zv, hxv, hxy, b1, b3, b2⟩
  · have vz : T v z = .before := by rw [op z v hz hv, zv]; rfl
    have hvx : T v x = .before := by
      rcases h2 with e | e
      · exact e
      · have e' : T x v = .before := by rw [op v x hv hx, e]; rfl
        exact (gp x v z hx hv hz (Ne.symm n2) (Ne.symm n1) (Ne.symm n4) e' vz c1).elim
    have hyx : T y x = .before := by
      rcases h3 with e | e
      · exact (gp v x y hv hx hy n2 n3 n6 hvx e b3).elim
      · rw [op x y hx hy, e]; rfl
    exact nf.enn y v x z hy hv hx hz (by simp; exact ⟨⟨Ne.symm n6, Ne.symm n3, Ne.symm n5⟩, ⟨n2, Ne.symm n1⟩, Ne.symm n4⟩) ⟨hyx, hvx, vz, c3, c1, c2⟩
/-- THE COGRAPH LEMMA: built's recursion gets smaller -/
theorem not_both {n : Nat} {T : Tb} (ok : TabOk n T) (nf : NoFlaw n T) {V : List Nat} (hV : ∀ x ∈ V, x < n) (nd : V.Nodup) (h2 : 2 ≤ V.length) : ¬ (Conn (Cmp T) V ∧ Conn (Bes T) V) := fun ⟨a, b⟩ =>
  no_p4 ok nf hV (cog V (two_of ok hV) nd h2 a b)

/-! ### flaws go with a map of the tasks -/
theorem nodup_map_inj {f : Nat → Nat} {n : Nat} (inj : ∀ i j, i < n → j < n → f i = f j → i = j) : ∀ {l : List Nat}, (∀ x ∈ l, x < n) → l.Nodup → (l.map f).Nodup
  | [], _, _ => by simp
  | a :: r, hl, nd => by
    have nd' := List.nodup_cons.mp nd
    rw [List.map_cons, List.nodup_cons]
    refine ⟨fun h => ?_, nodup_map_inj inj (fun x hx => hl x (.tail _ hx)) nd'.2⟩
    obtain ⟨b, hb, e⟩ := List.mem_map.mp h
    have := inj b a (hl b (.tail _ hb)) (hl a (.head _)) e
    exact nd'.1 (this ▸ hb)
theorem NoFlaw.comp {n m : Nat} {T : Tb} (nf : NoFlaw m T) {f : Nat → Nat} (into : ∀ i, i < n → f i < m) (inj : ∀ i j, i < n → j < n → f i = f j → i = j) : NoFlaw n fun i j => T (f i) (f j) where
  gap := fun a b c ha hb hc nd g => nf.gap (f a) (f b) (f c) (into a ha) (into b hb) (into c hc) (nodup_map_inj inj (l := [a, b, c]) (by intro x hx; simp at hx; rcases hx with rfl | rfl | rfl <;> assumption) nd) g
  enn := fun a b c d ha hb hc hd nd g => nf.enn (f a) (f b) (f c) (f d) (into a ha) (into b hb) (into c hc) (into d hd) (nodup_map_inj inj (l := [a, b, c, d]) (by intro x hx; simp at hx; rcases hx with rfl | rfl | rfl | rfl <;> assumption) nd) g
theorem NoFlaw.congr {n : Nat} {T T' : Tb} (nf : NoFlaw n T) (h : ∀ i j, i < n → j < n → T' i j = T i j) : NoFlaw n T' where
  gap := fun a b c ha hb hc nd g => nf.gap a b c ha hb hc nd (by unfold Gap at g ⊢; rw [← h a b ha hb, ← h b c hb hc, ← h a c ha hc]; exact g)
  enn := fun a b c d ha hb hc hd nd g => nf.enn a b c d ha hb hc hd nd (by unfold Enn at g ⊢; rw [← h a c ha hc, ← h b c hb hc, ← h b d hb hd, ← h a b ha hb, ← h c d hc hd, ← h a d ha hd]; exact g)
/-- the tasks at i of the chosen ones -/
abbrev at_ (c : List Nat) (i : Nat) : Nat := c.getD i 0
def partT (T : Tb) (c : List Nat) : Tb := fun i j => T (at_ c i) (at_ c j)
/-- all ascending rows of so many tasks below n, as the law lists them -/
def someL (n : Nat) : Nat → List (List Nat)
  | 0 => [[]]
  | m + 1 => (someL n m).flatMap fun row => ((List.range n).filter fun one => decide (row = []) || decide (row.getLastD 0 < one)).map fun one => row ++ [one]
def someOk (n m : Nat) : Bool := (someL n m).all fun c => decide (c.length = m) && decide (c.Nodup) && c.all (fun x => decide (x < n)) && (List.range (m - 1)).all fun i => decide (at_ c i < at_ c (i + 1))
def all3 (n : Nat) : Bool := (List.range n).all fun a => (List.range n).all fun b => (List.range n).all fun c => !decide [a, b, c].Nodup || (someL n 3).any fun ch => ch.contains a && ch.contains b && ch.contains c
def all4 (n : Nat) : Bool := (List.range n).all fun a => (List.range n).all fun b => (List.range n).all fun c => (List.range n).all fun d => !decide [a, b, c, d].Nodup || (someL n 4).any fun ch => ch.contains a && ch.contains b && ch.contains c && ch.contains d
theorem some_ok : ∀ n, n ≤ 6 → someOk n 3 = true ∧ someOk n 4 = true := by decide +kernel
theorem all3_ok : ∀ n, n ≤ 6 → all3 n = true := by decide +kernel
theorem all4_ok : ∀ n, n ≤ 6 → all4 n = true := by decide +kernel
structure Chosen (n m : Nat) (c : List Nat) : Prop where
  len : c.length = m
  nd : c.Nodup
  lt : ∀ x ∈ c, x < n
  asc : ∀ i, i + 1 < m → at_ c i < at_ c (i + 1)
theorem chosen_of {n m : Nat} (h : someOk n m = true) : ∀ c ∈ someL n m, Chosen n m c := by
  intro c hc
  have q := List.all_eq_true.mp h c hc
  simp only [Bool.and_eq_true, decide_eq_true_eq, List.all_eq_true, List.mem_range] at q
  exact ⟨q.1.1.1, q.1.1.2, q.1.2, fun i hi => q.2 i (by omega)⟩
theorem chosen34 {n : Nat} (hn : n ≤ 6) : ∀ c ∈ someL n 3 ++ someL n 4, ∃ m, (m = 3 ∨ m = 4) ∧ Chosen n m c := by
  intro c hc
  rcases List.mem_append.mp hc with h | h
  · exact ⟨3, .inl rfl, chosen_of (some_ok n hn).1 c h⟩
  · exact ⟨4, .inr rfl, chosen_of (some_ok n hn).2 c h⟩
theorem at_eq {c : List Nat} {i : Nat} (h : i < c.length) : at_ c i = c[i] := by simp [at_, List.getD, h]
theorem Chosen.inj {n m : Nat} {c : List Nat} (h : Chosen n m c) : ∀ i j, i < m → j < m → at_ c i = at_ c j → i = j := by
  intro i j hi hj e
  have h1 : i < c.length := by rw [h.len]; exact hi
  have h2 : j < c.length := by rw [h.len]; exact hj
  rw [at_eq h1, at_eq h2] at e
  exact (List.getElem_inj h.nd).mp e
theorem Chosen.into {n m : Nat} {c : List Nat} (h : Chosen n m c) : ∀ i, i < m → at_ c i < n := by
  intro i hi
  have h1 : i < c.length := by rw [h.len]; exact hi
  rw [at_eq h1]
  exact h.lt _ (List.getElem_mem h1)
theorem Chosen.place {n m : Nat} {c : List Nat} (h : Chosen n m c) {x : Nat} (hx : x ∈ c) : ∃ i, i < m ∧ at_ c i = x := by
  obtain ⟨i, hi, e⟩ := List.mem_iff_getElem.mp hx
  exact ⟨i, by rw [← h.len]; exact hi, by rw [at_eq hi]; exact e⟩
/-- a table is without flaws exactly if its parts of three and four are -/
theorem parts_tell {n : Nat} {T : Tb} (hn : n ≤ 6) : NoFlaw n T ↔ ∀ c ∈ someL n 3 ++ someL n 4, NoFlaw c.length (partT T c) := by
  constructor
  · intro nf c hc
    obtain ⟨m, _, hm⟩ := chosen34 hn c hc
    rw [hm.len]
    exact nf.comp hm.into hm.inj
  · intro h
    constructor
    · intro a b c ha hb hc nd g
      have q := List.all_eq_true.mp (List.all_eq_true.mp (List.all_eq_true.mp (all3_ok n hn) a (List.mem_range.mpr ha)) b (List.mem_range.mpr hb)) c (List.mem_range.mpr hc)
      rw [decide_eq_true nd] at q
      obtain ⟨ch, hch, e⟩ := List.any_eq_true.mp (show ((someL n _).any _) = true from q)
      simp only [Bool.and_eq_true, List.contains_iff_mem] at e
      have hm := chosen_of (some_ok n hn).1 ch hch
      obtain ⟨i, hi, ei⟩ := hm.place e.1.1
      obtain ⟨j, hj, ej⟩ := hm.place e.1.2
      obtain ⟨k, hk, ek⟩ := hm.place e.2
      subst ei ej ek
      have nf := h ch (List.mem_append_left _ hch)
      rw [hm.len] at nf
      refine nf.gap i j k hi hj hk ?_ g
      simp only [List.nodup_cons, List.mem_cons, List.not_mem_nil, or_false, not_or, not_false_eq_true, and_true, List.nodup_nil] at nd ⊢
      exact ⟨⟨fun z => nd.1.1 (by rw [z]), fun z => nd.1.2 (by rw [z])⟩, fun z => nd.2 (by rw [z])⟩
    · intro a b c d ha hb hc hd nd g
      have q := List.all_eq_true.mp (List.all_eq_true.mp (List.all_eq_true.mp (List.all_eq_true.mp (all4_ok n hn) a (List.mem_range.mpr ha)) b (List.mem_range.mpr hb)) c (List.mem_range.mpr hc)) d (List.mem_range.mpr hd)
      rw [decide_eq_true nd] at q
      obtain ⟨ch, hch, e⟩ := List.any_eq_true.mp (show ((someL n _).any _) = true from q)
      simp only [Bool.and_eq_true, List.contains_iff_mem] at e
      have hm := chosen_of (some_ok n hn).2 ch hch
      obtain ⟨i, hi, ei⟩ := hm.place e.1.1.1
      obtain ⟨j, hj, ej⟩ := hm.place e.1.1.2
      obtain ⟨k, hk, ek⟩ := hm.place e.1.2
      obtain ⟨l, hl, el⟩ := hm.place e.2
      subst ei ej ek el
      have nf := h ch (List.mem_append_right _ hch)
      rw [hm.len] at nf
      refine nf.enn i j k l hi hj hk hl ?_ g
      simp only [List.nodup_cons, List.mem_cons, List.not_mem_nil, or_false, not_or, not_false_eq_true, and_true, List.nodup_nil] at nd ⊢
      exact ⟨⟨fun z => nd.1.1 (by rw [z]), fun z => nd.1.2.1 (by rw [z]), fun z => nd.1.2.2 (by rw [z])⟩, ⟨fun z => nd.2.1.1 (by rw [z]), fun z => nd.2.1.2 (by rw [z])⟩, fun z => nd.2.2 (by rw [z])⟩
end K15
set_option Elab.async false
set_option linter.all false
set_option maxRecDepth 100000
/-! K15: the text by places -/
namespace K15
open PySem PySem.Spec PyProof.Rows L2
def top (i : Nat) : Stmt := PySem.Challenge.pw_thenbeside_k15_whole_small_parts_tell.main.body.getD i (.Pass ⟨0, 0, 0, 0⟩)
abbrev FnP (K : PySem.W.Frag) (x : Str) (st : Stmt) (f : Addr) (fd : FuncData) : Prop := FunD K x x (defArgs st) (defBody st) (defScope st) [] [] f fd
abbrev s_all_tasks : Stmt := top 5
abbrev s_least_task : Stmt := top 6
abbrev s_normal_of : Stmt := top 7
abbrev s_is_integer : Stmt := top 11
abbrev s_opposite : Stmt := top 12
abbrev s_is_line : Stmt := top 13
abbrev s_fits : Stmt := top 14
abbrev s_check_table : Stmt := top 15
abbrev s_is_chosen : Stmt := top 16
abbrev s_part_in : Stmt := top 17
abbrev s_part : Stmt := top 18
abbrev s_is_gap : Stmt := top 20
abbrev s_is_n : Stmt := top 21
abbrev s_flaw_in : Stmt := top 22
abbrev s_flaw : Stmt := top 23
abbrev s_are_different : Stmt := top 24
abbrev s_shows_flaw : Stmt := top 25
abbrev s_reached : Stmt := top 26
abbrev s_parts_by : Stmt := top 27
abbrev s_built : Stmt := top 28
abbrev s_plan_in : Stmt := top 29
abbrev s_plan_of : Stmt := top 30
abbrev s_law_stream : Stmt := top 32
abbrev s_law_next : Stmt := top 33
abbrev s_law_shuffled : Stmt := top 36
abbrev s_law_joined : Stmt := top 37
abbrev s_law_plan : Stmt := top 38
abbrev s_law_tasks : Stmt := top 39
abbrev s_law_relation : Stmt := top 40
abbrev s_law_table : Stmt := top 41
abbrev s_law_opposite : Stmt := top 43
abbrev s_law_drawn_table : Stmt := top 44
abbrev s_law_some_table : Stmt := top 45
abbrev s_law_some : Stmt := top 46
abbrev s_law : Stmt := top 47
/-- what the top leaves, by names -/
structure Tx (K : PySem.W.Frag) (w : World) (mg : Str → Option Value) (F : Nat → FuncData) : Prop where
  d_all_tasks : FnP K "all_tasks" s_all_tasks (He.ga K "all_tasks") (F 5)
  m_all_tasks : mg "all_tasks" = some (.ref (He.ga K "all_tasks"))
  d_least_task : FnP K "least_task" s_least_task (He.ga K "least_task") (F 6)
  m_least_task : mg "least_task" = some (.ref (He.ga K "least_task"))
  d_normal_of : FnP K "normal_of" s_normal_of (He.ga K "normal_of") (F 7)
  m_normal_of : mg "normal_of" = some (.ref (He.ga K "normal_of"))
  d_is_integer : FnP K "is_integer" s_is_integer (He.ga K "is_integer") (F 11)
  m_is_integer : mg "is_integer" = some (.ref (He.ga K "is_integer"))
  d_opposite : FnP K "opposite" s_opposite (He.ga K "opposite") (F 12)
  m_opposite : mg "opposite" = some (.ref (He.ga K "opposite"))
  d_is_line : FnP K "is_line" s_is_line (He.ga K "is_line") (F 13)
  m_is_line : mg "is_line" = some (.ref (He.ga K "is_line"))
  d_fits : FnP K "fits" s_fits (He.ga K "fits") (F 14)
  m_fits : mg "fits" = some (.ref (He.ga K "fits"))
  d_check_table : FnP K "check_table" s_check_table (He.ga K "check_table") (F 15)
  m_check_table : mg "check_table" = some (.ref (He.ga K "check_table"))
  d_is_chosen : FnP K "is_chosen" s_is_chosen (He.ga K "is_chosen") (F 16)
  m_is_chosen : mg "is_chosen" = some (.ref (He.ga K "is_chosen"))
  d_part_in : FnP K "part_in" s_part_in (He.ga K "part_in") (F 17)
  m_part_in : mg "part_in" = some (.ref (He.ga K "part_in"))
  d_part : FnP K "part" s_part (He.ga K "part") (F 18)
  m_part : mg "part" = some (.ref (He.ga K "part"))
  d_is_gap : FnP K "is_gap" s_is_gap (He.ga K "is_gap") (F 20)
  m_is_gap : mg "is_gap" = some (.ref (He.ga K "is_gap"))
  d_is_n : FnP K "is_n" s_is_n (He.ga K "is_n") (F 21)
  m_is_n : mg "is_n" = some (.ref (He.ga K "is_n"))
  d_flaw_in : FnP K "flaw_in" s_flaw_in (He.ga K "flaw_in") (F 22)
  m_flaw_in : mg "flaw_in" = some (.ref (He.ga K "flaw_in"))
  d_flaw : FnP K "flaw" s_flaw (He.ga K "flaw") (F 23)
  m_flaw : mg "flaw" = some (.ref (He.ga K "flaw"))
  d_are_different : FnP K "are_different" s_are_different (He.ga K "are_different") (F 24)
  m_are_different : mg "are_different" = some (.ref (He.ga K "are_different"))
  d_shows_flaw : FnP K "shows_flaw" s_shows_flaw (He.ga K "shows_flaw") (F 25)
  m_shows_flaw : mg "shows_flaw" = some (.ref (He.ga K "shows_flaw"))
  d_reached : FnP K "reached" s_reached (He.ga K "reached") (F 26)
  m_reached : mg "reached" = some (.ref (He.ga K "reached"))
  d_parts_by : FnP K "parts_by" s_parts_by (He.ga K "parts_by") (F 27)
  m_parts_by : mg "parts_by" = some (.ref (He.ga K "parts_by"))
  d_built : FnP K "built" s_built (He.ga K "built") (F 28)
  m_built : mg "built" = some (.ref (He.ga K "built"))
  d_plan_in : FnP K "plan_in" s_plan_in (He.ga K "plan_in") (F 29)
  m_plan_in : mg "plan_in" = some (.ref (He.ga K "plan_in"))
  d_plan_of : FnP K "plan_of" s_plan_of (He.ga K "plan_of") (F 30)
  m_plan_of : mg "plan_of" = some (.ref (He.ga K "plan_of"))
  d_law_stream : FnP K "_law_stream" s_law_stream (He.ga K "_law_stream") (F 32)
  m_law_stream : mg "_law_stream" = some (.ref (He.ga K "_law_stream"))
  d_law_next : FnP K "_law_next" s_law_next (He.ga K "_law_next") (F 33)
  m_law_next : mg "_law_next" = some (.ref (He.ga K "_law_next"))
  d_law_shuffled : FnP K "_law_shuffled" s_law_shuffled (He.ga K "_law_shuffled") (F 36)
  m_law_shuffled : mg "_law_shuffled" = some (.ref (He.ga K "_law_shuffled"))
  d_law_joined : FnP K "_law_joined" s_law_joined (He.ga K "_law_joined") (F 37)
  m_law_joined : mg "_law_joined" = some (.ref (He.ga K "_law_joined"))
  d_law_plan : FnP K "_law_plan" s_law_plan (He.ga K "_law_plan") (F 38)
  m_law_plan : mg "_law_plan" = some (.ref (He.ga K "_law_plan"))
  d_law_tasks : FnP K "_law_tasks" s_law_tasks (He.ga K "_law_tasks") (F 39)
  m_law_tasks : mg "_law_tasks" = some (.ref (He.ga K "_law_tasks"))
  d_law_relation : FnP K "_law_relation" s_law_relation (He.ga K "_law_relation") (F 40)
  m_law_relation : mg "_law_relation" = some (.ref (He.ga K "_law_relation"))
  d_law_table : FnP K "_law_table" s_law_table (He.ga K "_law_table") (F 41)
  m_law_table : mg "_law_table" = some (.ref (He.ga K "_law_table"))
  d_law_opposite : FnP K "_law_opposite" s_law_opposite (He.ga K "_law_opposite") (F 43)
  m_law_opposite : mg "_law_opposite" = some (.ref (He.ga K "_law_opposite"))
  d_law_drawn_table : FnP K "_law_drawn_table" s_law_drawn_table (He.ga K "_law_drawn_table") (F 44)
  m_law_drawn_table : mg "_law_drawn_table" = some (.ref (He.ga K "_law_drawn_table"))
  d_law_some_table : FnP K "_law_some_table" s_law_some_table (He.ga K "_law_some_table") (F 45)
  m_law_some_table : mg "_law_some_table" = some (.ref (He.ga K "_law_some_table"))
  d_law_some : FnP K "_law_some" s_law_some (He.ga K "_law_some") (F 46)
  m_law_some : mg "_law_some" = some (.ref (He.ga K "_law_some"))
  d_law : FnP K "law" s_law (He.ga K "law") (F 47)
  m_law : mg "law" = some (.ref (He.ga K "law"))
  z_isinstance : mg "isinstance" = none
  z_int : mg "int" = none
  z_bool : mg "bool" = none
  z_str : mg "str" = none
  z_tuple : mg "tuple" = none
  z_len : mg "len" = none
  z_range : mg "range" = none
  z_min : mg "min" = none
  z_sorted : mg "sorted" = none
  z_all : mg "all" = none
  z_list : mg "list" = none
  z_abs : mg "abs" = none
  mt : ∃ t, mg "MOST_TASKS" = some (.int 7 t)
  m_OPPOSITES : mg "OPPOSITES" = some (.ref (He.ga K "OPPOSITES"))
  opd : ∃ es n, KDict K w (He.ga K "OPPOSITES") es n
  opv : He.valsB K (He.ga K "OPPOSITES") [("before", .str "after"), ("beside", .str "beside"), ("after", .str "before"), ("same", .str "same")] = true
  pm : mg "permutations" = some (.type "itertools.permutations")
section
variable {K : PySem.W.Frag} {w : World} {mg : Str → Option Value} {F : Nat → FuncData}
theorem Tx.b_all_tasks (T : Tx K w mg F) : Binds K (F 5) ["plan"] [] := T.d_all_tasks.bindsN fun _ _ _ _ _ _ us hl => match us, hl with | [_], _ => rfl
theorem Tx.b_least_task (T : Tx K w mg F) : Binds K (F 6) ["plan"] [] := T.d_least_task.bindsN fun _ _ _ _ _ _ us hl => match us, hl with | [_], _ => rfl
theorem Tx.b_normal_of (T : Tx K w mg F) : Binds K (F 7) ["plan"] [] := T.d_normal_of.bindsN fun _ _ _ _ _ _ us hl => match us, hl with | [_], _ => rfl
theorem Tx.b_is_integer (T : Tx K w mg F) : Binds K (F 11) ["value"] [] := T.d_is_integer.bindsN fun _ _ _ _ _ _ us hl => match us, hl with | [_], _ => rfl
theorem Tx.b_opposite (T : Tx K w mg F) : Binds K (F 12) ["relation"] [] := T.d_opposite.bindsN fun _ _ _ _ _ _ us hl => match us, hl with | [_], _ => rfl
theorem Tx.b_is_line (T : Tx K w mg F) : Binds K (F 13) ["value", "size"] [] := T.d_is_line.bindsN fun _ _ _ _ _ _ us hl => match us, hl with | [_, _], _ => rfl
theorem Tx.b_fits (T : Tx K w mg F) : Binds K (F 14) ["value", "size"] [] := T.d_fits.bindsN fun _ _ _ _ _ _ us hl => match us, hl with | [_, _], _ => rfl
theorem Tx.b_check_table (T : Tx K w mg F) : Binds K (F 15) ["table"] [] := T.d_check_table.bindsN fun _ _ _ _ _ _ us hl => match us, hl with | [_], _ => rfl
theorem Tx.b_is_chosen (T : Tx K w mg F) : Binds K (F 16) ["value", "size"] [] := T.d_is_chosen.bindsN fun _ _ _ _ _ _ us hl => match us, hl with | [_, _], _ => rfl
theorem Tx.b_part_in (T : Tx K w mg F) : Binds K (F 17) ["table", "chosen"] [] := T.d_part_in.bindsN fun _ _ _ _ _ _ us hl => match us, hl with | [_, _], _ => rfl
theorem Tx.b_part (T : Tx K w mg F) : Binds K (F 18) ["table", "chosen"] [] := T.d_part.bindsN fun _ _ _ _ _ _ us hl => match us, hl with | [_, _], _ => rfl
theorem Tx.b_is_gap (T : Tx K w mg F) : Binds K (F 20) ["table", "tasks"] [] := T.d_is_gap.bindsN fun _ _ _ _ _ _ us hl => match us, hl with | [_, _], _ => rfl
theorem Tx.b_is_n (T : Tx K w mg F) : Binds K (F 21) ["table", "tasks"] [] := T.d_is_n.bindsN fun _ _ _ _ _ _ us hl => match us, hl with | [_, _], _ => rfl
theorem Tx.b_flaw_in (T : Tx K w mg F) : Binds K (F 22) ["table"] [] := T.d_flaw_in.bindsN fun _ _ _ _ _ _ us hl => match us, hl with | [_], _ => rfl
theorem Tx.b_flaw (T : Tx K w mg F) : Binds K (F 23) ["table"] [] := T.d_flaw.bindsN fun _ _ _ _ _ _ us hl => match us, hl with | [_], _ => rfl
theorem Tx.b_are_different (T : Tx K w mg F) : Binds K (F 24) ["value", "size"] [] := T.d_are_different.bindsN fun _ _ _ _ _ _ us hl => match us, hl with | [_, _], _ => rfl
theorem Tx.b_shows_flaw (T : Tx K w mg F) : Binds K (F 25) ["table", "value"] [] := T.d_shows_flaw.bindsN fun _ _ _ _ _ _ us hl => match us, hl with | [_, _], _ => rfl
theorem Tx.b_reached (T : Tx K w mg F) : Binds K (F 26) ["table", "tasks", "first", "good"] [] := T.d_reached.bindsN fun _ _ _ _ _ _ us hl => match us, hl with | [_, _, _, _], _ => rfl
theorem Tx.b_parts_by (T : Tx K w mg F) : Binds K (F 27) ["table", "tasks", "good"] [] := T.d_parts_by.bindsN fun _ _ _ _ _ _ us hl => match us, hl with | [_, _, _], _ => rfl
theorem Tx.b_built (T : Tx K w mg F) : Binds K (F 28) ["table", "tasks"] [] := T.d_built.bindsN fun _ _ _ _ _ _ us hl => match us, hl with | [_, _], _ => rfl
theorem Tx.b_plan_in (T : Tx K w mg F) : Binds K (F 29) ["table"] [] := T.d_plan_in.bindsN fun _ _ _ _ _ _ us hl => match us, hl with | [_], _ => rfl
theorem Tx.b_plan_of (T : Tx K w mg F) : Binds K (F 30) ["table"] [] := T.d_plan_of.bindsN fun _ _ _ _ _ _ us hl => match us, hl with | [_], _ => rfl
theorem Tx.b_law_stream (T : Tx K w mg F) : Binds K (F 32) ["_law_script"] [] := T.d_law_stream.bindsN fun _ _ _ _ _ _ us hl => match us, hl with | [_], _ => rfl
theorem Tx.b_law_next (T : Tx K w mg F) : Binds K (F 33) ["_law_stream_here", "_law_many"] [] := T.d_law_next.bindsN fun _ _ _ _ _ _ us hl => match us, hl with | [_, _], _ => rfl
theorem Tx.b_law_shuffled (T : Tx K w mg F) : Binds K (F 36) ["_law_stream_here", "_law_many"] [] := T.d_law_shuffled.bindsN fun _ _ _ _ _ _ us hl => match us, hl with | [_, _], _ => rfl
theorem Tx.b_law_joined (T : Tx K w mg F) : Binds K (F 37) ["_law_word", "_law_first", "_law_second"] [] := T.d_law_joined.bindsN fun _ _ _ _ _ _ us hl => match us, hl with | [_, _, _], _ => rfl
theorem Tx.b_law_plan (T : Tx K w mg F) : Binds K (F 38) ["_law_stream_here", "_law_size"] [] := T.d_law_plan.bindsN fun _ _ _ _ _ _ us hl => match us, hl with | [_, _], _ => rfl
theorem Tx.b_law_tasks (T : Tx K w mg F) : Binds K (F 39) ["_law_plan_here"] [] := T.d_law_tasks.bindsN fun _ _ _ _ _ _ us hl => match us, hl with | [_], _ => rfl
theorem Tx.b_law_relation (T : Tx K w mg F) : Binds K (F 40) ["_law_plan_here", "_law_x", "_law_y"] [] := T.d_law_relation.bindsN fun _ _ _ _ _ _ us hl => match us, hl with | [_, _, _], _ => rfl
theorem Tx.b_law_table (T : Tx K w mg F) : Binds K (F 41) ["_law_plan_here"] [] := T.d_law_table.bindsN fun _ _ _ _ _ _ us hl => match us, hl with | [_], _ => rfl
theorem Tx.b_law_opposite (T : Tx K w mg F) : Binds K (F 43) ["_law_relation_here"] [] := T.d_law_opposite.bindsN fun _ _ _ _ _ _ us hl => match us, hl with | [_], _ => rfl
theorem Tx.b_law_drawn_table (T : Tx K w mg F) : Binds K (F 44) ["_law_stream_here", "_law_size"] [] := T.d_law_drawn_table.bindsN fun _ _ _ _ _ _ us hl => match us, hl with | [_, _], _ => rfl
theorem Tx.b_law_some_table (T : Tx K w mg F) : Binds K (F 45) ["_law_stream_here", "_law_size"] [] := T.d_law_some_table.bindsN fun _ _ _ _ _ _ us hl => match us, hl with | [_, _], _ => rfl
theorem Tx.b_law_some (T : Tx K w mg F) : Binds K (F 46) ["_law_size", "_law_many"] [] := T.d_law_some.bindsN fun _ _ _ _ _ _ us hl => match us, hl with | [_, _], _ => rfl
theorem Tx.b_law (T : Tx K w mg F) : Binds K (F 47) ["_law_script"] [] := T.d_law.bindsN fun _ _ _ _ _ _ us hl => match us, hl with | [_], _ => rfl
end
end K15
set_option Elab.async false
set_option linter.all false
set_option maxRecDepth 100000
set_option maxHeartbeats 0
/-! K15: the head: what the top leaves, by names -/
namespace K15
open PySem PySem.Spec PyProof.Rows L2
def d_all_tasks : He.DefD := ⟨("all_tasks", none), "all_tasks", "all_tasks", defArgs s_all_tasks, defBody s_all_tasks, defScope s_all_tasks, [], []⟩
def d_least_task : He.DefD := ⟨("least_task", none), "least_task", "least_task", defArgs s_least_task, defBody s_least_task, defScope s_least_task, [], []⟩
def d_normal_of : He.DefD := ⟨("normal_of", none), "normal_of", "normal_of", defArgs s_normal_of, defBody s_normal_of, defScope s_normal_of, [], []⟩
def d_is_integer : He.DefD := ⟨("is_integer", none), "is_integer", "is_integer", defArgs s_is_integer, defBody s_is_integer, defScope s_is_integer, [], []⟩
def d_opposite : He.DefD := ⟨("opposite", none), "opposite", "opposite", defArgs s_opposite, defBody s_opposite, defScope s_opposite, [], []⟩
def d_is_line : He.DefD := ⟨("is_line", none), "is_line", "is_line", defArgs s_is_line, defBody s_is_line, defScope s_is_line, [], []⟩
def d_fits : He.DefD := ⟨("fits", none), "fits", "fits", defArgs s_fits, defBody s_fits, defScope s_fits, [], []⟩
def d_check_table : He.DefD := ⟨("check_table", none), "check_table", "check_table", defArgs s_check_table, defBody s_check_table, defScope s_check_table, [], []⟩
def d_is_chosen : He.DefD := ⟨("is_chosen", none), "is_chosen", "is_chosen", defArgs s_is_chosen, defBody s_is_chosen, defScope s_is_chosen, [], []⟩
def d_part_in : He.DefD := ⟨("part_in", none), "part_in", "part_in", defArgs s_part_in, defBody s_part_in, defScope s_part_in, [], []⟩
def d_part : He.DefD := ⟨("part", none), "part", "part", defArgs s_part, defBody s_part, defScope s_part, [], []⟩
def d_is_gap : He.DefD := ⟨("is_gap", none), "is_gap", "is_gap", defArgs s_is_gap, defBody s_is_gap, defScope s_is_gap, [], []⟩
def d_is_n : He.DefD := ⟨("is_n", none), "is_n", "is_n", defArgs s_is_n, defBody s_is_n, defScope s_is_n, [], []⟩
def d_flaw_in : He.DefD := ⟨("flaw_in", none), "flaw_in", "flaw_in", defArgs s_flaw_in, defBody s_flaw_in, defScope s_flaw_in, [], []⟩
def d_flaw : He.DefD := ⟨("flaw", none), "flaw", "flaw", defArgs s_flaw, defBody s_flaw, defScope s_flaw, [], []⟩
def d_are_different : He.DefD := ⟨("are_different", none), "are_different", "are_different", defArgs s_are_different, defBody s_are_different, defScope s_are_different, [], []⟩
def d_shows_flaw : He.DefD := ⟨("shows_flaw", none), "shows_flaw", "shows_flaw", defArgs s_shows_flaw, defBody s_shows_flaw, defScope s_shows_flaw, [], []⟩
def d_reached : He.DefD := ⟨("reached", none), "reached", "reached", defArgs s_reached, defBody s_reached, defScope s_reached, [], []⟩
def d_parts_by : He.DefD := ⟨("parts_by", none), "parts_by", "parts_by", defArgs s_parts_by, defBody s_parts_by, defScope s_parts_by, [], []⟩
def d_built : He.DefD := ⟨("built", none), "built", "built", defArgs s_built, defBody s_built, defScope s_built, [], []⟩
def d_plan_in : He.DefD := ⟨("plan_in", none), "plan_in", "plan_in", defArgs s_plan_in, defBody s_plan_in, defScope s_plan_in, [], []⟩
def d_plan_of : He.DefD := ⟨("plan_of", none), "plan_of", "plan_of", defArgs s_plan_of, defBody s_plan_of, defScope s_plan_of, [], []⟩
def d_law_stream : He.DefD := ⟨("_law_stream", none), "_law_stream", "_law_stream", defArgs s_law_stream, defBody s_law_stream, defScope s_law_stream, [], []⟩
def d_law_next : He.DefD := ⟨("_law_next", none), "_law_next", "_law_next", defArgs s_law_next, defBody s_law_next, defScope s_law_next, [], []⟩
def d_law_shuffled : He.DefD := ⟨("_law_shuffled", none), "_law_shuffled", "_law_shuffled", defArgs s_law_shuffled, defBody s_law_shuffled, defScope s_law_shuffled, [], []⟩
def d_law_joined : He.DefD := ⟨("_law_joined", none), "_law_joined", "_law_joined", defArgs s_law_joined, defBody s_law_joined, defScope s_law_joined, [], []⟩
def d_law_plan : He.DefD := ⟨("_law_plan", none), "_law_plan", "_law_plan", defArgs s_law_plan, defBody s_law_plan, defScope s_law_plan, [], []⟩
def d_law_tasks : He.DefD := ⟨("_law_tasks", none), "_law_tasks", "_law_tasks", defArgs s_law_tasks, defBody s_law_tasks, defScope s_law_tasks, [], []⟩
def d_law_relation : He.DefD := ⟨("_law_relation", none), "_law_relation", "_law_relation", defArgs s_law_relation, defBody s_law_relation, defScope s_law_relation, [], []⟩
def d_law_table : He.DefD := ⟨("_law_table", none), "_law_table", "_law_table", defArgs s_law_table, defBody s_law_table, defScope s_law_table, [], []⟩
def d_law_opposite : He.DefD := ⟨("_law_opposite", none), "_law_opposite", "_law_opposite", defArgs s_law_opposite, defBody s_law_opposite, defScope s_law_opposite, [], []⟩
def d_law_drawn_table : He.DefD := ⟨("_law_drawn_table", none), "_law_drawn_table", "_law_drawn_table", defArgs s_law_drawn_table, defBody s_law_drawn_table, defScope s_law_drawn_table, [], []⟩
def d_law_some_table : He.DefD := ⟨("_law_some_table", none), "_law_some_table", "_law_some_table", defArgs s_law_some_table, defBody s_law_some_table, defScope s_law_some_table, [], []⟩
def d_law_some : He.DefD := ⟨("_law_some", none), "_law_some", "_law_some", defArgs s_law_some, defBody s_law_some, defScope s_law_some, [], []⟩
def d_law : He.DefD := ⟨("law", none), "law", "law", defArgs s_law, defBody s_law, defScope s_law, [], []⟩
def fn : List He.DefD := [d_all_tasks, d_least_task, d_normal_of, d_is_integer, d_opposite, d_is_line, d_fits, d_check_table, d_is_chosen, d_part_in, d_part, d_is_gap, d_is_n, d_flaw_in, d_flaw, d_are_different, d_shows_flaw, d_reached, d_parts_by, d_built, d_plan_in, d_plan_of, d_law_stream, d_law_next, d_law_shuffled, d_law_joined, d_law_plan, d_law_tasks, d_law_relation, d_law_table, d_law_opposite, d_law_drawn_table, d_law_some_table, d_law_some, d_law]
def fa : List He.Fa := [.glo "all_tasks", .glo "least_task", .glo "normal_of", .glo "is_integer", .glo "opposite", .glo "is_line", .glo "fits", .glo "check_table", .glo "is_chosen", .glo "part_in", .glo "part", .glo "is_gap", .glo "is_n", .glo "flaw_in", .glo "flaw", .glo "are_different", .glo "shows_flaw", .glo "reached", .glo "parts_by", .glo "built", .glo "plan_in", .glo "plan_of", .glo "_law_stream", .glo "_law_next", .glo "_law_shuffled", .glo "_law_joined", .glo "_law_plan", .glo "_law_tasks", .glo "_law_relation", .glo "_law_table", .glo "_law_opposite", .glo "_law_drawn_table", .glo "_law_some_table", .glo "_law_some", .glo "law", .free "isinstance", .free "int", .free "bool", .free "str", .free "tuple", .free "len", .free "range", .free "min", .free "sorted", .free "all", .free "list", .free "abs", .int "MOST_TASKS" 7, .glo "OPPOSITES"]
def ts : List He.Tab := [(fun K => He.ga K "OPPOSITES", ["before", "beside", "after", "same"])]
def exK (K : PySem.W.Frag) : Bool := He.eqO (PySem.W.nsIn K mainGlobals "permutations") (some (some (.type "itertools.permutations"))) && He.valsB K (He.ga K "OPPOSITES") [("before", .str "after"), ("beside", .str "beside"), ("after", .str "before"), ("same", .str "same")]
abbrev Rw : PySem.W.OpenRow := PySem.W.OpenLaw.row PySem.Challenge.rw_thenbeside_k15_whole_small_parts_tell
abbrev hk : PySem.W.Hook := He.hookX 4 fa fn ts [] exK
def ob (s : PySem.W.SharedT) : He.AlX := He.obsX 4 fa fn ts [] exK (HandSHeadRun.getT s)
theorem ob_eq (s : PySem.W.SharedT) : ob s = hk.obs s.abs := He.obsX_eq (HandSHeadRun.getT_eq s)
def names : List Str := (["PlanError", "BadValue", "MOST_TASKS", "OPPOSITES", "all_tasks", "least_task", "normal_of", "is_integer", "opposite", "is_line", "fits", "check_table", "is_chosen", "part_in", "part", "is_gap", "is_n", "flaw_in", "flaw", "are_different", "shows_flaw"] : List Str) ++ (["reached", "parts_by", "built", "plan_in", "plan_of", "_law_stream", "_law_next", "_law_is_integer", "_law_equal", "_law_shuffled", "_law_joined", "_law_plan", "_law_tasks", "_law_relation", "_law_table", "_law_normal", "_law_opposite", "_law_drawn_table", "_law_some_table", "_law_some"] : List Str)
theorem run_f (w : World) : HandSHeadRun.RunEqI Rw (PySem.W.view Rw.prog [0, 47]) hk ob 20000 names (w.withFollow "special-get-raises" false) := by
  unfold HandSHeadRun.RunEqI
  kernel_rfl
theorem run_t (w : World) : HandSHeadRun.RunEqI Rw (PySem.W.view Rw.prog [0, 47]) hk ob 20000 names (w.withFollow "special-get-raises" true) := by
  unfold HandSHeadRun.RunEqI
  kernel_rfl
theorem run (w : World) : HandSHeadRun.RunEqI Rw (PySem.W.view Rw.prog [0, 47]) hk ob 20000 names w :=
  PySem.W.byRow2 "special-get-raises" (P := fun w => HandSHeadRun.RunEqI Rw (PySem.W.view Rw.prog [0, 47]) hk ob 20000 names w) run_f run_t w
end K15
set_option Elab.async false
set_option linter.all false
set_option maxRecDepth 100000
/-! K15: the layer's rules with the written part K named (so that a block's reading does not lean on the block) -/
namespace K15
open PySem PySem.Spec PyProof.Rows L2
section
variable {X : Cx} {K : PySem.W.Frag}
theorem ixT (h : X.K = K) : IxR X (rIxT K) := h ▸ ix_tup
theorem ixL (h : X.K = K) : IxR X (rIxL K) := h ▸ ix_list
def rLen (K : PySem.W.Frag) : List V → Hp → VK → Prop := fun xs H Q => ∃ p ys, xs = [.ref p] ∧ (SqL K H p ys ∨ SqT K H p ys) ∧ Q (.int ys.length) H
theorem cLen (h : X.K = K) : CallR X (.builtin "len") (rLen K) := h ▸ call_len_seq
def rListOf (K : PySem.W.Frag) : List V → Hp → VK → Prop := fun xs H Q => ∃ p ys, xs = [.ref p] ∧ (SqL K H p ys ∨ SqT K H p ys) ∧ ∀ l, H l = none → Q (.ref l) (upd H l (.lst ys))
theorem cListOf (h : X.K = K) : CallR X (.type "list") (rListOf K) := h ▸ call_list_of
def rTupOf (K : PySem.W.Frag) : List V → Hp → VK → Prop := fun xs H Q => ∃ p ys, xs = [.ref p] ∧ ((SqL K H p ys ∧ ∀ l, H l = none → Q (.ref l) (upd H l (.tup ys))) ∨ (SqT K H p ys ∧ Q (.ref p) H))
theorem cTupOf (h : X.K = K) : CallR X (.type "tuple") (rTupOf K) := h ▸ call_tuple_of
theorem cIsi (h : X.K = K) : CallR X (.builtin "isinstance") (rIsi K) := h ▸ call_isi
theorem cAll (h : X.K = K) (hc : X.calm = true) : CallR X (.builtin "all") (rAll K) := h ▸ cr_all hc
theorem cMin (h : X.K = K) (hc : X.calm = true) : CallR X (.builtin "min") (rMin K) := h ▸ cr_min hc
theorem cSortI (h : X.K = K) : CallR X (.builtin "sorted") (rSortedI K) := h ▸ cr_sortedI
theorem oIn (h : X.K = K) : OpR X (compareOp .In) (rIn K false) := h ▸ op_in_seq
theorem oNotIn (h : X.K = K) : OpR X (compareOp .NotIn) (rIn K true) := h ▸ op_notIn_seq
theorem oCatA (h : X.K = K) : OpR X (binaryOp .Add) (rCatA K) := h ▸ op_catA
theorem oEqD (h : X.K = K) (hu : X.A.units + 64 < cLine) : OpR X (compareOp .Eq) (rEqD K) := h ▸ op_eqD hu
theorem slTA (h : X.K = K) : SlR X (rSlA K) := h ▸ sl_tupA
theorem mIndex (h : X.K = K) : MtR X "list.index" (rIndex K) := h ▸ mt_index
def rInK (K : PySem.W.Frag) (d : Addr) : R2 := fun x y H Q => ∃ (z : Str) (r : Option Value), x = .str z ∧ y = .ref d ∧ PySem.W.nsIn K d z = some r ∧ Q (.bl r.isSome) H
theorem oInK {w : World} {d : Addr} (h : X.K = K) (hw : X.w = w) (D : ∃ es n, KDict K w d es n) : OpR X (compareOp .In) (rInK K d) := by
  obtain ⟨es, n, D⟩ := D
  subst h hw
  exact op_in_kd D
theorem ixKD {w : World} (h : X.K = K) (hw : X.w = w) : IxR X (rIxD K w) := by
  subst h hw
  exact ix_kdict
theorem piL {l : Expr} {tl : TE} {tg : Expr} (h : X.K = K) (hl : PE X l tl) : PI X tg l (iList K tl) := by
  subst h
  exact pi_list hl
theorem piT {l : Expr} {tl : TE} {tg : Expr} (h : X.K = K) (hl : PE X l tl) : PI X tg l (iTup K tl) := by
  subst h
  exact pi_tup hl
theorem peNotT {a : Expr} {ta : TE} {pos : Pos} (h : X.K = K) (ha : PE X a ta) : PE X (.UnaryOp .Not a pos) (tNotT K ta) := by
  subst h
  exact pe_notT ha
def tTru (K : PySem.W.Frag) (ta : TE) : TT := fun σ H Q => ta σ H fun x H' => ∃ k, TruV K x H' k ∧ Q k H'
theorem ptTru {a : Expr} {ta : TE} (h : X.K = K) (ha : PE X a ta) (he : ∀ whole, isTrue a X.env whole = (do let v ← whole; standAt a.pos; holding [v] (truthy v))) : PT X a (tTru K ta) := by
  subst h
  exact pt_truth ha he
theorem pgT {es : List Expr} {k : Nat} {t : TGs} {n : Nat} {pos : Pos} (hK : X.K = K) (hc : X.calm = true) (h : PGs X es t)
    (hn : (assignEach es X.env).length = n := by rfl) (hst : (assignEach es X.env).findIdx? (·.1) = none := by rfl) : PG X (.Tuple es k pos) (gTup K n t) := by
  subst hK
  exact pg_tup hc h hn hst
theorem peBm {o e : Expr} {es : List Expr} {to : TE} {t : TA} {name : Str} {apos cpos : Pos} {T id : String} {r : V → List V → Hp → VK → Prop} (hK : X.K = K) (pa : PlainAttrs T) (slot : Slot T name id) (hty : typeOf (.builtin id) = pure (.type "method_descriptor")) (hm : MtR X id r) (ho : PE X o to) (ha : PA X (e :: es) t)
    (hbase : attributeBase o name X.env (eval o X.env) = eval o X.env := by rfl)
    (hfew : ((backTo cpos (starEach (e :: es) X.env)).all (fun x => !x.1) && (backToKw cpos (keywordEach [] X.env)).all (fun x => x.1.isSome)
      && decide ((e :: es).length + ([] : List Keyword).length + (if ([] : List Keyword).isEmpty then 0 else 1) < 30)) = true := by rfl)
    (hline : (apos.endLine == cpos.line) = true := by rfl) (hs : starEach (e :: es) X.env = (false, eval e X.env) :: starEach es X.env := by rfl) (hplain : (backTo cpos (starEach es X.env)).any (·.1) = false := by rfl) :
    PE X (.Call (.Attribute o name apos) (e :: es) [] cpos) (tBM K T r to t) := by
  subst hK
  exact pe_bm pa slot hty hm ho ha hbase hfew hline hs hplain
end
end K15
set_option Elab.async false
set_option linter.all false
set_option maxRecDepth 100000
/-! K15: how tables, tasks and texts stand in the heap -/
namespace K15
open PySem PySem.Spec PyProof.Rows L2 Evl
def tk : R → Str
  | .same => "same"
  | .before => "before"
  | .beside => "beside"
  | .after => "after"
theorem tk_inj {a b : R} (h : tk a = tk b) : a = b := by
  cases a <;> cases b <;> first | rfl | exact absurd h (by decide)
abbrev vR (r : R) : V := .str (tk r)
theorem dec_tk (a b : R) : decide (vR a = vR b) = decide (a = b) := by
  by_cases h : a = b
  · subst h; simp
  · rw [decide_eq_false h, decide_eq_false fun e => h (tk_inj (V.str.inj e))]
theorem dec_before (a : R) : decide (V.str (tk a) = V.str "before") = decide (a = .before) := dec_tk a .before
theorem dec_beside (a : R) : decide (V.str (tk a) = V.str "beside") = decide (a = .beside) := dec_tk a .beside
theorem dec_same (a : R) : decide (V.str (tk a) = V.str "same") = decide (a = .same) := dec_tk a .same
def rowV (n : Nat) (f : Nat → R) : List V := (List.range n).map fun j => vR (f j)
theorem rowV_len (n : Nat) (f : Nat → R) : (rowV n f).length = n := by simp [rowV]
theorem rowV_get {n j : Nat} (f : Nat → R) (h : j < n) : (rowV n f)[j]? = some (vR (f j)) := by simp [rowV, h]
theorem rowV_congr {n : Nat} {f g : Nat → R} (h : ∀ j, j < n → f j = g j) : rowV n f = rowV n g := by
  unfold rowV
  exact List.map_congr_left fun j hj => by rw [h j (List.mem_range.mp hj)]
/-- whole numbers as values -/
abbrev vI (k : Nat) : V := .int (k : Int)
def natsV (l : List Nat) : List V := l.map vI
theorem natsV_get {l : List Nat} {i k : Nat} (h : l[i]? = some k) : (natsV l)[i]? = some (vI k) := by simp [natsV, h]
theorem natsV_len (l : List Nat) : (natsV l).length = l.length := by simp [natsV]
theorem natsV_map (l : List Nat) : natsV l = (l.map fun k : Nat => (k : Int)).map V.int := by simp [natsV]
/-- a table, all of it in the tracked heap -/
def TabAt (H : Hp) (v : V) (n : Nat) (T : Tb) : Prop := ∃ (a : Addr) (rs : List Addr), v = .ref a ∧ H a = some (.tup (rs.map V.ref)) ∧ rs.length = n ∧ ∀ i r, rs[i]? = some r → H r = some (.tup (rowV n (T i)))
theorem TabAt.mono {H H' : Hp} {v : V} {n : Nat} {T : Tb} (h : TabAt H v n T) (e : Ex H H') : TabAt H' v n T := by
  obtain ⟨a, rs, ev, ha, hl, hr⟩ := h
  exact ⟨a, rs, ev, e _ _ ha, hl, fun i r q => e _ _ (hr i r q)⟩
theorem TabAt.congr {H : Hp} {v : V} {n : Nat} {T T' : Tb} (h : TabAt H v n T) (q : ∀ i j, i < n → j < n → T i j = T' i j) : TabAt H v n T' := by
  obtain ⟨a, rs, ev, ha, hl, hr⟩ := h
  refine ⟨a, rs, ev, ha, hl, fun i r z => ?_⟩
  have hi : i < n := by rw [← hl]; exact (List.getElem?_eq_some_iff.mp z).1
  rw [hr i r z, rowV_congr fun j hj => q i j hi hj]
section
variable {K : PySem.W.Frag} {σ : L2.St} {H H' : Hp} {ta tb tc : TE}
theorem Ex.same {H H' : Hp} (e : Ex H H') : Same H H' := e
theorem ev_row {v : V} {n : Nat} {T : Tb} (h : TabAt H v n T) {a : Nat} (hn : a < n) (h1 : Ev ta σ H v) (h2 : Ev tb σ H (vI a)) :
    ∃ r, H r = some (.tup (rowV n (T a))) ∧ Ev (tOp (rIxT K) ta tb) σ H (.ref r) := by
  obtain ⟨p, rs, rfl, ha, hl, hr⟩ := h
  have hlt : a < rs.length := by rw [hl]; exact hn
  have e1 : rs[a]? = some rs[a] := List.getElem?_eq_getElem hlt
  exact ⟨rs[a], hr a _ e1, ev_op h1 h2 (rv_ixT (st_of ha) (atI_nat (by rw [List.getElem?_map, e1] <;> rfl)))⟩
/-- table[a][b] -/
theorem ev_tab {v : V} {n : Nat} {T : Tb} (h : TabAt H v n T) {a b : Nat} (hn : a < n) (hb : b < n) (h1 : Ev ta σ H v) (h2 : Ev tb σ H (vI a)) (h3 : Ev tc σ H (vI b)) :
    Ev (tOp (rIxT K) (tOp (rIxT K) ta tb) tc) σ H (vR (T a b)) := by
  obtain ⟨r, hr, e⟩ := ev_row (K := K) h hn h1 h2
  exact ev_op e h3 (rv_ixT (st_of hr) (atI_nat (rowV_get _ hb)))
theorem ev_eqS {x y : Str} (h1 : Ev ta σ H (.str x)) (h2 : Ev tb σ H (.str y)) : Ev (tOp rEq ta tb) σ H (.bl (decide (V.str x = V.str y))) := ev_op h1 h2 (rv_eq rfl)
theorem ev_neS {x y : Str} (h1 : Ev ta σ H (.str x)) (h2 : Ev tb σ H (.str y)) : Ev (tOp rNe ta tb) σ H (.bl (!decide (V.str x = V.str y))) := ev_op h1 h2 (rv_ne rfl)
theorem ev_eqI {x y : Int} (h1 : Ev ta σ H (.int x)) (h2 : Ev tb σ H (.int y)) : Ev (tOp rEq ta tb) σ H (.bl (decide (V.int x = V.int y))) := ev_op h1 h2 (rv_eq rfl)
theorem ev_neI {x y : Int} (h1 : Ev ta σ H (.int x)) (h2 : Ev tb σ H (.int y)) : Ev (tOp rNe ta tb) σ H (.bl (!decide (V.int x = V.int y))) := ev_op h1 h2 (rv_ne rfl)
theorem ev_eqB {x y : Bool} (h1 : Ev ta σ H (.bl x)) (h2 : Ev tb σ H (.bl y)) : Ev (tOp rEq ta tb) σ H (.bl (decide (V.bl x = V.bl y))) := ev_op h1 h2 (rv_eq rfl)
theorem ev_neB {x y : Bool} (h1 : Ev ta σ H (.bl x)) (h2 : Ev tb σ H (.bl y)) : Ev (tOp rNe ta tb) σ H (.bl (!decide (V.bl x = V.bl y))) := ev_op h1 h2 (rv_ne rfl)
theorem dec_int' (x y : Int) : decide (V.int x = V.int y) = decide (x = y) := by
  by_cases h : x = y
  · subst h; simp
  · rw [decide_eq_false h, decide_eq_false fun e => h (V.int.inj e)]
theorem dec_bl' (x y : Bool) : decide (V.bl x = V.bl y) = decide (x = y) := by
  cases x <;> cases y <;> rfl
/-- len of a tuple, a list that H has -/
theorem ev_lenT {a : Addr} {xs : List V} (h1 : Ev ta σ H (.ref a)) (h : H a = some (.tup xs)) : Ev (tCB (rLen K) (tCons ta tNil)) σ H (.int (xs.length : Int)) := fun H1 e Q q =>
  h1 H1 e _ fun H2 e2 => ⟨a, xs, rfl, .inr (st_of ((e.trans e2) _ _ h)), q H2 e2⟩
theorem ev_lenL {a : Addr} {xs : List V} (h1 : Ev ta σ H (.ref a)) (h : H a = some (.lst xs)) : Ev (tCB (rLen K) (tCons ta tNil)) σ H (.int (xs.length : Int)) := fun H1 e Q q =>
  h1 H1 e _ fun H2 e2 => ⟨a, xs, rfl, .inl (sq_of ((e.trans e2) _ _ h)), q H2 e2⟩
/-- a new tuple, list whose fields are of a promise's making -/
def EvP (te : TE) (σ : L2.St) (H : Hp) (P : V → Hp → Prop) : Prop := ∀ H1, Ex H H1 → ∀ Q : VK, (∀ v H2, Ex H1 H2 → P v H2 → Q v H2) → te σ H1 Q
def Mono (P : V → Hp → Prop) : Prop := ∀ v H H', Ex H H' → P v H → P v H'
theorem EvP.mono {te : TE} {P : V → Hp → Prop} (h : EvP te σ H P) (e : Ex H H') : EvP te σ H' P := fun H1 a Q q => h H1 (e.trans a) Q q
theorem Ev.p {te : TE} {v : V} (h : Ev te σ H v) : EvP te σ H fun x _ => x = v := fun H1 e Q q => h H1 e Q fun H2 e2 => q v H2 e2 rfl
theorem EvP.imp {te : TE} {P P' : V → Hp → Prop} (h : EvP te σ H P) (i : ∀ v H', Ex H H' → P v H' → P' v H') : EvP te σ H P' := fun H1 e Q q => h H1 e Q fun v H2 e2 p => q v H2 e2 (i v H2 (e.trans e2) p)
/-- the items of a comprehension: ys, the i-th given one of them as P says -/
inductive Giv (P : Nat → V → Hp → Prop) (H : Hp) : List Nat → List V → Prop
  | nil : Giv P H [] []
  | snoc {is : List Nat} {ys : List V} {i : Nat} {y : V} (h : Giv P H is ys) (p : P i y H) : Giv P H (is ++ [i]) (ys ++ [y])
theorem Giv.len {P : Nat → V → Hp → Prop} {is : List Nat} {ys : List V} (h : Giv P H is ys) : is.length = ys.length := by
  induction h with
  | nil => rfl
  | snoc _ _ ih => simp [ih]
theorem Giv.mono {P : Nat → V → Hp → Prop} (m : ∀ i, Mono (P i)) {is : List Nat} {ys : List V} (h : Giv P H is ys) (e : Ex H H') : Giv P H' is ys := by
  induction h with
  | nil => exact .nil
  | snoc _ p ih => exact .snoc ih (m _ _ _ _ e p)
theorem Giv.get {P : Nat → V → Hp → Prop} {is : List Nat} {ys : List V} (h : Giv P H is ys) : ∀ {k i : Nat}, is[k]? = some i → ∃ y, ys[k]? = some y ∧ P i y H := by
  induction h with
  | nil => intro k i q; simp at q
  | @snoc is ys j y h p ih =>
    intro k i q
    by_cases hk : k < is.length
    · rw [List.getElem?_append_left hk] at q
      obtain ⟨y', h1, h2⟩ := ih q
      exact ⟨y', by rw [List.getElem?_append_left (by rw [← h.len]; exact hk)]; exact h1, h2⟩
    · rw [List.getElem?_append_right (by omega)] at q
      have : k - is.length = 0 := by
        rcases Nat.eq_zero_or_pos (k - is.length) with z | z
        · exact z
        · rw [List.getElem?_eq_none (by simp; omega)] at q; cases q
      rw [this] at q
      have e : j = i := by simpa using q
      subst e
      refine ⟨y, ?_, p⟩
      rw [List.getElem?_append_right (by rw [← h.len]; omega), ← h.len, this]
      rfl
theorem Giv.all {P : Nat → V → Hp → Prop} {n : Nat} {ys : List V} (h : Giv P H (List.range n) ys) : ys.length = n ∧ ∀ i y, ys[i]? = some y → P i y H := by
  have hl : ys.length = n := by rw [← h.len]; simp
  refine ⟨hl, fun i y q => ?_⟩
  have hi : i < n := by rw [← hl]; exact (List.getElem?_eq_some_iff.mp q).1
  obtain ⟨y', h1, h2⟩ := h.get (k := i) (i := i) (by simp [hi])
  rw [q] at h1
  rw [Option.some.inj h1]; exact h2
theorem Giv.eq {P : Nat → V → Hp → Prop} {g : Nat → V} {is : List Nat} {ys : List V} (h : Giv P H is ys) (k : ∀ i y, P i y H → y = g i) : ys = is.map g := by
  induction h with
  | nil => rfl
  | snoc _ p ih => rw [ih, k _ _ p]; simp
/-- the comprehension's word: D holds what is made so far -/
def Gw (H : Hp) (f : Nat → Bool) (P : Nat → V → Hp → Prop) (D : Addr) (i : Nat) (H' : Hp) : Prop := H D = none ∧ Ex H H' ∧ ∃ ys, H' D = some (.lst ys) ∧ Giv P H' ((List.range i).filter f) ys
theorem gw_start {f : Nat → Bool} {P : Nat → V → Hp → Prop} {D : Addr} (hD : H D = none) : Gw H f P D 0 (upd H D (.lst [])) := ⟨hD, Ex.new hD, [], upd_same, by simpa using Giv.nil⟩
/-- one turn. P may speak of D (not of its content) -/
theorem gw_turn {f : Nat → Bool} {P : Nat → V → Hp → Prop} {D : Addr} {i : Nat} {t : TT} {te : TE} {σ2 : L2.St} (m : ∀ i v H1 xs ys, Ex H H1 → P i v H1 → H1 D = some (.lst xs) → P i v (upd H1 D (.lst ys)))
    (mm : ∀ i, Mono (P i)) (p : Gw H f P D i H') (hi : i < 50000) (ht : EvT t σ2 H (f i)) (he : f i = true → ∀ H1 xs, Ex H H1 → H1 D = some (.lst xs) → EvP te σ2 H1 (P i)) :
    t σ2 H' fun b H3 => if b = true then te σ2 H3 fun y H4 => ∃ acc, H4 D = some (.lst acc) ∧ acc.length < sizeLine ∧ Gw H f P D (i + 1) (upd H4 D (.lst (acc ++ [y]))) else Gw H f P D (i + 1) H3 := by
  obtain ⟨p1, p2, ys, p3, p4⟩ := p
  have hfl : ((List.range i).filter f).length ≤ i := by
    have := List.length_filter_le f (List.range i)
    rwa [List.length_range] at this
  refine ht H' p2 _ fun H3 e3 => ?_
  cases hf : f i with
  | true =>
    rw [if_pos rfl]
    refine he hf H3 ys (p2.trans e3) (e3 D _ p3) H3 (Ex.refl H3) _ fun y H4 e4 py => ⟨ys, e4 D _ (e3 D _ p3), sz_lt (by rw [← p4.len]; omega), p1, Ex.mut ((p2.trans e3).trans e4) p1, _, upd_same, ?_⟩
    rw [List.range_succ, List.filter_append, List.filter_cons, if_pos hf, List.filter_nil]
    have e34 : Ex H' H4 := e3.trans e4
    have hD4 := e4 D _ (e3 D _ p3)
    refine .snoc ?_ (m i y H4 ys _ ((p2.trans e3).trans e4) py hD4)
    have q := Giv.mono mm p4 e34
    have all : ∀ {is zs}, Giv P H4 is zs → Giv P (upd H4 D (.lst (ys ++ [y]))) is zs := fun {is zs} z => by
      induction z with
      | nil => exact .nil
      | snoc _ pz ih => exact .snoc ih (m _ _ H4 ys _ ((p2.trans e3).trans e4) pz hD4)
    exact all q
  | false =>
    rw [if_neg (by decide)]
    refine ⟨p1, p2.trans e3, ys, e3 D _ p3, ?_⟩
    rw [List.range_succ, List.filter_append, List.filter_cons, if_neg (by rw [hf]; decide), List.filter_nil, List.append_nil]
    exact Giv.mono mm p4 e3
/-- what a comprehension gives -/
def LcQ (H1 : Hp) (n : Nat) (f : Nat → Bool) (P : Addr → Nat → V → Hp → Prop) (Q : VK) : Prop := ∀ D ys H2, H1 D = none → Ex H1 H2 → H2 D = some (.lst ys) → Giv (P D) H2 ((List.range n).filter f) ys → Q (.ref D) H2
/-- P stays behind the new list's growth -/
def Stays (H : Hp) (P : Addr → Nat → V → Hp → Prop) : Prop := ∀ D, H D = none → (∀ i, Mono (P D i)) ∧ ∀ i v H1 xs ys, Ex H H1 → P D i v H1 → H1 D = some (.lst xs) → P D i v (upd H1 D (.lst ys))
theorem lcL {a : Addr} {xs : List V} {j : Nat} {vs : List Nat} {t : TT} {te tl : TE} {Q : VK} (f : Nat → Bool) (P : Addr → Nat → V → Hp → Prop) (h : Ev tl σ H (.ref a)) (hx : SqL K H a xs) (hz : xs.length ≤ 40000) (hw : ∀ x, wipe ((wipe σ vs).set j (some x)) vs = wipe σ vs)
    (st : ∀ H1, Ex H H1 → Stays H1 P)
    (ht : ∀ (i : Nat) (x : V) H1, Ex H H1 → xs[i]? = some x → EvT t ((wipe σ vs).set j (some x)) H1 (f i))
    (he : ∀ (i : Nat) (x : V) D H1 zs, Ex H H1 → H1 D = some (.lst zs) → H D = none → xs[i]? = some x → f i = true → EvP te ((wipe σ vs).set j (some x)) H1 (P D i))
    (q : LcQ H xs.length f P Q) : tLc (iList K tl) (gName j) t te vs σ H Q := h H (Ex.refl H) _ fun H1 e1 => ⟨a, rfl, ⟨xs, ex_l e1 hx⟩, fun Dl hD =>
  lc_list (xs := xs) (Gw H1 f (P Dl) Dl) (gw_start hD) (fun i H' _ p => ex_l (e1.trans p.2.1) hx) (fun i x H' hi p => ⟨hw x, gw_turn (fun i v H2 xs ys e2 => ((st H1 e1) Dl hD).2 i v H2 xs ys e2) ((st H1 e1) Dl hD).1 p (by have := (List.getElem?_eq_some_iff.mp hi).1; omega) (ht i x H1 e1 hi)
      (fun hf H2 zs e2 hz => he i x Dl H2 zs (e1.trans e2) hz (fresh_back e1 hD) hi hf)⟩)
    (fun H' ⟨_, p2, ys, p3, p4⟩ => q Dl ys H' (fresh_back e1 hD) (e1.trans p2) p3 p4)⟩
theorem lcT {a : Addr} {xs : List V} {j : Nat} {vs : List Nat} {t : TT} {te tl : TE} {Q : VK} (f : Nat → Bool) (P : Addr → Nat → V → Hp → Prop) (h : Ev tl σ H (.ref a)) (hx : SqT K H a xs) (hz : xs.length ≤ 40000) (hw : ∀ x, wipe ((wipe σ vs).set j (some x)) vs = wipe σ vs)
    (st : ∀ H1, Ex H H1 → Stays H1 P)
    (ht : ∀ (i : Nat) (x : V) H1, Ex H H1 → xs[i]? = some x → EvT t ((wipe σ vs).set j (some x)) H1 (f i))
    (he : ∀ (i : Nat) (x : V) D H1 zs, Ex H H1 → H1 D = some (.lst zs) → H D = none → xs[i]? = some x → f i = true → EvP te ((wipe σ vs).set j (some x)) H1 (P D i))
    (q : LcQ H xs.length f P Q) : tLc (iTup K tl) (gName j) t te vs σ H Q := h H (Ex.refl H) _ fun H1 e1 => ⟨a, rfl, ⟨xs, ex_t e1 hx⟩, fun Dl hD =>
  lc_tup (xs := xs) (Gw H1 f (P Dl) Dl) (gw_start hD) (fun i H' _ p => ex_t (e1.trans p.2.1) hx) (fun i x H' hi p => ⟨hw x, gw_turn (fun i v H2 xs ys e2 => ((st H1 e1) Dl hD).2 i v H2 xs ys e2) ((st H1 e1) Dl hD).1 p (by have := (List.getElem?_eq_some_iff.mp hi).1; omega) (ht i x H1 e1 hi)
      (fun hf H2 zs e2 hz => he i x Dl H2 zs (e1.trans e2) hz (fresh_back e1 hD) hi hf)⟩)
    (fun H' ⟨_, p2, ys, p3, p4⟩ => q Dl ys H' (fresh_back e1 hD) (e1.trans p2) p3 p4)⟩
theorem lcR {ta : TA} {n : Nat} {j : Nat} {vs : List Nat} {t : TT} {te : TE} {Q : VK} (f : Nat → Bool) (P : Addr → Nat → V → Hp → Prop) (h : EvA ta σ H [.int (n : Int)]) (hz : n ≤ 40000) (hw : ∀ x, wipe ((wipe σ vs).set j (some x)) vs = wipe σ vs)
    (st : ∀ H1, Ex H H1 → Stays H1 P)
    (ht : ∀ (i : Nat) H1, Ex H H1 → i < n → EvT t ((wipe σ vs).set j (some (vI i))) H1 (f i))
    (he : ∀ (i : Nat) D H1 zs, Ex H H1 → H1 D = some (.lst zs) → H D = none → i < n → f i = true → EvP te ((wipe σ vs).set j (some (vI i))) H1 (P D i))
    (q : LcQ H n f P Q) : tLc (iRng1 ta) (gName j) t te vs σ H Q := h H (Ex.refl H) _ fun H1 e1 => ⟨(n : Int), rfl, by omega, by omega, fun Dl hD =>
  lc_range (lo := 0) (n := ((n : Int)).toNat) (Gw H1 f (P Dl) Dl) (gw_start hD) (fun i H' hi p => by
      have e0 : (0 : Int) + (i : Int) = (i : Int) := Int.zero_add _
      have hi' : i < n := by simpa using hi
      show wipe ((wipe σ vs).set j (some (.int ((0 : Int) + (i : Int))))) vs = wipe σ vs ∧ t ((wipe σ vs).set j (some (.int ((0 : Int) + (i : Int))))) H' fun b H3 => if b = true then te ((wipe σ vs).set j (some (.int ((0 : Int) + (i : Int))))) H3 fun y H4 => ∃ acc, H4 Dl = some (.lst acc) ∧ acc.length < sizeLine ∧ Gw H1 f (P Dl) Dl (i + 1) (upd H4 Dl (.lst (acc ++ [y]))) else Gw H1 f (P Dl) Dl (i + 1) H3
      rw [e0]
      exact ⟨hw _, gw_turn (fun i v H2 xs ys e2 => ((st H1 e1) Dl hD).2 i v H2 xs ys e2) ((st H1 e1) Dl hD).1 p (by omega) (ht i H1 e1 hi')
        (fun hf H2 zs e2 hz => he i Dl H2 zs (e1.trans e2) hz (fresh_back e1 hD) hi' hf)⟩)
    (fun H' ⟨_, p2, ys, p3, p4⟩ => q Dl ys H' (fresh_back e1 hD) (e1.trans p2) p3 (by simpa using p4))⟩
/-- plain values stay -/
theorem stays_val {g : Nat → V} : Stays H fun _ i v _ => v = g i := fun _ _ => ⟨fun _ _ _ _ _ h => h, fun _ _ _ _ _ _ h _ => h⟩
/-- new tuples stay -/
def IsTupP (g : Nat → List V) : Addr → Nat → V → Hp → Prop := fun _ i v H => ∃ p, v = .ref p ∧ H p = some (.tup (g i))
theorem stays_tup {g : Nat → List V} : Stays H (IsTupP g) := fun D _ => ⟨fun _ _ _ _ e ⟨p, h1, h2⟩ => ⟨p, h1, e _ _ h2⟩, fun i v H1 xs ys _ ⟨p, h1, h2⟩ h3 => ⟨p, h1, by rw [upd_ne (ne_of h2 h3 (by intro z; cases z))]; exact h2⟩⟩
/-- new lists, other than the comprehension's own, stay -/
def IsLstP (g : Nat → List V) : Addr → Nat → V → Hp → Prop := fun D i v H => ∃ p, p ≠ D ∧ v = .ref p ∧ H p = some (.lst (g i))
theorem stays_lst {g : Nat → List V} : Stays H (IsLstP g) := fun D _ => ⟨fun _ _ _ _ e ⟨p, h0, h1, h2⟩ => ⟨p, h0, h1, e _ _ h2⟩, fun i v H1 xs ys _ ⟨p, h0, h1, h2⟩ h3 => ⟨p, h0, h1, by rw [upd_ne h0]; exact h2⟩⟩
theorem et_yes : EvT tYes σ H true := fun H1 _ _ q => q H1 (Ex.refl H1)
theorem filter_all {n : Nat} : (List.range n).filter (fun _ => true) = List.range n := by simp
end
end K15
set_option Elab.async false
set_option linter.all false
set_option maxRecDepth 100000
/-! K15: defs of tables and shapes, one promise each -/
namespace K15
open PySem PySem.Spec PyProof.Rows L2 Evl
section
variable {K : PySem.W.Frag} {σ : L2.St} {H H' : Hp} {ta tb tc : TE}
theorem ev_isi {x : V} {A S : String} {b : Bool} (h : Ev ta σ H x) (ty : ∀ H1, Ex H H1 → TyX K H1 x (.type A)) (k : kitB A S = some b) : Ev (tCB (rIsi K) (tCons ta (tCons (tC (.ty S)) tNil))) σ H (.bl b) := fun H1 e Q q =>
  h H1 e _ fun H2 e2 => ⟨x, .ty S, .type A, .type S, b, rfl, ClsV.ty S, ty H2 (e.trans e2), kit_ty k, q H2 e2⟩
theorem isi_int {i : Int} (h : Ev ta σ H (.int i)) : Ev (tCB (rIsi K) (tCons ta (tCons (tC (.ty "int")) tNil))) σ H (.bl true) := ev_isi h (fun _ _ => .base (.int i)) (by decide +kernel)
theorem isi_int_bool {i : Int} (h : Ev ta σ H (.int i)) : Ev (tCB (rIsi K) (tCons ta (tCons (tC (.ty "bool")) tNil))) σ H (.bl false) := ev_isi h (fun _ _ => .base (.int i)) (by decide +kernel)
theorem isi_int_tup {i : Int} (h : Ev ta σ H (.int i)) : Ev (tCB (rIsi K) (tCons ta (tCons (tC (.ty "tuple")) tNil))) σ H (.bl false) := ev_isi h (fun _ _ => .base (.int i)) (by decide +kernel)
theorem isi_str {x : Str} (h : Ev ta σ H (.str x)) : Ev (tCB (rIsi K) (tCons ta (tCons (tC (.ty "str")) tNil))) σ H (.bl true) := ev_isi h (fun _ _ => .base (.str x)) (by decide +kernel)
theorem isi_tup {a : Addr} {xs : List V} (h : Ev ta σ H (.ref a)) (q : H a = some (.tup xs)) : Ev (tCB (rIsi K) (tCons ta (tCons (tC (.ty "tuple")) tNil))) σ H (.bl true) := ev_isi h (fun _ e => .base (.tup (e _ _ q))) (by decide +kernel)
theorem isi_tup_int {a : Addr} {xs : List V} (h : Ev ta σ H (.ref a)) (q : H a = some (.tup xs)) : Ev (tCB (rIsi K) (tCons ta (tCons (tC (.ty "int")) tNil))) σ H (.bl false) := ev_isi h (fun _ e => .base (.tup (e _ _ q))) (by decide +kernel)
theorem ev_chain {C D : Int → Int → Bool} {i j k : Int} (ha : Ev ta σ H (.int i)) (hb : Ev tb σ H (.int j)) (hc : Ev tc σ H (.int k)) :
    Ev (tChain (rI0 fun i j => .bl (C i j)) (rI0 fun i j => .bl (D i j)) ta tb tc) σ H (.bl (C i j && D j k)) := fun H1 e Q q =>
  ha H1 e _ fun H2 e2 => hb H2 (e.trans e2) _ fun H3 e3 => ⟨i, j, rfl, rfl, C i j, rfl, by
    cases hC : C i j with
    | true =>
      simp only [if_true, Bool.true_and]
      exact hc H3 ((e.trans e2).trans e3) _ fun H4 e4 => ⟨j, k, rfl, rfl, by rw [hC, Bool.true_and] at q; exact q H4 ((e2.trans e3).trans e4)⟩
    | false =>
      simp only [Bool.false_eq_true, if_false, Bool.false_and]
      rw [hC, Bool.false_and] at q
      exact q H3 (e2.trans e3)⟩
variable {D : Ends} {tz : TS}
theorem q_unp3 {te : TE} {i j l : Nat} {t : Addr} {x y z : V} (h : Ev te σ H (.ref t)) (ht : H t = some (.tup [x, y, z])) (k : ∀ H1, Ex H H1 → tz D (((σ.set i (some x)).set j (some y)).set l (some z)) H1) :
    tSeq (tAsg te (gTup K 3 (gCons (gName i) (gCons (gName j) (gCons (gName l) gNil))))) tz D σ H := h H (Ex.refl H) _ fun H1 e1 => ⟨t, _, rfl, st_of (e1 _ _ ht), rfl, _, _, rfl, _, _, rfl, _, _, rfl, rfl, k H1 e1⟩
theorem q_unp4 {te : TE} {i j l m : Nat} {t : Addr} {x y z u : V} (h : Ev te σ H (.ref t)) (ht : H t = some (.tup [x, y, z, u])) (k : ∀ H1, Ex H H1 → tz D ((((σ.set i (some x)).set j (some y)).set l (some z)).set m (some u)) H1) :
    tSeq (tAsg te (gTup K 4 (gCons (gName i) (gCons (gName j) (gCons (gName l) (gCons (gName m) gNil)))))) tz D σ H := h H (Ex.refl H) _ fun H1 e1 => ⟨t, _, rfl, st_of (e1 _ _ ht), rfl, _, _, rfl, _, _, rfl, _, _, rfl, _, _, rfl, rfl, k H1 e1⟩
end
variable {P : Program} {w : World} {K : PySem.W.Frag} {mg : Str → Option Value} {base : Heap} {F : Nat → FuncData}
/-! ### is_gap, is_n -/
def spGap : Sp := fun vs H Q _ => ∃ v t n T a b c, vs = [v, .ref t] ∧ TabAt H v n T ∧ H t = some (.tup [vI a, vI b, vI c]) ∧ a < n ∧ b < n ∧ c < n ∧ RetV (.bl (decide (Gap T a b c))) H Q
theorem sc_is_gap : FnScope ["table", "tasks", "a", "b", "c"] ["table", "tasks"] (defScope s_is_gap) := ⟨rfl, rfl, rfl, by decide +kernel, rfl, by decide +kernel, by decide +kernel⟩
theorem ok_is_gap (T : Tx K w mg F) : FnOk P w K mg base CX0 1 (He.ga K "is_gap") (F 20) ["table", "tasks"] spGap := by
  refine T.d_is_gap.ok sc_is_gap (fun vs H Q E h => ?_) (fun cdv A outer s H vs Q E hr h => ⟨_, PSs.nox (pss_cons (ps_asg (pv 1) (pgT (K := K) rfl rfl (pgs_cons (pg_name (i := 2) sc_is_gap.nd rfl (Or.inl rfl)) (pgs_cons (pg_name (i := 3) sc_is_gap.nd rfl (Or.inl rfl)) (pgs_cons (pg_name (i := 4) sc_is_gap.nd rfl (Or.inl rfl)) pgs_nil)))))
      (pss_one (ps_ret (pe_and (pe_cmpR op_eq (pe_ix (ixT (K := K) rfl) (pe_ix (ixT (K := K) rfl) (pv 0) (pv 2) (fun _ _ => rfl)) (pv 3) (fun _ _ => rfl)) pe_str (nomark _)) (pe_and (pe_cmpR op_eq (pe_ix (ixT (K := K) rfl) (pe_ix (ixT (K := K) rfl) (pv 0) (pv 3) (fun _ _ => rfl)) (pv 4) (fun _ _ => rfl)) pe_str (nomark _)) (pe_one (pe_cmpR op_ne (pe_ix (ixT (K := K) rfl) (pe_ix (ixT (K := K) rfl) (pv 0) (pv 2) (fun _ _ => rfl)) (pv 4) (fun _ _ => rfl)) pe_str (nomark _)))))))), ?_⟩)
  · obtain ⟨v, t, n, T, a, b, c, rfl, _⟩ := h
    rfl
  obtain ⟨v, t, n, T, a, b, c, rfl, hT, ht, ha, hb, hc, q⟩ := h
  refine q_unp3 (ev_var rfl) ht fun H0 e0 => ?_
  have hT := hT.mono e0
  have e : (decide (V.str (tk (T a b)) = V.str "before") && (decide (V.str (tk (T b c)) = V.str "before") && !decide (V.str (tk (T a c)) = V.str "before"))) = decide (Gap T a b c) := by
    rw [dec_before, dec_before, dec_before, Bool.eq_iff_iff, decide_eq_true_iff]
    simp [Gap]
  rw [← e] at q
  refine s_ret (v := .bl _) ?_ (fun H1 e1 => q H1 (e0.trans e1))
  exact ev_andV (ev_eqS (ev_tab hT ha hb (ev_var rfl) (ev_var rfl) (ev_var rfl)) ev_c) fun _ => ev_andV (ev_eqS (ev_tab hT hb hc (ev_var rfl) (ev_var rfl) (ev_var rfl)) ev_c) fun _ => ev_neS (ev_tab hT ha hc (ev_var rfl) (ev_var rfl) (ev_var rfl)) ev_c
def spEnn : Sp := fun vs H Q _ => ∃ v t n T a b c d, vs = [v, .ref t] ∧ TabAt H v n T ∧ H t = some (.tup [vI a, vI b, vI c, vI d]) ∧ a < n ∧ b < n ∧ c < n ∧ d < n ∧ RetV (.bl (decide (Enn T a b c d))) H Q
theorem sc_is_n : FnScope ["table", "tasks", "a", "b", "c", "d"] ["table", "tasks"] (defScope s_is_n) := ⟨rfl, rfl, rfl, by decide +kernel, rfl, by decide +kernel, by decide +kernel⟩
theorem ok_is_n (T : Tx K w mg F) : FnOk P w K mg base CX0 1 (He.ga K "is_n") (F 21) ["table", "tasks"] spEnn := by
  refine T.d_is_n.ok sc_is_n (fun vs H Q E h => ?_) (fun cdv A outer s H vs Q E hr h => ⟨_, PSs.nox (pss_cons (ps_asg (pv 1) (pgT (K := K) rfl rfl (pgs_cons (pg_name (i := 2) sc_is_n.nd rfl (Or.inl rfl)) (pgs_cons (pg_name (i := 3) sc_is_n.nd rfl (Or.inl rfl)) (pgs_cons (pg_name (i := 4) sc_is_n.nd rfl (Or.inl rfl)) (pgs_cons (pg_name (i := 5) sc_is_n.nd rfl (Or.inl rfl)) pgs_nil))))))
      (pss_cons (ps_if (PW.pt (pw_or (pt_cmpR op_ne (pe_ix (ixT (K := K) rfl) (pe_ix (ixT (K := K) rfl) (pv 0) (pv 2) (fun _ _ => rfl)) (pv 4) (fun _ _ => rfl)) pe_str (nomark _)) (pw_or (pt_cmpR op_ne (pe_ix (ixT (K := K) rfl) (pe_ix (ixT (K := K) rfl) (pv 0) (pv 3) (fun _ _ => rfl)) (pv 4) (fun _ _ => rfl)) pe_str (nomark _)) (pw_or1 (pt_cmpR op_ne (pe_ix (ixT (K := K) rfl) (pe_ix (ixT (K := K) rfl) (pv 0) (pv 3) (fun _ _ => rfl)) (pv 5) (fun _ _ => rfl)) pe_str (nomark _)))))) (pss_one (ps_ret pe_bl)) pss_nil)
      (pss_one (ps_ret (pe_and (pe_cmpR op_eq (pe_ix (ixT (K := K) rfl) (pe_ix (ixT (K := K) rfl) (pv 0) (pv 2) (fun _ _ => rfl)) (pv 3) (fun _ _ => rfl)) pe_str (nomark _)) (pe_and (pe_cmpR op_eq (pe_ix (ixT (K := K) rfl) (pe_ix (ixT (K := K) rfl) (pv 0) (pv 4) (fun _ _ => rfl)) (pv 5) (fun _ _ => rfl)) pe_str (nomark _)) (pe_one (pe_cmpR op_eq (pe_ix (ixT (K := K) rfl) (pe_ix (ixT (K := K) rfl) (pv 0) (pv 2) (fun _ _ => rfl)) (pv 5) (fun _ _ => rfl)) pe_str (nomark _))))))))), ?_⟩)
  · obtain ⟨v, t, n, T, a, b, c, d, rfl, _⟩ := h
    rfl
  obtain ⟨v, t, n, T, a, b, c, d, rfl, hT, ht, ha, hb, hc, hd, q⟩ := h
  refine q_unp4 (ev_var rfl) ht fun H0 e0 => ?_
  have hT := hT.mono e0
  refine q_when (b := !decide (V.str (tk (T a c)) = V.str "before") || (!decide (V.str (tk (T b c)) = V.str "before") || !decide (V.str (tk (T b d)) = V.str "before"))) ?_ (fun hx H1 e1 => ?_) (fun hx H1 e1 => ?_)
  · exact et_or (et_test (ev_neS (ev_tab hT ha hc (ev_var rfl) (ev_var rfl) (ev_var rfl)) ev_c)) fun _ => et_or (et_test (ev_neS (ev_tab hT hb hc (ev_var rfl) (ev_var rfl) (ev_var rfl)) ev_c)) fun _ => et_test (ev_neS (ev_tab hT hb hd (ev_var rfl) (ev_var rfl) (ev_var rfl)) ev_c)
  · rw [dec_before, dec_before, dec_before] at hx
    have e : decide (Enn T a b c d) = false := by
      apply decide_eq_false
      rintro ⟨x1, x2, x3, _⟩
      rw [x1, x2, x3] at hx
      simp at hx
    rw [e] at q
    exact s_ret ev_c fun H2 e2 => q H2 ((e0.trans e1).trans e2)
  · rw [dec_before, dec_before, dec_before] at hx
    have hT1 := hT.mono e1
    have e : (decide (V.str (tk (T a b)) = V.str "beside") && (decide (V.str (tk (T c d)) = V.str "beside") && decide (V.str (tk (T a d)) = V.str "beside"))) = decide (Enn T a b c d) := by
      rw [dec_beside, dec_beside, dec_beside, Bool.eq_iff_iff, decide_eq_true_iff]
      simp at hx
      simp [Enn, hx]
    rw [← e] at q
    refine s_ret (v := .bl _) ?_ fun H2 e2 => q H2 ((e0.trans e1).trans e2)
    exact ev_andV (ev_eqS (ev_tab hT1 ha hb (ev_var rfl) (ev_var rfl) (ev_var rfl)) ev_c) fun _ => ev_andV (ev_eqS (ev_tab hT1 hc hd (ev_var rfl) (ev_var rfl) (ev_var rfl)) ev_c) fun _ => ev_eqS (ev_tab hT1 ha hd (ev_var rfl) (ev_var rfl) (ev_var rfl)) ev_c
/-! ### is_integer, opposite -/
def spTrueI : Sp := fun vs H Q _ => ∃ i : Int, vs = [.int i] ∧ RetV (.bl true) H Q
theorem sc_is_integer : FnScope ["value"] ["value"] (defScope s_is_integer) := ⟨rfl, rfl, rfl, by decide +kernel, rfl, by decide +kernel, by decide +kernel⟩
theorem ok_is_integer (T : Tx K w mg F) : FnOk P w K mg base CX0 1 (He.ga K "is_integer") (F 11) ["value"] spTrueI := by
  refine T.d_is_integer.ok sc_is_integer (fun vs H Q E h => ?_) (fun cdv A outer s H vs Q E hr h => ⟨_, PSs.nox (pss_one (ps_ret (pe_and (pe_callB (cIsi (K := K) rfl) (by rfl) T.z_isinstance (by decide +kernel) (pa_cons (pv 0) (pa_cons (pe_bltn (v := .ty "int") (u := .type "int") (by rfl) T.z_int (by decide +kernel) rfl) pa_nil))) (pe_one (pe_not (pe_callB (cIsi (K := K) rfl) (by rfl) T.z_isinstance (by decide +kernel) (pa_cons (pv 0) (pa_cons (pe_bltn (v := .ty "bool") (u := .type "bool") (by rfl) T.z_bool (by decide +kernel) rfl) pa_nil)))))))), ?_⟩)
  · obtain ⟨i, rfl, _⟩ := h
    rfl
  obtain ⟨i, rfl, q⟩ := h
  exact s_ret (ev_andV (isi_int (ev_var rfl)) fun _ => ev_notV (isi_int_bool (ev_var rfl))) q
def spOpp : Sp := fun vs H Q _ => ∃ r : R, vs = [vR r] ∧ RetV (vR r.opp) H Q
theorem opp_dct (T : Tx K w mg F) (r : R) : KDct K w (He.ga K "OPPOSITES") (tk r) (vR r.opp) := by
  obtain ⟨es, n, D⟩ := T.opd
  have v : ∀ q : Str × He.Dv, q ∈ ([("before", .str "after"), ("beside", .str "beside"), ("after", .str "before"), ("same", .str "same")] : List (Str × He.Dv)) → ∃ u, PySem.W.nsIn K (He.ga K "OPPOSITES") q.1 = some (some u) ∧ RelV (q.2.v K) u := fun q hq => He.valsB_ok T.opv hq
  cases r with
  | same => obtain ⟨u, h1, h2⟩ := v ("same", .str "same") (by simp); exact ⟨es, n, u, D.at_, D.lit, h1, h2⟩
  | before => obtain ⟨u, h1, h2⟩ := v ("before", .str "after") (by simp); exact ⟨es, n, u, D.at_, D.lit, h1, h2⟩
  | beside => obtain ⟨u, h1, h2⟩ := v ("beside", .str "beside") (by simp); exact ⟨es, n, u, D.at_, D.lit, h1, h2⟩
  | after => obtain ⟨u, h1, h2⟩ := v ("after", .str "before") (by simp); exact ⟨es, n, u, D.at_, D.lit, h1, h2⟩
theorem sc_opposite : FnScope ["relation"] ["relation"] (defScope s_opposite) := ⟨rfl, rfl, rfl, by decide +kernel, rfl, by decide +kernel, by decide +kernel⟩
theorem ok_opposite (T : Tx K w mg F) : FnOk P w K mg base CX0 1 (He.ga K "opposite") (F 12) ["relation"] spOpp := by
  refine T.d_opposite.ok sc_opposite (fun vs H Q E h => ?_) (fun cdv A outer s H vs Q E hr h => ⟨_, PSs.nox (pss_one (ps_ret (pe_ix (ixKD (K := K) (w := w) rfl rfl) (pe_glob (v := .ref (He.ga K "OPPOSITES")) rfl T.m_OPPOSITES rfl) (pv 0) (fun _ _ => rfl)))), ?_⟩)
  · obtain ⟨i, rfl, _⟩ := h
    rfl
  obtain ⟨r, rfl, q⟩ := h
  exact ⟨_, rfl, _, _, _, rfl, rfl, opp_dct T r, q H (Ex.refl H)⟩
end K15
set_option Elab.async false
set_option linter.all false
set_option maxRecDepth 100000
/-! K15: is_line, fits, check_table -/
namespace K15
open PySem PySem.Spec PyProof.Rows L2 Evl
section
variable {K : PySem.W.Frag} {σ : L2.St} {H H' : Hp} {ta tb tc : TE}
/-- all([..]) where every item is True -/
theorem bls_of {n : Nat} {ys : List V} (g : Giv (fun _ v _ => v = V.bl true) H (List.range n) ys) : ys = (List.replicate n true).map V.bl := by
  rw [g.eq (g := fun _ => V.bl true) (fun _ _ h => h)]
  apply List.ext_getElem
  · simp
  · intro i h1 h2
    simp
theorem r_cb1 {r : List V → Hp → VK → Prop} {te : TE} {D : Ends} (h : te σ H fun x H1 => r [x] H1 D.rt) : tRet (tCB r (tCons te tNil)) D σ H := h
theorem b_cb1 {r : List V → Hp → VK → Prop} {te : TE} {Q : Bool → Hp → Prop} (h : te σ H fun x H1 => r [x] H1 fun y H2 => ∃ c, y = .bl c ∧ Q c H2) : tB (tCB r (tCons te tNil)) σ H Q := h
theorem all_rep (n : Nat) : (List.replicate n true).all id = true := by simp
theorem ev_inK {d : Addr} {x : Str} {v : V} {w : World} (h1 : Ev ta σ H (.str x)) (h2 : Ev tb σ H (.ref d)) (h : KDct K w d x v) : Ev (tOp (rInK K d) ta tb) σ H (.bl true) := by
  obtain ⟨es, n, u, _, _, e, _⟩ := h
  exact ev_op h1 h2 (rv_val fun H1 _ Q q => ⟨x, some u, rfl, rfl, e, q⟩)
end
variable {P : Program} {w : World} {K : PySem.W.Frag} {mg : Str → Option Value} {base : Heap} {F : Nat → FuncData}
def spLine : Sp := fun vs H Q _ => ∃ a n f, vs = [.ref a, vI n] ∧ H a = some (.tup (rowV n f)) ∧ n ≤ 7 ∧ RetV (.bl true) H Q
theorem sc_is_line : FnScope ["value", "size", "entry"] ["value", "size"] (defScope s_is_line) := ⟨rfl, rfl, rfl, by decide +kernel, rfl, by decide +kernel, by decide +kernel⟩
theorem ok_is_line (T : Tx K w mg F) : FnOk P w K mg base CX0 1 (He.ga K "is_line") (F 13) ["value", "size"] spLine := by
  refine T.d_is_line.ok sc_is_line (fun vs H Q E h => ?_) (fun cdv A outer s H vs Q E hr h => ⟨_, PSs.nox (pss_cons (ps_if (PW.pt (pw_or (pt_not (pt_val (pe_callB (cIsi (K := K) rfl) (by rfl) T.z_isinstance (by decide +kernel) (pa_cons (pv 0) (pa_cons (pe_bltn (v := .ty "tuple") (u := .type "tuple") (by rfl) T.z_tuple (by decide +kernel) rfl) pa_nil))))) (pw_or1 (pt_cmpR op_ne (pe_callB (cLen (K := K) rfl) (by rfl) T.z_len (by decide +kernel) (pa_cons (pv 0) pa_nil)) (pv 1) (nomark _))))) (pss_one (ps_ret pe_bl)) pss_nil)
      (pss_one (ps_ret (pe_callB (cAll (K := K) rfl rfl) (by rfl) T.z_all (by decide +kernel) (pa_cons (pe_lc (own := [("entry", 2)]) (g := gName 2) rfl sc_is_line.nd (piT (K := K) rfl (pv 0)) (blkOk_by (by kernel_rfl)) (fun _ _ _ _ _ => pg_name (i := 2) sc_is_line.nd rfl (Or.inl rfl)) (fun _ _ _ _ _ => pts_nil) (fun _ _ _ _ _ => (pe_and (pe_callB (cIsi (K := K) rfl) (by rfl) T.z_isinstance (by decide +kernel) (pa_cons (pv 2) (pa_cons (pe_bltn (v := .ty "str") (u := .type "str") (by rfl) T.z_str (by decide +kernel) rfl) pa_nil))) (pe_one (pe_cmpR (oInK (K := K) (w := w) rfl rfl T.opd) (pv 2) (pe_glob (v := .ref (He.ga K "OPPOSITES")) rfl T.m_OPPOSITES rfl) (by rfl)))))) pa_nil))))), ?_⟩)
  · obtain ⟨a, n, f, rfl, _⟩ := h
    rfl
  obtain ⟨a, n, f, rfl, ha, hn, q⟩ := h
  refine q_when (b := false) ?_ (fun hx => nomatch hx) (fun _ H1 e1 => ?_)
  · refine et_or (a := false) (et_not (a := true) (et_B (isi_tup (ev_var rfl) ha))) fun _ => et_test (ev_is (ev_neI (ev_lenT (ev_var rfl) ha) (ev_var rfl)) ?_)
    rw [dec_int', rowV_len]
    simp
  · refine r_cb1 (lcT (fun _ => true) (fun _ _ v _ => v = V.bl true) (ev_var rfl) (st_of (e1 _ _ ha)) (by rw [rowV_len]; omega) (fun _ => rfl) (fun _ _ => stays_val (g := fun _ => V.bl true)) (fun _ _ _ _ _ => et_yes)
      (fun i x D H2 zs e2 _ _ hx _ => ?_) (fun D ys H2 hD e2 h2 g => ?_))
    · have hi : i < n := by rw [← rowV_len n f]; exact (List.getElem?_eq_some_iff.mp hx).1
      rw [rowV_get f hi] at hx
      cases hx
      exact Ev.p (ev_andV (a := true) (b := true) (isi_str (ev_var rfl)) fun _ => ev_inK (ev_var rfl) ev_c (opp_dct T (f i)))
    · rw [filter_all] at g
      refine ⟨D, _, rfl, sq_of (by rw [h2, bls_of g]), ?_⟩
      rw [all_rep]
      exact q H2 (e1.trans e2)
def spFits : Sp := fun vs H Q _ => ∃ v n T, vs = [v, vI n] ∧ TabAt H v n T ∧ TabOk n T ∧ n ≤ 7 ∧ RetV (.bl true) H Q
theorem sc_fits : FnScope ["value", "size", "line", "x", "y"] ["value", "size"] (defScope s_fits) := ⟨rfl, rfl, rfl, by decide +kernel, rfl, by decide +kernel, by decide +kernel⟩
theorem ok_fits (T : Tx K w mg F) (G_is_line : FnOk P w K mg base CX0 1 (He.ga K "is_line") (F 13) ["value", "size"] spLine) (G_opposite : FnOk P w K mg base CX0 1 (He.ga K "opposite") (F 12) ["relation"] spOpp) : FnOk P w K mg base CX0 2 (He.ga K "fits") (F 14) ["value", "size"] spFits := by
  refine T.d_fits.ok sc_fits (fun vs H Q E h => ?_) (fun cdv A outer s H vs Q E hr h => ⟨_, PSs.nox (pss_cons (ps_if (PW.pt (pw_or (pt_not (pt_val (pe_callB (cIsi (K := K) rfl) (by rfl) T.z_isinstance (by decide +kernel) (pa_cons (pv 0) (pa_cons (pe_bltn (v := .ty "tuple") (u := .type "tuple") (by rfl) T.z_tuple (by decide +kernel) rfl) pa_nil))))) (pw_or (pt_cmpR op_ne (pe_callB (cLen (K := K) rfl) (by rfl) T.z_len (by decide +kernel) (pa_cons (pv 0) pa_nil)) (pv 1) (nomark _)) (pw_or1 (pt_not (pt_val (pe_callB (cAll (K := K) rfl rfl) (by rfl) T.z_all (by decide +kernel) (pa_cons (pe_lc (own := [("line", 2)]) (g := gName 2) rfl sc_fits.nd (piT (K := K) rfl (pv 0)) (blkOk_by (by kernel_rfl)) (fun _ _ _ _ _ => pg_name (i := 2) sc_fits.nd rfl (Or.inl rfl)) (fun _ _ _ _ _ => pts_nil) (fun _ _ _ _ _ => (pe_call G_is_line (hr.mono (by decide)) rfl T.m_is_line T.d_is_line.kp T.b_is_line .nil pass0 (pa_cons (pv 2) (pa_cons (pv 1) pa_nil))))) pa_nil)))))))) (pss_one (ps_ret pe_bl)) pss_nil)
      (pss_cons (ps_for PassesOwn.never rfl (pi_range1 (by rfl) T.z_range (pa_cons (pv 1) pa_nil)) (pg_name (i := 3) sc_fits.nd rfl (Or.inl rfl)) (pss_one (ps_for PassesOwn.never rfl (pi_range1 (by rfl) T.z_range (pa_cons (pv 1) pa_nil)) (pg_name (i := 4) sc_fits.nd rfl (Or.inl rfl)) (pss_one (ps_if (PW.pt (pw_or (pt_cmpR op_ne (pe_cmpR op_eq (pe_ix (ixT (K := K) rfl) (pe_ix (ixT (K := K) rfl) (pv 0) (pv 3) (fun _ _ => rfl)) (pv 4) (fun _ _ => rfl)) pe_str (nomark _)) (pe_cmpR op_eq (pv 3) (pv 4) (nomark _)) (nomark _)) (pw_or1 (pt_cmpR op_ne (pe_ix (ixT (K := K) rfl) (pe_ix (ixT (K := K) rfl) (pv 0) (pv 4) (fun _ _ => rfl)) (pv 3) (fun _ _ => rfl)) (pe_call G_opposite (hr.mono (by decide)) rfl T.m_opposite T.d_opposite.kp T.b_opposite .nil pass0 (pa_cons (pe_ix (ixT (K := K) rfl) (pe_ix (ixT (K := K) rfl) (pv 0) (pv 3) (fun _ _ => rfl)) (pv 4) (fun _ _ => rfl)) pa_nil)) (nomark _))))) (pss_one (ps_ret pe_bl)) pss_nil)))))
      (pss_one (ps_ret pe_bl)))), ?_⟩)
  · obtain ⟨v, n, T, rfl, _⟩ := h
    rfl
  obtain ⟨v, n, T', rfl, hT, hok, hn, q⟩ := h
  obtain ⟨a, rs, rfl, ha, hl, hr'⟩ := id hT
  refine q_when (b := false) (?_) (fun hx => nomatch hx) (fun _ H1 e1 => ?_)
  · refine et_or (a := false) (et_not (a := true) (et_B (isi_tup (ev_var rfl) ha))) fun _ => et_or (a := false) (et_test (ev_is (ev_neI (ev_lenT (ev_var rfl) ha) (ev_var rfl)) ?_)) fun _ => et_not (a := true) (fun H0 e0 Q0 q0 => ?_)
    · rw [dec_int', List.length_map, hl]
      simp
    · refine b_cb1 (lcT (xs := rs.map V.ref) (fun _ => true) (fun _ _ v _ => v = V.bl true) (ev_var rfl) (st_of (e0 _ _ ha)) (by rw [List.length_map, hl]; omega) (fun _ => rfl) (fun _ _ => stays_val (g := fun _ => V.bl true)) (fun _ _ _ _ _ => et_yes)
        (fun i x D H2 zs e2 _ _ hx _ => ?_) (fun D ys H2 hD e2 h2 g => ?_))
      · rw [List.getElem?_map] at hx
        obtain ⟨r, hr1, rfl⟩ := Option.map_eq_some_iff.mp hx
        have hrow := hr' i r hr1
        refine Ev.p (ev_call (vs := [.ref r, vI n]) (ea_cons (ev_var rfl) (ea_cons (ev_var rfl) ea_nil)) fun H3 e3 Q3 q3 E3 => ?_)
        exact ⟨r, n, _, rfl, ((e0.trans e2).trans e3) _ _ hrow, hn, fun H4 e4 => q3 H4 e4⟩
      · rw [filter_all] at g
        refine ⟨D, _, rfl, sq_of (by rw [h2, bls_of g]), ?_⟩
        rw [all_rep]
        exact ⟨true, rfl, q0 H2 e2⟩
  · refine q_forR1 (n := (n : Int)) (ea_cons (ev_var rfl) ea_nil) ⟨by omega, by omega⟩ (fun i σ' H' => (∃ x3 x4, σ' = [some (.ref a), some (vI n), none, x3, x4]) ∧ Ex H H') (fun H2 e2 => ⟨⟨none, none, rfl⟩, e1.trans e2⟩) ?_ (fun σ' H' ⟨⟨x3, x4, hs⟩, e⟩ => ?_)
    · rintro i σ' H2 hi ⟨⟨x3, x4, rfl⟩, e2⟩
      have hi' : i < n := by omega
      refine s_forR1 (n := (n : Int)) (ea_cons (ev_var rfl) ea_nil) ⟨by omega, by omega⟩ (fun j σ' H' => (∃ x4, σ' = [some (.ref a), some (vI n), none, some (vI i), x4]) ∧ Ex H H') (fun H3 e3 => ⟨⟨x4, rfl⟩, e2.trans e3⟩) ?_ (fun σ' H' ⟨⟨y4, hs⟩, e⟩ => ⟨⟨some (vI i), y4, hs⟩, e⟩)
      rintro j σ' H3 hj ⟨⟨y4, rfl⟩, e3⟩
      have hj' : j < n := by omega
      have hT3 := hT.mono e3
      obtain ⟨o1, o2⟩ := hok i j hi' hj'
      refine s_when (b := false) (et_or (a := false) (et_test (ev_is (ev_neB (ev_eqS (ev_tab hT3 hi' hj' (ev_var rfl) (ev_var rfl) (ev_var rfl)) ev_c) (ev_eqI (ev_var rfl) (ev_var rfl))) ?_)) fun _ => et_test (ev_is (ev_neS (ev_tab hT3 hj' hi' (ev_var rfl) (ev_var rfl) (ev_var rfl)) (ev_call (vs := [vR (T' i j)]) (ea_cons (ev_tab hT3 hi' hj' (ev_var rfl) (ev_var rfl) (ev_var rfl)) ea_nil) fun H4 e4 Q4 q4 E4 => ⟨_, rfl, q4⟩)) ?_)) (fun hx => nomatch hx) (fun _ H4 e4 => ⟨⟨_, rfl⟩, e3.trans e4⟩)
      · rw [dec_same, dec_int', dec_bl']
        have : (T' i j = .same) = ((i : Int) = (j : Int)) := propext (by rw [o1]; omega)
        simp [this]
      · rw [o2]
        simp
    · subst hs
      exact s_ret ev_c fun H3 e3 => q H3 (e.trans e3)
def spCheck : Sp := fun vs H Q _ => ∃ v n T, vs = [v] ∧ TabAt H v n T ∧ TabOk n T ∧ 1 ≤ n ∧ n ≤ 7 ∧ RetV .non H Q
theorem sc_check_table : FnScope ["table"] ["table"] (defScope s_check_table) := ⟨rfl, rfl, rfl, by decide +kernel, rfl, by decide +kernel, by decide +kernel⟩
theorem ok_check_table (T : Tx K w mg F) (G_fits : FnOk P w K mg base CX0 2 (He.ga K "fits") (F 14) ["value", "size"] spFits) : FnOk P w K mg base CX0 3 (He.ga K "check_table") (F 15) ["table"] spCheck := by
  refine T.d_check_table.ok sc_check_table (fun vs H Q E h => ?_) (fun cdv A outer s H vs Q E hr h => ⟨_, PSs.nox (pss_one (ps_if (PW.pt (pw_or (pt_not (pt_val (pe_callB (cIsi (K := K) rfl) (by rfl) T.z_isinstance (by decide +kernel) (pa_cons (pv 0) (pa_cons (pe_bltn (v := .ty "tuple") (u := .type "tuple") (by rfl) T.z_tuple (by decide +kernel) rfl) pa_nil))))) (pw_or (pt_not (pt_chain op_le op_le pe_int (pe_callB (cLen (K := K) rfl) (by rfl) T.z_len (by decide +kernel) (pa_cons (pv 0) pa_nil)) (pe_glob (v := .int 7) rfl T.mt.choose_spec ⟨_, rfl⟩))) (pw_or1 (pt_not (pt_val (pe_call G_fits (hr.mono (by decide)) rfl T.m_fits T.d_fits.kp T.b_fits .nil pass0 (pa_cons (pv 0) (pa_cons (pe_callB (cLen (K := K) rfl) (by rfl) T.z_len (by decide +kernel) (pa_cons (pv 0) pa_nil)) pa_nil))))))))) (pss_one ps_never) pss_nil)), ?_⟩)
  · obtain ⟨v, n, T, rfl, _⟩ := h
    rfl
  obtain ⟨v, n, T', rfl, hT, hok, h1, h7, q⟩ := h
  obtain ⟨a, rs, rfl, ha, hl, hr'⟩ := id hT
  have hlen : (((rs.map V.ref).length : Nat) : Int) = (n : Int) := by rw [List.length_map, hl]
  have eln : Ev (tCB (rLen K) (tCons (tVar 0) tNil)) (L2.start ["table"] [.ref a]) H (vI n) := ev_is (ev_lenT (ev_var rfl) ha) (by rw [hlen])
  refine s_when (b := false) ?_ (fun hx => nomatch hx) (fun _ H1 e1 => q H1 e1)
  refine et_or (a := false) (et_not (a := true) (et_B (isi_tup (ev_var rfl) ha))) fun _ => et_or (a := false) (et_not (a := true) (et_is (et_test (ev_chain ev_c eln ev_c)) ?_)) fun _ => et_not (a := true) (et_B (ev_call (vs := [.ref a, vI n]) (ea_cons (ev_var rfl) (ea_cons eln ea_nil)) fun H2 e2 Q2 q2 E2 => ⟨_, n, T', rfl, hT.mono e2, hok, h7, q2⟩))
  simp
  omega
end K15
set_option Elab.async false
set_option linter.all false
set_option maxRecDepth 100000
/-! K15: is_chosen, part, are_different, shows_flaw -/
namespace K15
open PySem PySem.Spec PyProof.Rows L2 Evl
section
variable {K : PySem.W.Frag} {σ : L2.St} {H H' : Hp} {ta tb tc te : TE}
theorem e_cb1 {r : List V → Hp → VK → Prop} {te : TE} {Q : VK} (h : te σ H fun x H1 => r [x] H1 Q) : tCB r (tCons te tNil) σ H Q := h
theorem natsV_at {c : List Nat} {i : Nat} {x : V} (h : (natsV c)[i]? = some x) : i < c.length ∧ x = vI (at_ c i) := by
  have hi : i < c.length := by rw [← natsV_len c]; exact (List.getElem?_eq_some_iff.mp h).1
  refine ⟨hi, ?_⟩
  rw [natsV_get (List.getElem?_eq_getElem hi)] at h
  rw [at_eq hi, Option.some.inj h]
theorem natsV_get' {c : List Nat} {i : Nat} (h : i < c.length) : (natsV c)[i]? = some (vI (at_ c i)) := by rw [natsV_get (List.getElem?_eq_getElem h), at_eq h]
theorem at_mem {c : List Nat} {i : Nat} (h : i < c.length) : at_ c i ∈ c := by
  rw [at_eq h]
  exact List.getElem_mem h
theorem ev_ltI {i j : Int} (h1 : Ev ta σ H (.int i)) (h2 : Ev tb σ H (.int j)) : Ev (tOp (rI0 fun i j => .bl (decide (i < j))) ta tb) σ H (.bl (decide (i < j))) := ev_op h1 h2 rv_I0
theorem ev_addI {i j : Int} (h1 : Ev ta σ H (.int i)) (h2 : Ev tb σ H (.int j)) : Ev (tOp (rI0 fun i j => .int (i + j)) ta tb) σ H (.int (i + j)) := ev_op h1 h2 rv_I0
theorem ev_subI {i j : Int} (h1 : Ev ta σ H (.int i)) (h2 : Ev tb σ H (.int j)) : Ev (tOp (rI0 fun i j => .int (i - j)) ta tb) σ H (.int (i - j)) := ev_op h1 h2 rv_I0
/-- item k of a tuple of numbers -/
theorem ev_ixN {a : Addr} {c : List Nat} {k : Nat} {z : Int} (h1 : Ev ta σ H (.ref a)) (hz : z = (k : Int)) (h2 : Ev tb σ H (.int z)) (ha : H a = some (.tup (natsV c))) (hk : k < c.length) : Ev (tOp (rIxT K) ta tb) σ H (vI (at_ c k)) := by
  subst hz
  exact ev_op h1 h2 (rv_ixT (st_of ha) (atI_nat (natsV_get' hk)))
theorem ev_ixNL {a : Addr} {c : List Nat} {k : Nat} {z : Int} (h1 : Ev ta σ H (.ref a)) (hz : z = (k : Int)) (h2 : Ev tb σ H (.int z)) (ha : H a = some (.lst (natsV c))) (hk : k < c.length) : Ev (tOp (rIxL K) ta tb) σ H (vI (at_ c k)) := by
  subst hz
  exact ev_op h1 h2 (rv_ixL (sq_of ha) (atI_nat (natsV_get' hk)))
theorem ev_ixTV {a : Addr} {xs : List V} {k : Nat} {v : V} {z : Int} (h1 : Ev ta σ H (.ref a)) (hz : z = (k : Int)) (h2 : Ev tb σ H (.int z)) (ha : H a = some (.tup xs)) (hk : xs[k]? = some v) : Ev (tOp (rIxT K) ta tb) σ H v := by
  subst hz
  exact ev_op h1 h2 (rv_ixT (st_of ha) (atI_nat hk))
theorem ev_ixLV {a : Addr} {xs : List V} {k : Nat} {v : V} {z : Int} (h1 : Ev ta σ H (.ref a)) (hz : z = (k : Int)) (h2 : Ev tb σ H (.int z)) (ha : H a = some (.lst xs)) (hk : xs[k]? = some v) : Ev (tOp (rIxL K) ta tb) σ H v := by
  subst hz
  exact ev_op h1 h2 (rv_ixL (sq_of ha) (atI_nat hk))
theorem et_truT {a : Addr} {xs : List V} (h : Ev ta σ H (.ref a)) (ha : H a = some (.tup xs)) : EvT (tTru K ta) σ H (!xs.isEmpty) := fun H1 e Q q =>
  h H1 e _ fun H2 e2 => ⟨_, .inr (.inl ⟨xs, st_of ((e.trans e2) _ _ ha), rfl⟩), q H2 e2⟩
theorem et_truL {a : Addr} {xs : List V} (h : Ev ta σ H (.ref a)) (ha : H a = some (.lst xs)) : EvT (tTru K ta) σ H (!xs.isEmpty) := fun H1 e Q q =>
  h H1 e _ fun H2 e2 => ⟨_, .inl ⟨xs, sq_of ((e.trans e2) _ _ ha), rfl⟩, q H2 e2⟩
end
variable {P : Program} {w : World} {K : PySem.W.Frag} {mg : Str → Option Value} {base : Heap} {F : Nat → FuncData}
def spChosen : Sp := fun vs H Q _ => ∃ ca n c, vs = [.ref ca, vI n] ∧ H ca = some (.tup (natsV c)) ∧ (∀ x ∈ c, x < n) ∧ (∀ i, i + 1 < c.length → at_ c i < at_ c (i + 1)) ∧ c ≠ [] ∧ c.length ≤ 7 ∧ RetV (.bl true) H Q
theorem sc_is_chosen : FnScope ["value", "size", "one", "at"] ["value", "size"] (defScope s_is_chosen) := ⟨rfl, rfl, rfl, by decide +kernel, rfl, by decide +kernel, by decide +kernel⟩
theorem ok_is_chosen (T : Tx K w mg F) (G_is_integer : FnOk P w K mg base CX0 1 (He.ga K "is_integer") (F 11) ["value"] spTrueI) : FnOk P w K mg base CX0 2 (He.ga K "is_chosen") (F 16) ["value", "size"] spChosen := by
  refine T.d_is_chosen.ok sc_is_chosen (fun vs H Q E h => ?_) (fun cdv A outer s H vs Q E hr h => ⟨_, PSs.nox (pss_cons (ps_if (PW.pt (pw_or (pt_not (pt_val (pe_callB (cIsi (K := K) rfl) (by rfl) T.z_isinstance (by decide +kernel) (pa_cons (pv 0) (pa_cons (pe_bltn (v := .ty "tuple") (u := .type "tuple") (by rfl) T.z_tuple (by decide +kernel) rfl) pa_nil))))) (pw_or1 (pt_not (pt_val (pe_callB (cAll (K := K) rfl rfl) (by rfl) T.z_all (by decide +kernel) (pa_cons (pe_lc (own := [("one", 2)]) (g := gName 2) rfl sc_is_chosen.nd (piT (K := K) rfl (pv 0)) (blkOk_by (by kernel_rfl)) (fun _ _ _ _ _ => pg_name (i := 2) sc_is_chosen.nd rfl (Or.inl rfl)) (fun _ _ _ _ _ => pts_nil) (fun _ _ _ _ _ => (pe_and (pe_call G_is_integer (hr.mono (by decide)) rfl T.m_is_integer T.d_is_integer.kp T.b_is_integer .nil pass0 (pa_cons (pv 2) pa_nil)) (pe_one (pe_chain op_le op_lt pe_int (pv 2) (pv 1)))))) pa_nil))))))) (pss_one (ps_ret pe_bl)) pss_nil)
      (pss_one (ps_ret (pe_callB (cAll (K := K) rfl rfl) (by rfl) T.z_all (by decide +kernel) (pa_cons (pe_lc (own := [("at", 3)]) (g := gName 3) rfl sc_is_chosen.nd (pi_range1 (by rfl) T.z_range (pa_cons (pe_op op_sub (pe_callB (cLen (K := K) rfl) (by rfl) T.z_len (by decide +kernel) (pa_cons (pv 0) pa_nil)) pe_int) pa_nil)) (blkOk_by (by kernel_rfl)) (fun _ _ _ _ _ => pg_name (i := 3) sc_is_chosen.nd rfl (Or.inl rfl)) (fun _ _ _ _ _ => pts_nil) (fun _ _ _ _ _ => (pe_cmpR op_lt (pe_ix (ixT (K := K) rfl) (pv 0) (pv 3) (fun _ _ => rfl)) (pe_ix (ixT (K := K) rfl) (pv 0) (pe_op op_add (pv 3) pe_int) (fun _ _ => rfl)) (nomark _)))) pa_nil))))), ?_⟩)
  · obtain ⟨a, n, f, rfl, _⟩ := h
    rfl
  obtain ⟨ca, n, c, rfl, hc, hlt, hasc, hne, h7, q⟩ := h
  have hpos : 0 < c.length := List.length_pos_iff.mpr hne
  refine q_when (b := false) ?_ (fun hx => nomatch hx) (fun _ H1 e1 => ?_)
  · refine et_or (a := false) (et_not (a := true) (et_B (isi_tup (ev_var rfl) hc))) fun _ => et_not (a := true) fun H0 e0 Q0 q0 => ?_
    refine b_cb1 (lcT (fun _ => true) (fun _ _ v _ => v = V.bl true) (ev_var rfl) (st_of (e0 _ _ hc)) (by rw [natsV_len]; omega) (fun _ => rfl) (fun _ _ => stays_val (g := fun _ => V.bl true)) (fun _ _ _ _ _ => et_yes)
      (fun i x D H2 zs e2 _ _ hx _ => ?_) (fun D ys H2 hD e2 h2 g => ?_))
    · obtain ⟨hi, rfl⟩ := natsV_at hx
      have hm := hlt _ (at_mem hi)
      refine Ev.p (ev_is (v := .bl (true && (decide ((0 : Int) ≤ (at_ c i : Nat)) && decide (((at_ c i : Nat) : Int) < n)))) (ev_andV (ev_call (vs := [vI (at_ c i)]) (ea_cons (ev_var rfl) ea_nil) fun H3 e3 Q3 q3 E3 => ⟨_, rfl, fun H4 e4 => q3 H4 e4⟩) fun _ => ev_chain ev_c (ev_var rfl) (ev_var rfl)) ?_)
      have h0 : (0 : Int) ≤ ((at_ c i : Nat) : Int) := Int.natCast_nonneg _
      have h1 : ((at_ c i : Nat) : Int) < (n : Int) := by omega
      rw [decide_eq_true h0, decide_eq_true h1] <;> rfl
    · rw [filter_all] at g
      refine ⟨D, _, rfl, sq_of (by rw [h2, bls_of g]), ?_⟩
      rw [all_rep]
      exact ⟨true, rfl, q0 H2 e2⟩
  · have hc1 := e1 _ _ hc
    refine r_cb1 (lcR (n := c.length - 1) (fun _ => true) (fun _ _ v _ => v = V.bl true) (ea_cons (ev_is (ev_subI (ev_lenT (ev_var rfl) hc1) ev_c) ?_) ea_nil) (by omega) (fun _ => rfl) (fun _ _ => stays_val (g := fun _ => V.bl true)) (fun _ _ _ _ => et_yes)
      (fun i D H2 zs e2 _ _ hi _ => ?_) (fun D ys H2 hD e2 h2 g => ?_))
    · rw [natsV_len]
      congr 1
      omega
    · have hc2 := e2 _ _ hc1
      refine Ev.p (ev_is (ev_ltI (ev_ixN (ev_var rfl) rfl (ev_var rfl) hc2 (by omega)) (ev_ixN (k := i + 1) (ev_var rfl) (by omega) (ev_addI (ev_var rfl) ev_c) hc2 (by omega))) ?_)
      have := hasc i (by omega)
      rw [decide_eq_true (by omega)]
    · rw [filter_all] at g
      refine ⟨D, _, rfl, sq_of (by rw [h2, bls_of g]), ?_⟩
      rw [all_rep]
      exact q H2 (e1.trans e2)
def spPartIn : Sp := fun vs H Q _ => ∃ v ca n T c, vs = [v, .ref ca] ∧ TabAt H v n T ∧ H ca = some (.tup (natsV c)) ∧ (∀ x ∈ c, x < n) ∧ c.length ≤ 7 ∧ ∀ r H', Ex H H' → TabAt H' r c.length (partT T c) → Q r H'
theorem sc_part_in : FnScope ["table", "chosen", "x", "y"] ["table", "chosen"] (defScope s_part_in) := ⟨rfl, rfl, rfl, by decide +kernel, rfl, by decide +kernel, by decide +kernel⟩
def refOf : V → Addr
  | .ref a => a
  | _ => 0
theorem tab_of {H : Hp} {m : Nat} {T : Tb} {l : Addr} {ys : List V} (hl : H l = some (.tup ys)) (g : Giv (IsTupP (fun i => rowV m (T i)) 0) H (List.range m) ys) : TabAt H (.ref l) m T := by
  obtain ⟨hlen, hg⟩ := g.all
  have key : ∀ i, i < m → ∃ p, ys[i]? = some (.ref p) ∧ H p = some (.tup (rowV m (T i))) := fun i hi => by
    have h1 : ys[i]? = some ys[i] := List.getElem?_eq_getElem (by omega)
    obtain ⟨p, e, hp⟩ := hg i _ h1
    exact ⟨p, by rw [h1, e], hp⟩
  have hrs : ∃ rs : List Addr, ys = rs.map V.ref ∧ rs.length = m := by
    refine ⟨ys.map refOf, ?_, by simp [hlen]⟩
    rw [List.map_map]
    apply List.ext_getElem?
    intro i
    rw [List.getElem?_map]
    by_cases hi : i < m
    · obtain ⟨p, e, _⟩ := key i hi
      rw [e] <;> rfl
    · rw [List.getElem?_eq_none (by omega)] <;> rfl
  obtain ⟨rs, rfl, hrl⟩ := hrs
  refine ⟨l, rs, rfl, hl, hrl, fun i r hi => ?_⟩
  have hlt : i < m := by rw [← hrl]; exact (List.getElem?_eq_some_iff.mp hi).1
  obtain ⟨p, e, hp⟩ := key i hlt
  rw [List.getElem?_map, hi] at e
  have : r = p := by simpa using e
  rw [this]; exact hp
theorem giv_mono0 {H : Hp} {g : Nat → List V} {D D' : Addr} {is : List Nat} {ys : List V} (h : Giv (IsTupP g D) H is ys) : Giv (IsTupP g D') H is ys := h
/-- behind tuple(..) of a list -/
theorem giv_upd {H : Hp} {g : Nat → List V} {D : Addr} {l : Addr} {o : HO} {is : List Nat} {ys : List V} (h : Giv (IsTupP g D) H is ys) (hl : H l = none) : Giv (IsTupP g D) (upd H l o) is ys :=
  Giv.mono (P := IsTupP g D) (fun i => ((stays_tup (H := fun _ => none) (g := g)) D rfl).1 i) h (Ex.new hl)
theorem ok_part_in (T : Tx K w mg F) : FnOk P w K mg base CX0 1 (He.ga K "part_in") (F 17) ["table", "chosen"] spPartIn := by
  refine T.d_part_in.ok sc_part_in (fun vs H Q E h => ?_) (fun cdv A outer s H vs Q E hr h => ⟨_, PSs.nox (pss_one (ps_ret (pe_callTy (cTupOf (K := K) rfl) (by rfl) T.z_tuple (by decide +kernel) (pa_cons (pe_lc (own := [("x", 2)]) (g := gName 2) rfl sc_part_in.nd (piT (K := K) rfl (pv 1)) (blkOk_by (by kernel_rfl)) (fun _ _ _ _ _ => pg_name (i := 2) sc_part_in.nd rfl (Or.inr rfl)) (fun _ _ _ _ _ => pts_nil) (fun _ _ _ _ _ => (pe_callTy (cTupOf (K := K) rfl) (by rfl) T.z_tuple (by decide +kernel) (pa_cons (pe_lc (own := [("y", 3)]) (g := gName 3) rfl sc_part_in.nd (piT (K := K) rfl (pv 1)) (blkOk_by (by kernel_rfl)) (fun _ _ _ _ _ => pg_name (i := 3) sc_part_in.nd rfl (Or.inl rfl)) (fun _ _ _ _ _ => pts_nil) (fun _ _ _ _ _ => (pe_ix (ixT (K := K) rfl) (pe_ix (ixT (K := K) rfl) (pv 0) (pv 2) (fun _ _ => rfl)) (pv 3) (fun _ _ => rfl)))) pa_nil)))) pa_nil)))), ?_⟩)
  · obtain ⟨v, ca, n, T, c, rfl, _⟩ := h
    rfl
  obtain ⟨v, ca, n, T', c, rfl, hT, hc, hlt, h7, q⟩ := h
  refine r_cb1 (lcT (fun _ => true) (IsTupP fun i => rowV c.length (partT T' c i)) (ev_var rfl) (st_of hc) (by rw [natsV_len]; omega) (fun _ => rfl) (fun _ _ => stays_tup) (fun _ _ _ _ _ => et_yes)
    (fun i x D H2 zs e2 _ _ hx _ H3 e3 Q3 q3 => ?_) (fun D ys H2 hD e2 h2 g => ?_))
  · obtain ⟨hi, rfl⟩ := natsV_at hx
    refine e_cb1 (lcT (fun _ => true) (fun _ j v _ => v = vR (T' (at_ c i) (at_ c j))) (ev_var rfl) (st_of ((e2.trans e3) _ _ hc)) (by rw [natsV_len]; omega) (fun _ => rfl) (fun _ _ => stays_val (g := fun j => vR (T' (at_ c i) (at_ c j)))) (fun _ _ _ _ _ => et_yes)
      (fun j y D2 H4 zs4 e4 _ _ hy _ => ?_) (fun D2 ys2 H4 hD2 e4 h4 g4 => ?_))
    · obtain ⟨hj, rfl⟩ := natsV_at hy
      exact Ev.p (ev_tab (hT.mono ((e2.trans e3).trans e4)) (hlt _ (at_mem hi)) (hlt _ (at_mem hj)) (ev_var rfl) (ev_var rfl) (ev_var rfl))
    · rw [natsV_len, filter_all] at g4
      have e : ys2 = rowV c.length (partT T' c i) := g4.eq (fun _ _ h => h)
      subst e
      exact ⟨D2, _, rfl, .inl ⟨sq_of h4, fun l hl => q3 _ _ (e4.trans (Ex.new hl)) ⟨l, rfl, upd_same⟩⟩⟩
  · rw [natsV_len, filter_all] at g
    refine ⟨D, _, rfl, .inl ⟨sq_of h2, fun l hl => q _ _ (e2.trans (Ex.new hl)) (tab_of upd_same (giv_upd g hl))⟩⟩
def spPart : Sp := fun vs H Q _ => ∃ v ca n T c m, vs = [v, .ref ca] ∧ TabAt H v n T ∧ TabOk n T ∧ 1 ≤ n ∧ n ≤ 7 ∧ H ca = some (.tup (natsV c)) ∧ Chosen n m c ∧ 1 ≤ m ∧ m ≤ 7 ∧ ∀ r H', Ex H H' → TabAt H' r m (partT T c) → Q r H'
theorem sc_part : FnScope ["table", "chosen"] ["table", "chosen"] (defScope s_part) := ⟨rfl, rfl, rfl, by decide +kernel, rfl, by decide +kernel, by decide +kernel⟩
theorem ok_part (T : Tx K w mg F) (G_check_table : FnOk P w K mg base CX0 3 (He.ga K "check_table") (F 15) ["table"] spCheck) (G_is_chosen : FnOk P w K mg base CX0 2 (He.ga K "is_chosen") (F 16) ["value", "size"] spChosen) (G_part_in : FnOk P w K mg base CX0 1 (He.ga K "part_in") (F 17) ["table", "chosen"] spPartIn) : FnOk P w K mg base CX0 4 (He.ga K "part") (F 18) ["table", "chosen"] spPart := by
  refine T.d_part.ok sc_part (fun vs H Q E h => ?_) (fun cdv A outer s H vs Q E hr h => ⟨_, PSs.nox (pss_cons (ps_expr (pe_call G_check_table (hr.mono (by decide)) rfl T.m_check_table T.d_check_table.kp T.b_check_table .nil pass0 (pa_cons (pv 0) pa_nil)))
      (pss_cons (ps_if (PW.pt (pw_or (pt_not (pt_val (pe_call G_is_chosen (hr.mono (by decide)) rfl T.m_is_chosen T.d_is_chosen.kp T.b_is_chosen .nil pass0 (pa_cons (pv 1) (pa_cons (pe_callB (cLen (K := K) rfl) (by rfl) T.z_len (by decide +kernel) (pa_cons (pv 0) pa_nil)) pa_nil))))) (pw_or1 (pt_not (ptTru (K := K) rfl (pv 1) (by intro _; rfl)))))) (pss_one ps_never) pss_nil)
      (pss_one (ps_ret (pe_call G_part_in (hr.mono (by decide)) rfl T.m_part_in T.d_part_in.kp T.b_part_in .nil pass0 (pa_cons (pv 0) (pa_cons (pv 1) pa_nil))))))), ?_⟩)
  · obtain ⟨v, ca, n, T, c, m, rfl, _⟩ := h
    rfl
  obtain ⟨v, ca, n, T', c, m, rfl, hT, hok, h1, h7, hc, ch, hm1, hm7, q⟩ := h
  have hl := ch.len
  have hne : c ≠ [] := by
    rintro rfl
    simp at hl
    omega
  obtain ⟨a, rs, rfl, ha, hrl, _⟩ := id hT
  refine q_drop (v := .non) (ev_call (vs := [.ref a]) (ea_cons (ev_var rfl) ea_nil) fun H1 e1 Q1 q1 E1 => ⟨_, n, T', rfl, hT.mono e1, hok, h1, h7, fun H2 e2 => q1 H2 e2⟩) fun H1 e1 => ?_
  have hc1 := e1 _ _ hc
  refine q_when (b := false) ?_ (fun hx => nomatch hx) (fun _ H2 e2 => ?_)
  · refine et_or (a := false) (et_not (a := true) (et_B (ev_call (vs := [.ref ca, vI n]) (ea_cons (ev_var rfl) (ea_cons (ev_is (ev_lenT (ev_var rfl) (e1 _ _ ha)) (by rw [List.length_map, hrl])) ea_nil)) fun H2 e2 Q2 q2 E2 => ⟨ca, n, c, rfl, e2 _ _ hc1, ch.lt, fun i hi => ch.asc i (by omega), hne, by omega, fun H3 e3 => q2 H3 e3⟩))) fun _ => et_not (a := true) (et_is (et_truT (ev_var rfl) hc1) ?_)
    cases c with
    | nil => exact absurd rfl hne
    | cons x r => rfl
  · refine ⟨_, rfl, _, rfl, _, ca, n, T', c, rfl, hT.mono (e1.trans e2), e2 _ _ hc1, ch.lt, by omega, fun r H3 e3 h3 => q r H3 ((e1.trans e2).trans e3) ?_⟩
    rw [← hl]; exact h3
end K15
set_option Elab.async false
set_option linter.all false
set_option maxRecDepth 100000
/-! K15: are_different, shows_flaw -/
namespace K15
open PySem PySem.Spec PyProof.Rows L2 Evl
section
variable {K : PySem.W.Frag} {σ : L2.St} {H H' : Hp} {ta tb tc te : TE}
theorem r_op {r : R2} {D : Ends} (h : ta σ H fun x H1 => tb σ H1 fun y H2 => r x y H2 D.rt) : tRet (tOp r ta tb) D σ H := h
theorem cut_tail (x : V) (l : List V) : cutV (x :: l) (some 1) none = l := by
  unfold cutV
  have e : HT.sIx (x :: l).length 0 (some 1) = 1 := by
    have := HT.sIx_nat (x :: l).length 0 1
    rw [List.length_cons] at this ⊢
    rw [show (some (1 : Int)) = some (((1 : Nat) : Int)) from rfl, this]
    omega
  rw [e, HT.sIx_none, List.drop_one, List.tail_cons]
  apply List.take_of_length_le
  simp
/-- t[1:] of a tuple with more than nothing: a new one -/
theorem eu_tail {a : Addr} {x : V} {l : List V} (h : Ev te σ H (.ref a)) (ha : H a = some (.tup (x :: l))) : EvU (tSl (rSlA K) te (tPart (tC (.int 1))) tNoPart) σ H l := fun H1 e Q q =>
  h H1 e _ fun H2 e2 => ⟨1, rfl, a, x :: l, rfl, st_of ((e.trans e2) _ _ ha), fun z => by
    have e1 : HT.sIx (x :: l).length 0 (some 1) = 1 := by
      have := HT.sIx_nat (x :: l).length 0 1
      rw [List.length_cons] at this ⊢
      rw [show (some (1 : Int)) = some (((1 : Nat) : Int)) from rfl, this]
      omega
    rw [e1] at z
    exact absurd z.1 (by decide), fun _ p hp => by
    rw [cut_tail]
    exact q p _ (fresh_back e2 hp) (e2.trans (Ex.new hp)) upd_same⟩
theorem keys_new {c : List Nat} (nd : c.Nodup) {i : Nat} (hi : i < c.length) : putK ((c.take i).map fun k : Nat => ((Sum.inl (k : Int) : Key), V.bl true)) (Sum.inl ((at_ c i : Nat) : Int)) (V.bl true) = (c.take (i + 1)).map fun k : Nat => ((Sum.inl (k : Int) : Key), V.bl true) := by
  have hn : ¬ ((((c.take i).map fun k : Nat => ((Sum.inl (k : Int) : Key), V.bl true)).any fun kv => decide (kv.1 = Sum.inl ((at_ c i : Nat) : Int))) = true) := by
    intro h
    obtain ⟨p, hp, e⟩ := List.any_eq_true.mp h
    obtain ⟨k, hk, rfl⟩ := List.mem_map.mp hp
    have e1 : (Sum.inl (k : Int) : Key) = Sum.inl ((at_ c i : Nat) : Int) := of_decide_eq_true e
    have e2 : (k : Int) = ((at_ c i : Nat) : Int) := Sum.inl.inj e1
    have e3 : k = at_ c i := by omega
    rw [at_eq hi] at e3
    rw [List.mem_take_iff_getElem] at hk
    obtain ⟨j, hj, e4⟩ := hk
    have : j = i := (List.getElem_inj nd).mp (e4.trans e3)
    omega
  unfold putK
  rw [if_neg hn, List.take_succ_eq_append_getElem hi, List.map_append, at_eq hi]
  rfl
/-- {one: True for one in value}, the numbers different -/
theorem dcT {a : Addr} {c : List Nat} {j : Nat} {tl : TE} {vs : List Nat} {tk tv : TE} {Q : VK} (nd : c.Nodup) (h : Ev tl σ H (.ref a)) (ha : H a = some (.tup (natsV c))) (hz : c.length ≤ 40000) (hw : ∀ x, wipe ((wipe σ vs).set j (some x)) vs = wipe σ vs)
    (hk : ∀ (x : V) H1, Ev tk ((wipe σ vs).set j (some x)) H1 x) (hv : ∀ (x : V) H1, Ev tv ((wipe σ vs).set j (some x)) H1 (.bl true))
    (q : ∀ D H2, H D = none → Ex H H2 → H2 D = some (.dK (c.map fun k : Nat => ((Sum.inl (k : Int) : Key), V.bl true))) → Q (.ref D) H2) : tDc (iTup K tl) (gName j) tYes tk tv vs σ H Q := h H (Ex.refl H) _ fun H1 e1 => ⟨a, rfl, ⟨_, st_of (e1 _ _ ha)⟩, fun Dl hD =>
  dc_tup (xs := natsV c) (fun i H' => Ex H1 H' ∧ H' Dl = some (.dK ((c.take i).map fun k : Nat => ((Sum.inl (k : Int) : Key), V.bl true)))) ⟨Ex.new hD, upd_same⟩ (fun i H' _ p => st_of ((e1.trans p.1) _ _ ha)) (fun i x H' hi p => by
      obtain ⟨hi2, rfl⟩ := natsV_at hi
      refine ⟨hw _, ?_⟩
      refine et_yes (H := H') H' (Ex.refl _) _ fun H2 e2 => ?_
      rw [if_pos rfl]
      refine hk _ H2 H2 (Ex.refl _) _ fun H3 e3 => hv _ H3 H3 (Ex.refl _) _ fun H4 e4 => ⟨_, Sum.inl ((at_ c i : Nat) : Int), rfl, e4 _ _ (e3 _ _ (e2 _ _ p.2)), sz_lt (by rw [List.length_map, List.length_take]; omega), Ex.mut (((p.1.trans e2).trans e3).trans e4) hD, ?_⟩
      rw [keys_new nd hi2]
      exact upd_same)
    (fun H' p => q Dl H' (fresh_back e1 hD) (e1.trans p.1) (by
      have := p.2
      rw [natsV_len, List.take_length] at this
      exact this))⟩
end
variable {P : Program} {w : World} {K : PySem.W.Frag} {mg : Str → Option Value} {base : Heap} {F : Nat → FuncData}
def spDiff : Sp := fun vs H Q _ => ∃ a n c, vs = [.ref a, vI n] ∧ H a = some (.tup (natsV c)) ∧ (∀ x ∈ c, x < n) ∧ c.Nodup ∧ c.length ≤ 7 ∧ RetV (.bl true) H Q
theorem sc_are_different : FnScope ["value", "size", "one"] ["value", "size"] (defScope s_are_different) := ⟨rfl, rfl, rfl, by decide +kernel, rfl, by decide +kernel, by decide +kernel⟩
theorem ok_are_different (T : Tx K w mg F) (G_is_integer : FnOk P w K mg base CX0 1 (He.ga K "is_integer") (F 11) ["value"] spTrueI) : FnOk P w K mg base CX0 2 (He.ga K "are_different") (F 24) ["value", "size"] spDiff := by
  refine T.d_are_different.ok sc_are_different (fun vs H Q E h => ?_) (fun cdv A outer s H vs Q E hr h => ⟨_, PSs.nox (pss_cons (ps_if (pt_not (pt_val (pe_callB (cAll (K := K) rfl rfl) (by rfl) T.z_all (by decide +kernel) (pa_cons (pe_lc (own := [("one", 2)]) (g := gName 2) rfl sc_are_different.nd (piT (K := K) rfl (pv 0)) (blkOk_by (by kernel_rfl)) (fun _ _ _ _ _ => pg_name (i := 2) sc_are_different.nd rfl (Or.inl rfl)) (fun _ _ _ _ _ => pts_nil) (fun _ _ _ _ _ => (pe_and (pe_call G_is_integer (hr.mono (by decide)) rfl T.m_is_integer T.d_is_integer.kp T.b_is_integer .nil pass0 (pa_cons (pv 2) pa_nil)) (pe_one (pe_chain op_le op_lt pe_int (pv 2) (pv 1)))))) pa_nil)))) (pss_one (ps_ret pe_bl)) pss_nil)
      (pss_one (ps_ret (pe_cmpR op_eq (pe_callB call_lenD (by rfl) T.z_len (by decide +kernel) (pa_cons (pe_dc (own := [("one", 2)]) (g := gName 2) rfl sc_are_different.nd (piT (K := K) rfl (pv 0)) (blkOk_by (by kernel_rfl)) (fun _ _ _ _ _ => pg_name (i := 2) sc_are_different.nd rfl (Or.inl rfl)) (fun _ _ _ _ _ => pts_nil) (fun _ _ _ _ _ => (pv 2)) (fun _ _ _ _ _ => pe_bl)) pa_nil)) (pe_callB (cLen (K := K) rfl) (by rfl) T.z_len (by decide +kernel) (pa_cons (pv 0) pa_nil)) (nomark _))))), ?_⟩)
  · obtain ⟨a, n, f, rfl, _⟩ := h
    rfl
  obtain ⟨ca, n, c, rfl, hc, hlt, hnd, h7, q⟩ := h
  refine q_when (b := false) ?_ (fun hx => nomatch hx) (fun _ H1 e1 => ?_)
  · refine et_not (a := true) fun H0 e0 Q0 q0 => ?_
    refine b_cb1 (lcT (fun _ => true) (fun _ _ v _ => v = V.bl true) (ev_var rfl) (st_of (e0 _ _ hc)) (by rw [natsV_len]; omega) (fun _ => rfl) (fun _ _ => stays_val (g := fun _ => V.bl true)) (fun _ _ _ _ _ => et_yes)
      (fun i x D H2 zs e2 _ _ hx _ => ?_) (fun D ys H2 hD e2 h2 g => ?_))
    · obtain ⟨hi, rfl⟩ := natsV_at hx
      have hm := hlt _ (at_mem hi)
      refine Ev.p (ev_is (v := .bl (true && (decide ((0 : Int) ≤ (at_ c i : Nat)) && decide (((at_ c i : Nat) : Int) < n)))) (ev_andV (ev_call (vs := [vI (at_ c i)]) (ea_cons (ev_var rfl) ea_nil) fun H3 e3 Q3 q3 E3 => ⟨_, rfl, fun H4 e4 => q3 H4 e4⟩) fun _ => ev_chain ev_c (ev_var rfl) (ev_var rfl)) ?_)
      have h0 : (0 : Int) ≤ ((at_ c i : Nat) : Int) := Int.natCast_nonneg _
      have h1 : ((at_ c i : Nat) : Int) < (n : Int) := by omega
      rw [decide_eq_true h0, decide_eq_true h1] <;> rfl
    · rw [filter_all] at g
      refine ⟨D, _, rfl, sq_of (by rw [h2, bls_of g]), ?_⟩
      rw [all_rep]
      exact ⟨true, rfl, q0 H2 e2⟩
  · refine r_op (e_cb1 (dcT hnd (ev_var rfl) (e1 _ _ hc) (by omega) (fun _ => rfl) (fun x H1 => ev_var rfl) (fun x H1 => ev_c) fun D H2 hD e2 h2 => ⟨D, _, rfl, h2, ?_⟩))
    refine ev_lenT (K := K) (H := H2) (ev_var rfl) ((e1.trans e2) _ _ hc) H2 (Ex.refl _) _ fun H3 e3 => ⟨rfl, ?_⟩
    have e9 : decide (V.int ((c.map fun k : Nat => ((Sum.inl (k : Int) : Key), V.bl true)).length : Nat) = V.int ((natsV c).length : Nat)) = true := decide_eq_true (by rw [natsV_len, List.length_map])
    rw [e9]
    exact q H3 ((e1.trans e2).trans e3)
/-! ### shows_flaw -/
def kS (k : Bool) : Str := if k then "gap" else "N"
def flawV (k : Bool) (c : List Nat) : List V := V.str (kS k) :: natsV c
def FlawIs (n : Nat) (T : Tb) (k : Bool) (c : List Nat) : Prop := c.Nodup ∧ (∀ x ∈ c, x < n) ∧ match k with
  | true => ∃ a b d, c = [a, b, d] ∧ Gap T a b d
  | false => ∃ a b d e, c = [a, b, d, e] ∧ Enn T a b d e
theorem FlawIs.len {n : Nat} {T : Tb} {k : Bool} {c : List Nat} (h : FlawIs n T k c) : c.length = if k then 3 else 4 := by
  obtain ⟨_, _, h⟩ := h
  cases k with
  | true => obtain ⟨a, b, d, rfl, _⟩ := h; rfl
  | false => obtain ⟨a, b, d, e, rfl, _⟩ := h; rfl
theorem FlawIs.no {n : Nat} {T : Tb} {k : Bool} {c : List Nat} (h : FlawIs n T k c) : ¬ NoFlaw n T := fun nf => by
  obtain ⟨nd, lt, h⟩ := h
  cases k with
  | true =>
    obtain ⟨a, b, d, rfl, g⟩ := h
    exact nf.gap a b d (lt a (by simp)) (lt b (by simp)) (lt d (by simp)) nd g
  | false =>
    obtain ⟨a, b, d, e, rfl, g⟩ := h
    exact nf.enn a b d e (lt a (by simp)) (lt b (by simp)) (lt d (by simp)) (lt e (by simp)) nd g
def spShows : Sp := fun vs H Q _ => ∃ v t n T k c, vs = [v, .ref t] ∧ TabAt H v n T ∧ TabOk n T ∧ 1 ≤ n ∧ n ≤ 7 ∧ H t = some (.tup (flawV k c)) ∧ FlawIs n T k c ∧ RetV (.bl true) H Q
theorem sc_shows_flaw : FnScope ["table", "value"] ["table", "value"] (defScope s_shows_flaw) := ⟨rfl, rfl, rfl, by decide +kernel, rfl, by decide +kernel, by decide +kernel⟩
theorem ok_shows_flaw (T : Tx K w mg F) (G_check_table : FnOk P w K mg base CX0 3 (He.ga K "check_table") (F 15) ["table"] spCheck) (G_are_different : FnOk P w K mg base CX0 2 (He.ga K "are_different") (F 24) ["value", "size"] spDiff) (G_is_gap : FnOk P w K mg base CX0 1 (He.ga K "is_gap") (F 20) ["table", "tasks"] spGap) (G_is_n : FnOk P w K mg base CX0 1 (He.ga K "is_n") (F 21) ["table", "tasks"] spEnn) : FnOk P w K mg base CX0 4 (He.ga K "shows_flaw") (F 25) ["table", "value"] spShows := by
  refine T.d_shows_flaw.ok sc_shows_flaw (fun vs H Q E h => ?_) (fun cdv A outer s H vs Q E hr h => ⟨_, PSs.nox (pss_cons (ps_expr (pe_call G_check_table (hr.mono (by decide)) rfl T.m_check_table T.d_check_table.kp T.b_check_table .nil pass0 (pa_cons (pv 0) pa_nil)))
      (pss_cons (ps_if (PW.pt (pw_or (pt_not (pt_val (pe_callB (cIsi (K := K) rfl) (by rfl) T.z_isinstance (by decide +kernel) (pa_cons (pv 1) (pa_cons (pe_bltn (v := .ty "tuple") (u := .type "tuple") (by rfl) T.z_tuple (by decide +kernel) rfl) pa_nil))))) (pw_or (pt_not (ptTru (K := K) rfl (pv 1) (by intro _; rfl))) (pw_or1 (pt_not (pt_val (pe_callB (cIsi (K := K) rfl) (by rfl) T.z_isinstance (by decide +kernel) (pa_cons (pe_ix (ixT (K := K) rfl) (pv 1) pe_int (fun _ _ => rfl)) (pa_cons (pe_bltn (v := .ty "str") (u := .type "str") (by rfl) T.z_str (by decide +kernel) rfl) pa_nil))))))))) (pss_one (ps_ret pe_bl)) pss_nil)
      (pss_cons (ps_if (pt_not (pt_val (pe_call G_are_different (hr.mono (by decide)) rfl T.m_are_different T.d_are_different.kp T.b_are_different .nil pass0 (pa_cons (pe_slice (slTA (K := K) rfl) (pv 1) (po_some pe_int) po_none) (pa_cons (pe_callB (cLen (K := K) rfl) (by rfl) T.z_len (by decide +kernel) (pa_cons (pv 0) pa_nil)) pa_nil))))) (pss_one (ps_ret pe_bl)) pss_nil)
      (pss_cons (ps_if (PW.pt (pw_and (pt_cmpR op_eq (pe_ix (ixT (K := K) rfl) (pv 1) pe_int (fun _ _ => rfl)) pe_str (nomark _)) (pw_and1 (pt_cmpR op_eq (pe_callB (cLen (K := K) rfl) (by rfl) T.z_len (by decide +kernel) (pa_cons (pv 1) pa_nil)) pe_int (nomark _))))) (pss_one (ps_ret (pe_call G_is_gap (hr.mono (by decide)) rfl T.m_is_gap T.d_is_gap.kp T.b_is_gap .nil pass0 (pa_cons (pv 0) (pa_cons (pe_slice (slTA (K := K) rfl) (pv 1) (po_some pe_int) po_none) pa_nil))))) pss_nil)
      (pss_one (ps_ret (pe_and (pe_cmpR op_eq (pe_ix (ixT (K := K) rfl) (pv 1) pe_int (fun _ _ => rfl)) pe_str (nomark _)) (pe_and (pe_cmpR op_eq (pe_callB (cLen (K := K) rfl) (by rfl) T.z_len (by decide +kernel) (pa_cons (pv 1) pa_nil)) pe_int (nomark _)) (pe_one (pe_call G_is_n (hr.mono (by decide)) rfl T.m_is_n T.d_is_n.kp T.b_is_n .nil pass0 (pa_cons (pv 0) (pa_cons (pe_slice (slTA (K := K) rfl) (pv 1) (po_some pe_int) po_none) pa_nil)))))))))))), ?_⟩)
  · obtain ⟨v, t, n, T, k, c, rfl, _⟩ := h
    rfl
  obtain ⟨v, t, n, T', k, c, rfl, hT, hok, h1, h7, ht, hf, q⟩ := h
  obtain ⟨a, rs, rfl, ha, hrl, _⟩ := id hT
  have hlen := hf.len
  obtain ⟨hnd, hlt, hk⟩ := id hf
  refine q_drop (v := .non) (ev_call (vs := [.ref a]) (ea_cons (ev_var rfl) ea_nil) fun H1 e1 Q1 q1 E1 => ⟨_, n, T', rfl, hT.mono e1, hok, h1, h7, fun H2 e2 => q1 H2 e2⟩) fun H1 e1 => ?_
  have ht1 := e1 _ _ ht
  refine q_when (b := false) ?_ (fun hx => nomatch hx) (fun _ H2 e2 => ?_)
  · exact et_or (a := false) (et_not (a := true) (et_B (isi_tup (ev_var rfl) ht1))) fun _ => et_or (a := false) (et_not (a := true) (et_truT (ev_var rfl) ht1)) fun _ => et_not (a := true) (et_B (isi_str (ev_ixTV (k := 0) (ev_var rfl) rfl ev_c ht1 rfl)))
  have ht2 := e2 _ _ ht1
  have hT2 := hT.mono (e1.trans e2)
  have hc7 : c.length ≤ 7 := by rw [hlen]; split <;> omega
  refine q_when (b := false) ?_ (fun hx => nomatch hx) (fun _ H3 e3 => ?_)
  · refine et_not (a := true) fun H3 e3 Q3 q3 => ?_
    refine eu_tail (K := K) (ev_var rfl) (e3 _ _ ht2) H3 (Ex.refl _) _ fun p H4 hp e4 h4 => ?_
    refine (ev_lenT (K := K) (H := H4) (ev_var rfl) (((e1.trans e2).trans (e3.trans e4)) _ _ ha)) H4 (Ex.refl _) _ fun H5 e5 => ?_
    refine ⟨p, n, c, ?_, e5 _ _ h4, hlt, hnd, hc7, fun H6 e6 => ⟨true, rfl, q3 H6 ((e4.trans e5).trans e6)⟩⟩
    rw [List.length_map, hrl] <;> rfl
  have ht3 := e3 _ _ ht2
  have hT3 := hT2.mono e3
  have elen : ∀ {H0 : Hp} {σ0 : L2.St}, H0 t = some (.tup (flawV k c)) → σ0[1]? = some (some (V.ref t)) → Ev (tCB (rLen K) (tCons (tVar 1) tNil)) σ0 H0 (.int ((c.length + 1 : Nat) : Int)) := fun {H0 σ0} h0 hs => ev_is (ev_lenT (ev_var hs) h0) (by simp [flawV, natsV_len])
  have ek : ∀ {H0 : Hp} {σ0 : L2.St}, H0 t = some (.tup (flawV k c)) → σ0[1]? = some (some (V.ref t)) → Ev (tOp (rIxT K) (tVar 1) (tC (.int 0))) σ0 H0 (.str (kS k)) := fun {H0 σ0} h0 hs => ev_ixTV (k := 0) (ev_var hs) rfl ev_c h0 rfl
  cases k with
  | true =>
    obtain ⟨x, y, z, rfl, g⟩ := hk
    refine q_when (b := true && true) (et_and (et_is (et_test (ev_eqS (ek ht3 rfl) ev_c)) (by decide)) fun _ => et_is (et_test (ev_eqI (elen ht3 rfl) ev_c)) (decide_eq_true rfl)) (fun _ H4 e4 => ?_) (fun hx => nomatch hx)
    refine ⟨_, rfl, ?_⟩
    refine eu_tail (K := K) (ev_var rfl) (e4 _ _ ht3) H4 (Ex.refl _) _ fun p H5 hp e5 h5 => ?_
    refine ⟨.ref a, p, n, T', x, y, z, rfl, hT3.mono (e4.trans e5), h5, hlt x (by simp), hlt y (by simp), hlt z (by simp), ?_⟩
    rw [decide_eq_true g]
    exact fun H6 e6 => q H6 (((((e1.trans e2).trans e3).trans e4).trans e5).trans e6)
  | false =>
    obtain ⟨x, y, z, u, rfl, g⟩ := hk
    refine q_when (b := false && false) (et_and (et_is (et_test (ev_eqS (ek ht3 rfl) ev_c)) (by decide)) fun hx => nomatch hx) (fun hx => nomatch hx) (fun _ H4 e4 => ?_)
    have ht4 := e4 _ _ ht3
    refine (ev_eqS (ek ht4 rfl) ev_c) H4 (Ex.refl _) _ fun H5 e5 => ⟨true, rfl, iteT ?_⟩
    refine (ev_eqI (elen (e5 _ _ ht4) rfl) ev_c) H5 (Ex.refl _) _ fun H6 e6 => ⟨true, rfl, iteT ?_⟩
    refine ⟨_, rfl, ?_⟩
    refine eu_tail (K := K) (ev_var rfl) (e6 _ _ (e5 _ _ ht4)) H6 (Ex.refl _) _ fun p H7 hp e7 h7 => ?_
    refine ⟨.ref a, p, n, T', x, y, z, u, rfl, hT3.mono (((e4.trans e5).trans e6).trans e7), h7, hlt x (by simp), hlt y (by simp), hlt z (by simp), hlt u (by simp), ?_⟩
    rw [decide_eq_true g]
    exact fun H8 e8 => q H8 (((((((e1.trans e2).trans e3).trans e4).trans e5).trans e6).trans e7).trans e8)
end K15
set_option Elab.async false
set_option linter.all false
set_option maxRecDepth 100000
set_option maxHeartbeats 2000000
/-! K15: itertools.permutations at the library's level (after HandS.RepeatKit) -/
namespace K15
open PySem PySem.Spec
open Sem (wp)
theorem mro_perm : mroOf (.type "itertools.permutations") = pure [.type "itertools.permutations", .type "object"] := by rw [mroOf_type]; kernel_rfl
theorem lookup_perm_new : typeLookup (.type "itertools.permutations") "__new__" = pure (some (.builtin "itertools.permutations.__new__")) := by rw [typeLookup_type, builtinLookup_eq_fast]; kernel_rfl
theorem slot_perm_init : Slot "itertools.permutations" "__init__" "object.__init__" :=
  .of (owner := "object") (n := "__init__") (by rw [typeLookup_type, builtinLookup_eq_fast]; kernel_rfl) (by decide +kernel) (by decide +kernel) (by decide +kernel)
    (by first | exact .inl (by decide +kernel) | exact .inr (by decide +kernel)) (by rw [isSubtype_type]; kernel_rfl)
theorem sub_perm : isSubtype (.type "itertools.permutations") (.type "itertools.permutations") = pure true := by rw [isSubtype_type]; kernel_rfl
theorem called_perm : TypeCalled "itertools.permutations" "itertools.permutations.__new__" "object.__init__" :=
  ⟨by decide +kernel, by decide +kernel, ⟨_, _, mro_perm⟩, madeBy_type mro_perm lookup_perm_new (by decide +kernel), by decide +kernel, sub_perm, slot_perm_init⟩
theorem typeCall_perm_2 (a b : Value) : checkTypeCall "itertools.permutations" ⟨[a, b], []⟩ = pure () := by kernel_rfl
theorem newCall_perm_2 (a b : Value) : checkBuiltinCall "itertools.permutations.__new__" ⟨[.type "itertools.permutations", a, b], []⟩ = pure () := by kernel_rfl
theorem entry_perm_new : entryFor table "itertools.permutations.__new__" = some Builtin.«itertools.permutations.__new__» := entryFor_of_tree (by kernel_rfl)
theorem slot_perm_iter : Slot "itertools.permutations" "__iter__" "itertools.permutations.__iter__" :=
  .of (owner := "itertools.permutations") (n := "__iter__") (by rw [typeLookup_type, builtinLookup_eq_fast]; kernel_rfl) (by decide +kernel) (by decide +kernel) (by decide +kernel)
    (by first | exact .inl (by decide +kernel) | exact .inr (by decide +kernel)) sub_perm
theorem slot_perm_next : Slot "itertools.permutations" "__next__" "itertools.permutations.__next__" :=
  .of (owner := "itertools.permutations") (n := "__next__") (by rw [typeLookup_type, builtinLookup_eq_fast]; kernel_rfl) (by decide +kernel) (by decide +kernel) (by decide +kernel)
    (by first | exact .inl (by decide +kernel) | exact .inr (by decide +kernel)) sub_perm
theorem entry_perm_iter : entryFor table "itertools.permutations.__iter__" = some Builtin.«dict_keyiterator.__iter__» :=
  entryFor_alias (id' := "dict_keyiterator.__iter__") (by kernel_rfl) (by first | rfl | decide +kernel | (unfold String.splitOn; simp +decide [String.splitOnAux])) (by decide +kernel) (by kernel_rfl)
theorem entry_perm_next : entryFor table "itertools.permutations.__next__" = some Builtin.«itertools.permutations.__next__» := entryFor_of_tree (by kernel_rfl)
theorem owner_perm : Manifest.owners.lookup "itertools.permutations" = some Manifest.sig_itertools_permutations := by kernel_rfl
theorem args_perm_iter (a : Value) : argsOk "itertools.permutations.__iter__" ⟨[a], []⟩ := by
  unfold argsOk; rw [signature?_of (id := "itertools.permutations.__iter__") (n := ['_', '_', 'r', 'e', 't', 'i', '_', '_']) (o := "itertools.permutations".toList.reverse) (by kernel_rfl) (by kernel_rfl : Manifest.owners.lookup _ = some Manifest.sig_itertools_permutations)]; kernel_rfl
theorem args_perm_next (a : Value) : argsOk "itertools.permutations.__next__" ⟨[a], []⟩ := by
  unfold argsOk; rw [signature?_of (id := "itertools.permutations.__next__") (n := ['_', '_', 't', 'x', 'e', 'n', '_', '_']) (o := "itertools.permutations".toList.reverse) (by kernel_rfl) (by kernel_rfl : Manifest.owners.lookup _ = some Manifest.sig_itertools_permutations)]; kernel_rfl
theorem noDict_perm : typeHasDict (.type "itertools.permutations") = false := by decide +kernel
end K15
set_option Elab.async false
set_option linter.all false
set_option maxRecDepth 100000
set_option maxHeartbeats 4000000
namespace K15
open PySem PySem.Spec PyProof.Rows L2
open Sem (wp)
theorem plain_perm_new : plainId "itertools.permutations.__new__" = true := by decide +kernel
/-- the iterator's object -/
def permObj (pool : Addr) (st r : Int) (old : Value) (nums : List Int) : Obj :=
  { cls := .type "itertools.permutations", dict := none, data := .fields ([.ref pool, .int st 0, .int r 0, old] ++ nums.map fun i : Int => Value.int i 0).toArray, slots := #[] }
theorem perm_class (a b : Value) : Builtin.Itertools.itClassAndRest "permutations" ⟨[.type "itertools.permutations", a, b], []⟩ = pure (.type "itertools.permutations", [a, b]) := by
  have hsub : isSubtype (.type "itertools.permutations") (.type ("itertools." ++ "permutations")) = pure true := by
    rw [show ("itertools." ++ "permutations") = "itertools.permutations" by decide +kernel]
    exact sub_perm
  unfold Builtin.Itertools.itClassAndRest
  dsimp only
  rw [hsub]
  rfl
section
variable {prog : Program} {w : World} {A : Around} {E : Value → Shared → Prop} {s : Shared} {r : Addr} {a b c : Int} {t u v : Tok} {n : Nat}
theorem code_perm_new {Q₁ : Value → Shared → Prop} {k : Nat} {tk0 : Tok} (hh : A.handled = none) (hr : IsRange s.heap r 0 (n : Int) 1 t u v) (hn : n ≤ 6) (hk : k ≤ 6)
    (h : ∀ (h' : Heap) (tk : Nat) (acc : Array Value), (∀ b o, s.heap.get? b = some o → h'.get? b = some o) → ItemsOf (fun i v => ∃ t, v = .int (0 + i * 1) t) acc n →
      Q₁ (.ref (h'.objs.size + 1)) { s with heap := (h'.push { cls := .type "tuple", data := .seq acc }).push (permObj h'.objs.size (if k > n then 2 else 0) k .none ((List.range n).map (fun i : Nat => (i : Int)) ++ (List.range k).map fun i : Nat => (n : Int) - (i : Int))), toks := tk }) :
    codeAny (model prog w) A (.call (.builtin "itertools.permutations.__new__") ⟨[.type "itertools.permutations", .ref r, .int (k : Int) tk0], []⟩) (wants Q₁ E) s := by
  refine codeAny_of_tree ?_
  show wpAny _ A.in1 (do checkBuiltinCall "itertools.permutations.__new__" ⟨[.type "itertools.permutations", .ref r, .int (k : Int) tk0], []⟩; again (.builtin "itertools.permutations.__new__" ⟨[.type "itertools.permutations", .ref r, .int (k : Int) tk0], []⟩)) _ _ s
  refine wpAny_bind (wpAny_of_eq (newCall_perm_2 _ _) (wpAny_pure ⟨plainId_quiet plain_perm_new _, codeAny_builtin entry_perm_new ?_⟩))
  rw [Around.under_plainId plain_perm_new _]
  have hh1 : A.in1.handled = none := hh
  have e1 : Builtin.Itertools.itClassAndRest "permutations" ⟨[.type "itertools.permutations", .ref r, .int (k : Int) tk0], []⟩ = pure (.type "itertools.permutations", [.ref r, .int (k : Int) tk0]) := perm_class _ _
  have e2 : Builtin.Itertools.itBindNamed "permutations" ["iterable", "r"] 1 2 [.ref r, .int (k : Int) tk0] [] = pure [some (.ref r), some (.int (k : Int) tk0)] := by rfl
  unfold Builtin.«itertools.permutations.__new__»
  rw [e1]
  refine wpAny_bind (wpAny_pure ?_)
  dsimp only
  rw [e2]
  refine wpAny_bind (wpAny_pure ?_)
  dsimp only
  have hr1 : ¬ ((k : Int) < 0) := by omega
  have hr2 : ¬ ((decide ((k : Int) < -2 ^ 63) || decide ((k : Int) ≥ 2 ^ 63)) = true) := by
    rw [decide_eq_false (by omega), decide_eq_false (by omega)]
    decide
  have hr3 : ¬ (Builtin.Itertools.itTooMany (k : Int) = true) := by
    have e : Builtin.Itertools.itTooMany (k : Int) = false := decide_eq_false (by omega)
    rw [e]
    decide
  refine wpAny_bind (collect_range (A := A.in1) (n := n) hh1 hr (small_one (by omega) (by omega) (by omega) (by omega)) (by rw [rangeSize_one]; split <;> omega) (by omega) fun h' tk acc hk2 hacc => ?_)
  dsimp only [Option.getD]
  have hlen : acc.toList.length = n := by rw [Array.length_toList]; exact hacc.1
  refine wpAny_bind (wpAny_holding (wpAny_bind (wpAny_of_eq (a := some (k : Int)) rfl ?_)))
  dsimp only
  rw [if_neg hr2]
  refine wpAny_pure ?_
  rw [if_neg hr1, if_neg hr3]
  refine wpAny_bind ?_
  simp only [newTuple]
  refine wpAny_newObj_type ?_ (by show acc.toList.toArray.size ≤ sizeLine; rw [List.size_toArray, hlen, sizeLine_eq]; omega)
  unfold Builtin.Itertools.itNewRecord
  rw [noDict_perm]
  refine wpAny_bind ?_
  rw [if_pos (by decide)]
  refine wpAny_newObj_type ?_ ?_
  · refine wpAny_pure ?_
    have q := h h' tk acc hk2 hacc
    have e3 : (h'.push { cls := .type "tuple", data := .seq acc.toList.toArray }).objs.size = h'.objs.size + 1 := Heap.size_push ..
    have e4 : acc.toList.toArray = acc := by simp
    rw [e3, e4]
    have e5 : ((k : Int)).toNat = k := by omega
    have e6 : (permObj h'.objs.size (if k > n then 2 else 0) k .none ((List.range n).map (fun i : Nat => (i : Int)) ++ (List.range k).map fun i : Nat => (n : Int) - (i : Int))) = { cls := .type "itertools.permutations", data := .fields ([Value.ref h'.objs.size, rawInt (if k > n then 2 else 0), rawInt (k : Int), Value.none] ++ (List.range n).map (fun i : Nat => rawInt (i : Int)) ++ (List.range k).map fun i : Nat => rawInt ((n : Int) - (i : Int))).toArray } := by
      unfold permObj
      simp [rawInt, List.map_map, Function.comp_def]
    rw [hlen, e5, ← e6]
    exact q
  · show (List.toArray _).size ≤ sizeLine + 2
    rw [List.size_toArray, sizeLine_eq]
    simp only [List.length_append, List.length_map, List.length_range, List.length_cons, List.length_nil]
    omega
/-- permutations(range object, k) -/
theorem call_perms {Q : Value → Shared → Prop} {k : Nat} {tk0 : Tok} (hh : A.handled = none) (hr : IsRange s.heap r 0 (n : Int) 1 t u v) (hn : n ≤ 6) (hk : k ≤ 6)
    (h : ∀ (h' : Heap) (tk : Nat) (acc : Array Value), (∀ b o, s.heap.get? b = some o → h'.get? b = some o) → ItemsOf (fun i v => ∃ t, v = .int (0 + i * 1) t) acc n →
      Q (.ref (h'.objs.size + 1)) { s with heap := (h'.push { cls := .type "tuple", data := .seq acc }).push (permObj h'.objs.size (if k > n then 2 else 0) k .none ((List.range n).map (fun i : Nat => (i : Int)) ++ (List.range k).map fun i : Nat => (n : Int) - (i : Int))), toks := tk }) :
    wpAny (model prog w) A (call (.type "itertools.permutations") [.ref r, .int (k : Int) tk0]) Q E s := by
  refine callType_codes (Q₁ := fun obj s₁ => s₁.TypeIs obj "itertools.permutations" ∧ Q obj s₁) called_perm (typeCall_perm_2 _ _) F.entry_object_init
    (code_perm_new (A := A.in1) hh hr hn hk fun h' tk acc hk2 hacc => ⟨⟨permObj h'.objs.size (if k > n then 2 else 0) k .none ((List.range n).map (fun i : Nat => (i : Int)) ++ (List.range k).map fun i : Nat => (n : Int) - (i : Int)), ?_, rfl⟩, h h' tk acc hk2 hacc⟩) fun obj s₁ h₁ => ?_
  · have e : (h'.push { cls := .type "tuple", data := .seq acc }).objs.size = h'.objs.size + 1 := Heap.size_push ..
    show ((h'.push { cls := .type "tuple", data := .seq acc }).push _).get? (h'.objs.size + 1) = _
    rw [← e]
    exact Heap.get?_push_size _ rfl
  · exact ⟨h₁.1, F.args_object_init_3 obj _ _, object_init_meets called_perm.init.lookup called_perm.made (by decide +kernel) prog w A.in1 _ s₁ ⟨h₁.1, rfl, h₁.2⟩⟩
theorem iter_perms {it pool : Addr} {st k : Int} {old : Value} {nums : List Int} {Q : Value → Shared → Prop} (hit : s.heap.get? it = some (permObj pool st k old nums)) (h : Q (.ref it) s) : wpAny (model prog w) A (pyIter (.ref it)) Q E s := by
  have hT : s.TypeIs (.ref it) "itertools.permutations" := ⟨_, hit, rfl⟩
  refine wpAny_pyIter_slot hT slot_perm_iter (wpAny_call_entry slot_perm_iter hT entry_perm_iter ?_ (args_perm_iter _))
  show wpAny _ _ (ret (.ref it)) _ _ s
  exact wpAny_pure ⟨_, rfl, "itertools.permutations", _, hT, slot_perm_next.lookup, h⟩
end
end K15
set_option Elab.async false
set_option linter.all false
set_option maxRecDepth 100000
set_option maxHeartbeats 4000000
namespace K15
open PySem PySem.Spec PyProof.Rows L2
open Sem (wp)
/-- one step of the walk of all orders, as a function of the places and the counters -/
def stepP (n : Nat) : Nat → List Nat × List Nat → Option (List Nat × List Nat)
  | 0, _ => none
  | k + 1, (ix, cy) => match cy.getD k 0 - 1 with
    | 0 => stepP n k (ix.eraseIdx k ++ [ix.getD k 0], cy.set k (n - k))
    | c + 1 => some ((ix.set k (ix.getD (n - (c + 1)) 0)).set (n - (c + 1)) (ix.getD k 0), cy.set k (c + 1))
theorem stepP_of {f : Nat → Nat → List Nat → List Nat → Option (List Nat × List Nat)} {n k : Nat} {ix cy : List Nat}
    (h0 : ∀ n ix cy, f n 0 ix cy = none)
    (h1 : ∀ n i ix cy, f n (i + 1) ix cy = (let c := cy.getD i 0 - 1
      if c == 0 then f n i (ix.take i ++ ix.drop (i + 1) ++ [ix.getD i 0]) (cy.set i (n - i)) else some ((ix.set i (ix.getD (n - c) 0)).set (n - c) (ix.getD i 0), cy.set i c))) :
    f n k ix cy = stepP n k (ix, cy) := by
  induction k generalizing ix cy with
  | zero => exact h0 ..
  | succ k ih =>
    rw [h1]
    unfold stepP
    cases e : cy.getD k 0 - 1 with
    | zero =>
      simp only [e, beq_self_eq_true, if_true]
      rw [ih, List.eraseIdx_eq_take_drop_succ]
    | succ c =>
      simp only [e]
      rfl
section
variable {prog : Program} {w : World} {A : Around} {E : Value → Shared → Prop} {s : Shared}
def natI (l : List Nat) : List Int := l.map fun i : Nat => (i : Int)
theorem nums_of (l : List Nat) : ((natI l).map fun i : Int => Value.int i 0).map (fun | .int n _ => n.toNat | _ => 0) = l := by
  unfold natI
  induction l with
  | nil => rfl
  | cons a r ih => simpa using ih
theorem w_pool {pool : Addr} {po : Obj} {items : Array Value} {pn : Nat} {Q : Array Value → Shared → Prop} (hp : s.heap.get? pool = some po) (hpd : po.data = .seq items pn) (h : Q items s) : wpAny (model prog w) A (Builtin.Itertools.itPoolItems (.ref pool)) Q E s := by
  unfold Builtin.Itertools.itPoolItems seqItems?
  refine wpAny_bind (wpAny_bind (wpAny_load hp ?_))
  rw [hpd]
  exact wpAny_pure (wpAny_pure h)
theorem w_int {it : Addr} {o : Obj} {vs : Array Value} {i : Nat} {n : Int} {t : Tok} {Q : Int → Shared → Prop} (hit : s.heap.get? it = some o) (hd : o.data = .fields vs) (hi : vs[i]? = some (.int n t)) (h : Q n s) : wpAny (model prog w) A (Builtin.Itertools.itIntField (.ref it) i) Q E s := by
  unfold Builtin.Itertools.itIntField
  exact wpAny_bind (wpAny_field hit hd hi (wpAny_pure h))
theorem w_nums {it pool : Addr} {st k : Int} {old : Value} {l : List Nat} {Q : List Nat → Shared → Prop} (hit : s.heap.get? it = some (permObj pool st k old (natI l))) (h : Q l s) : wpAny (model prog w) A (Builtin.Itertools.itNumbersFrom (.ref it) 4) Q E s := by
  unfold Builtin.Itertools.itNumbersFrom
  refine wpAny_bind (wpAny_load hit ?_)
  have e := nums_of l
  refine wpAny_pure ?_
  rw [← e] at h
  exact h
/-- behind the field's store -/
theorem permObj_set1 (pool : Addr) (st k : Int) (old : Value) (nums : List Int) (x : Int) : (permObj pool st k old nums).mapFields (fun vs => vs.setIfInBounds 1 (rawInt x)) = permObj pool x k old nums := by
  unfold permObj Obj.mapFields
  simp [rawInt]
theorem permObj_set3 (pool : Addr) (st k : Int) (old v : Value) (nums : List Int) : (permObj pool st k old nums).mapFields (fun vs => vs.setIfInBounds 3 v) = permObj pool st k v nums := by
  unfold permObj Obj.mapFields
  simp
theorem permObj_nums (pool : Addr) (st k : Int) (old : Value) (nums : List Int) (l : List Nat) : (permObj pool st k old nums).mapFields (fun fs => fs.extract 0 4 ++ (l.map fun (n : Nat) => rawInt n).toArray) = permObj pool st k old (natI l) := by
  unfold permObj Obj.mapFields natI
  simp [rawInt, List.map_map, Function.comp_def]
/-- the tuple is laid and handed out -/
theorem w_out {it pool : Addr} {st : Int} {k : Nat} {old : Value} {nums : List Int} {l : List Value} {Q : Value → Shared → Prop} (hit : s.heap.get? it = some (permObj pool st k old nums)) (hl : l.length ≤ 6)
    (h : ∀ h', h'.get? it = some (permObj pool st k (.ref s.heap.objs.size) nums) → (∀ b o, b ≠ it → s.heap.get? b = some o → h'.get? b = some o) → h'.get? s.heap.objs.size = some { cls := .type "tuple", data := .seq l.toArray } →
      Q (.ref s.heap.objs.size) { s with heap := h' }) :
    wpAny (model prog w) A (do
      let t ← newTuple l
      let before ← field (.ref it) 3
      setField (.ref it) 3 t
      letGo [before] [t]
      ret t) (fun fin s' => ∃ v, fin = Fin.done (Flow.ret v) ∧ Q v s') E s := by
  refine wpAny_bind (wpAny_newTuple ?_ (by rw [sizeLine_eq]; omega))
  have ne : it ≠ s.heap.objs.size := Nat.ne_of_lt (Heap.lt_size hit)
  have hit1 := Heap.get?_push_of_some (h := s.heap) { cls := .type "tuple", data := .seq l.toArray } hit
  refine wpAny_bind (wpAny_field hit1 rfl (x := old) rfl ?_)
  refine wpAny_bind (wpAny_setField hit1 rfl (by simp) ?_)
  refine wpAny_bind (wpAny_letGo ?_)
  refine wpAny_pure ⟨_, rfl, ?_⟩
  refine h _ ?_ (fun b o hb e => ?_) ?_
  · rw [← permObj_set3 pool st k old]
    exact Heap.get?_update_self _ hit1 rfl
  · rw [Heap.get?_update_other _ _ (Ne.symm hb)]
    exact Heap.get?_push_of_some _ e
  · rw [Heap.get?_update_other _ _ ne]
    exact Heap.get?_push_size _ rfl
theorem perm_first {it pool : Addr} {k n : Nat} {old : Value} {ix cy : List Nat} {items : Array Value} {po : Obj} {pn : Nat} {Q : Option Value → Shared → Prop}
    (hit : s.heap.get? it = some (permObj pool 0 k old (natI (ix ++ cy)))) (hp : s.heap.get? pool = some po) (hpd : po.data = .seq items pn) (hix : ix.length = items.size) (hk : k ≤ items.size) (hz : items.size ≤ 6)
    (hQ : ∀ h', h'.get? it = some (permObj pool 1 k (.ref s.heap.objs.size) (natI (ix ++ cy))) → (∀ b o, b ≠ it → s.heap.get? b = some o → h'.get? b = some o) →
      h'.get? s.heap.objs.size = some { cls := .type "tuple", data := .seq ((ix.take k).map fun i => items.getD i .none).toArray } → Q (some (.ref s.heap.objs.size)) { s with heap := h' }) :
    wpAny (model prog w) A (pyNext (.ref it)) Q E s := by
  have hT : s.TypeIs (.ref it) "itertools.permutations" := ⟨_, hit, rfl⟩
  unfold pyNext
  refine wpAny_bind (wpAny_attempt (wpAny_callSpecial?_slot (name := Str.ofString "__next__") hT slot_perm_next (wpAny_call_entry slot_perm_next hT entry_perm_next ?_ (args_perm_next _))))
  unfold Builtin.«itertools.permutations.__next__»
  refine wpAny_bind (wpAny_of_eq (a := (Value.ref it, [])) rfl ?_)
  dsimp only
  refine wpAny_bind (wpAny_field hit rfl (x := .ref pool) rfl ?_)
  refine wpAny_bind (w_pool hp hpd ?_)
  refine wpAny_bind (w_int hit rfl (i := 2) (n := (k : Int)) rfl ?_)
  refine wpAny_bind (w_nums hit ?_)
  refine wpAny_bind (w_int hit rfl (i := 1) (n := 0) rfl ?_)
  refine wpAny_bind (wpAny_setField hit rfl (by simp) ?_)
  have hit1 : (s.heap.update it (Obj.mapFields fun vs => vs.setIfInBounds 1 (rawInt 1))).get? it = some (permObj pool 1 k old (natI (ix ++ cy))) := by
    rw [← permObj_set1 pool 0 k old _ 1]
    exact Heap.get?_update_self _ hit rfl
  have es : (s.heap.update it (Obj.mapFields fun vs => vs.setIfInBounds 1 (rawInt 1))).objs.size = s.heap.objs.size := (Heap.SameBut.update ..).1
  have et : ((k : Int)).toNat = k := by omega
  have el : (ix ++ cy).take k = ix.take k := List.take_append_of_le_length (by omega)
  rw [et, el]
  refine w_out (A := A.in1) (s := { s with heap := s.heap.update it (Obj.mapFields fun vs => vs.setIfInBounds 1 (rawInt 1)) }) hit1 (by simp; omega) fun h' h1 h2 h3 => ?_
  rw [es] at h1 h3 ⊢
  refine wpAny_pure (hQ h' h1 (fun b o hb e => h2 b o hb ?_) h3)
  rw [Heap.get?_update_other _ _ (Ne.symm hb)]
  exact e
theorem perm_step {it pool : Addr} {k n : Nat} {old : Value} {ix cy ix' cy' : List Nat} {items : Array Value} {po : Obj} {pn : Nat} {Q : Option Value → Shared → Prop}
    (hit : s.heap.get? it = some (permObj pool 1 k old (natI (ix ++ cy)))) (hp : s.heap.get? pool = some po) (hpd : po.data = .seq items pn) (hix : ix.length = items.size) (hz : items.size ≤ 6)
    (hs : stepP items.size k (ix, cy) = some (ix', cy')) (hix' : ix'.length = items.size) (hcy' : cy'.length ≤ 6)
    (hQ : ∀ h', h'.get? it = some (permObj pool 1 k (.ref s.heap.objs.size) (natI (ix' ++ cy'))) → (∀ b o, b ≠ it → s.heap.get? b = some o → h'.get? b = some o) →
      h'.get? s.heap.objs.size = some { cls := .type "tuple", data := .seq ((ix'.take k).map fun i => items.getD i .none).toArray } → Q (some (.ref s.heap.objs.size)) { s with heap := h' }) :
    wpAny (model prog w) A (pyNext (.ref it)) Q E s := by
  have hT : s.TypeIs (.ref it) "itertools.permutations" := ⟨_, hit, rfl⟩
  unfold pyNext
  refine wpAny_bind (wpAny_attempt (wpAny_callSpecial?_slot (name := Str.ofString "__next__") hT slot_perm_next (wpAny_call_entry slot_perm_next hT entry_perm_next ?_ (args_perm_next _))))
  unfold Builtin.«itertools.permutations.__next__»
  refine wpAny_bind (wpAny_of_eq (a := (Value.ref it, [])) rfl ?_)
  dsimp only
  refine wpAny_bind (wpAny_field hit rfl (x := .ref pool) rfl ?_)
  refine wpAny_bind (w_pool hp hpd ?_)
  refine wpAny_bind (w_int hit rfl (i := 2) (n := (k : Int)) rfl ?_)
  refine wpAny_bind (w_nums hit ?_)
  refine wpAny_bind (w_int hit rfl (i := 1) (n := 1) rfl ?_)
  have et : ((k : Int)).toNat = k := by omega
  have e1 : (ix ++ cy).take items.size = ix := by rw [← hix]; exact List.take_left
  have e2 : (ix ++ cy).drop items.size = cy := by rw [← hix]; exact List.drop_left
  rw [et, e1, e2]
  show wpAny _ _ (match (_ : Option (List Nat × List Nat)) with | some (indices, cycles) => _ | none => _) _ _ _
  split
  · rename_i indices cycles heq
    have e3 := (stepP_of (fun _ _ _ => rfl) (fun _ _ _ _ => rfl)).symm.trans heq
    rw [hs] at e3
    obtain ⟨rfl, rfl⟩ := Prod.mk.inj (Option.some.inj e3)
    refine wpAny_bind ?_
    unfold Builtin.Itertools.itSetNumbersFrom
    refine wpAny_updateFields hit rfl ?_ (hz := by rw [sizeLine_eq]; simp; omega)
    have hit1 : (s.heap.update it (Obj.mapFields fun fs => fs.extract 0 4 ++ ((ix' ++ cy').map fun (n : Nat) => rawInt n).toArray)).get? it = some (permObj pool 1 k old (natI (ix' ++ cy'))) := by
      rw [← permObj_nums pool 1 k old (natI (ix ++ cy))]
      exact Heap.get?_update_self _ hit rfl
    have es : (s.heap.update it (Obj.mapFields fun fs => fs.extract 0 4 ++ ((ix' ++ cy').map fun (n : Nat) => rawInt n).toArray)).objs.size = s.heap.objs.size := (Heap.SameBut.update ..).1
    refine w_out (A := A.in1) (s := { s with heap := s.heap.update it (Obj.mapFields fun fs => fs.extract 0 4 ++ ((ix' ++ cy').map fun (n : Nat) => rawInt n).toArray) }) hit1 (by simp; omega) fun h' h1 h2 h3 => ?_
    rw [es] at h1 h3 ⊢
    refine wpAny_pure (hQ h' h1 (fun b o hb e => h2 b o hb ?_) h3)
    rw [Heap.get?_update_other _ _ (Ne.symm hb)]
    exact e
  · rename_i heq
    have e3 := (stepP_of (fun _ _ _ => rfl) (fun _ _ _ _ => rfl)).symm.trans heq
    rw [hs] at e3
    cases e3
/-- the end: nothing more -/
theorem perm_stop {it : Addr} {Q : Option Value → Shared → Prop} (hh : A.handled = none) (hQ : ∀ h', (∀ b o, b ≠ it → s.heap.get? b = some o → h'.get? b = some o) → Q none { s with heap := h' }) :
    wpAny (model prog w) A.in1 (Builtin.Itertools.itStop : Sem PySem.Fin) (fun fin s' => ∃ v, fin = Fin.done (Flow.ret v) ∧ wpAny (model prog w) A (pure (some v)) Q E s')
      (fun e s' => wpAny (model prog w) A (do if ← isInstance e (.type "StopIteration") then pure none else throw e) Q E s') s := by
  unfold Builtin.Itertools.itStop
  show wpAny _ _ (newExc (.type "StopIteration") [] >>= _) _ _ _
  refine wpAny_bind ?_
  simp only [newExc, newTuple]
  refine wpAny_bind (wpAny_newObj_type ?_ (by size_fits))
  refine wpAny_bind (m := firstArgMember _ _) (wpAny_of_eq (a := Value.none) (by first | rfl | (simp only [firstArgMember]; rfl)) ?_)
  refine wpAny_newObj_type ?_ (by size_fits)
  simp only [raiseNew]
  refine wpAny_bind (wpAny_handled ?_)
  first | rw [show A.in1.handled = none from hh] | rw [hh]
  refine wpAny_bind (wpAny_pure (wpAny_throw ?_))
  refine wpAny_bind (wpAny_isInstance (T := "StopIteration") (b := true) ⟨_, Heap.get?_push_size _ rfl, rfl⟩ isSubtype_stop ?_)
  exact wpAny_pure (hQ _ (((Heap.ExtBut.refl it s.heap).push _).push _))
theorem perm_end {it pool : Addr} {k : Nat} {st : Int} {old : Value} {nums : List Nat} {items : Array Value} {po : Obj} {pn : Nat} {Q : Option Value → Shared → Prop} (hh : A.handled = none)
    (hit : s.heap.get? it = some (permObj pool st k old (natI nums))) (hp : s.heap.get? pool = some po) (hpd : po.data = .seq items pn)
    (hs : st = 2 ∨ (st = 1 ∧ stepP items.size k (nums.take items.size, nums.drop items.size) = none))
    (hQ : ∀ h', (∀ b o, b ≠ it → s.heap.get? b = some o → h'.get? b = some o) → Q none { s with heap := h' }) :
    wpAny (model prog w) A (pyNext (.ref it)) Q E s := by
  have hT : s.TypeIs (.ref it) "itertools.permutations" := ⟨_, hit, rfl⟩
  unfold pyNext
  refine wpAny_bind (wpAny_attempt (wpAny_callSpecial?_slot (name := Str.ofString "__next__") hT slot_perm_next (wpAny_call_entry slot_perm_next hT entry_perm_next ?_ (args_perm_next _))))
  unfold Builtin.«itertools.permutations.__next__»
  refine wpAny_bind (wpAny_of_eq (a := (Value.ref it, [])) rfl ?_)
  dsimp only
  refine wpAny_bind (wpAny_field hit rfl (x := .ref pool) rfl ?_)
  refine wpAny_bind (w_pool hp hpd ?_)
  refine wpAny_bind (w_int hit rfl (i := 2) (n := (k : Int)) rfl ?_)
  refine wpAny_bind (w_nums hit ?_)
  rcases hs with rfl | ⟨rfl, hs⟩
  · refine wpAny_bind (w_int hit rfl (i := 1) (n := 2) rfl ?_)
    refine wpAny_bind (wpAny_rule ?_)
    exact perm_stop hh hQ
  · refine wpAny_bind (w_int hit rfl (i := 1) (n := 1) rfl ?_)
    have et : ((k : Int)).toNat = k := by omega
    rw [et]
    show wpAny _ _ (match (_ : Option (List Nat × List Nat)) with | some (indices, cycles) => _ | none => _) _ _ _
    split
    · rename_i indices cycles heq
      have e3 := (stepP_of (fun _ _ _ => rfl) (fun _ _ _ _ => rfl)).symm.trans heq
      rw [hs] at e3
      cases e3
    · refine wpAny_bind (wpAny_setField hit rfl (by simp) ?_)
      refine perm_stop (it := it) (s := { s with heap := s.heap.update it (Obj.mapFields fun vs => vs.setIfInBounds 1 (rawInt 2)) }) hh fun h' h2 => ?_
      refine hQ h' fun b o hb e => h2 b o hb ?_
      rw [Heap.get?_update_other _ _ (Ne.symm hb)]
      exact e
end
end K15
set_option Elab.async false
set_option linter.all false
set_option maxRecDepth 100000
namespace K15
open PySem PySem.Spec PyProof.Rows L2 Evl
/-! ### the walk of all orders -/
def runP (n k : Nat) : Nat → List Nat × List Nat → List (List Nat × List Nat)
  | 0, _ => []
  | f + 1, s => s :: match stepP n k s with
    | none => []
    | some s' => runP n k f s'
def statesP (n k : Nat) : List (List Nat × List Nat) := if k ≤ n then runP n k 400 (List.range n, (List.range k).map fun i => n - i) else []
def permsL (n k : Nat) : List (List Nat) := (statesP n k).map fun s => s.1.take k
def okP (n k : Nat) : Bool := (decide (k ≤ n) || (statesP n k).isEmpty) && (!decide (k ≤ n) || decide ((statesP n k)[0]? = some (List.range n, (List.range k).map fun i => n - i))) &&
  ((List.range (statesP n k).length).all fun i => match (statesP n k)[i]? with
    | some s => decide (s.1.length = n) && decide (s.2.length ≤ 6) && s.1.all (fun x => decide (x < n)) && decide (stepP n k s = (statesP n k)[i + 1]?)
    | none => false) && (permsL n k).all fun c => decide (c.length = k) && decide c.Nodup && c.all fun x => decide (x < n)
theorem okP_all : ∀ n, n ≤ 6 → okP n 3 = true ∧ okP n 4 = true := by decide +kernel
structure PermOk (n k : Nat) : Prop where
  big : ¬ k ≤ n → statesP n k = []
  zero : k ≤ n → (statesP n k)[0]? = some (List.range n, (List.range k).map fun i => n - i)
  st : ∀ i s, (statesP n k)[i]? = some s → s.1.length = n ∧ s.2.length ≤ 6 ∧ (∀ x ∈ s.1, x < n) ∧ stepP n k s = (statesP n k)[i + 1]?
  ps : ∀ c ∈ permsL n k, c.length = k ∧ c.Nodup ∧ ∀ x ∈ c, x < n
theorem permOk {n k : Nat} (hn : n ≤ 6) (hk : k = 3 ∨ k = 4) : PermOk n k := by
  have q : okP n k = true := by
    rcases hk with rfl | rfl
    · exact (okP_all n hn).1
    · exact (okP_all n hn).2
  unfold okP at q
  simp only [Bool.and_eq_true, Bool.or_eq_true, decide_eq_true_eq, Bool.not_eq_true', decide_eq_false_iff_not, List.isEmpty_iff, List.all_eq_true, List.mem_range] at q
  obtain ⟨⟨⟨q1, q2⟩, q3⟩, q4⟩ := q
  refine ⟨fun h => q1.resolve_left h, fun h => q2.resolve_left (fun z => z h), fun i s hi => ?_, fun c hc => ⟨(q4 c hc).1.1, (q4 c hc).1.2, (q4 c hc).2⟩⟩
  have z := q3 i (List.getElem?_eq_some_iff.mp hi).1
  rw [hi] at z
  simp only [Bool.and_eq_true, decide_eq_true_eq, List.all_eq_true] at z
  exact ⟨z.1.1.1, z.1.1.2, z.1.2, z.2⟩
def hasP3 (n : Nat) : Bool := (List.range n).all fun a => (List.range n).all fun b => (List.range n).all fun c => !decide [a, b, c].Nodup || (permsL n 3).contains [a, b, c]
def hasP4 (n : Nat) : Bool := (List.range n).all fun a => (List.range n).all fun b => (List.range n).all fun c => (List.range n).all fun d => !decide [a, b, c, d].Nodup || (permsL n 4).contains [a, b, c, d]
theorem hasP3_all : ∀ n, n ≤ 6 → hasP3 n = true := by decide +kernel
theorem hasP4_all : ∀ n, n ≤ 6 → hasP4 n = true := by decide +kernel
theorem perm3 {n : Nat} (hn : n ≤ 6) {a b c : Nat} (ha : a < n) (hb : b < n) (hc : c < n) (nd : [a, b, c].Nodup) : [a, b, c] ∈ permsL n 3 := by
  have q := List.all_eq_true.mp (List.all_eq_true.mp (List.all_eq_true.mp (hasP3_all n hn) a (List.mem_range.mpr ha)) b (List.mem_range.mpr hb)) c (List.mem_range.mpr hc)
  rw [decide_eq_true nd] at q
  exact List.contains_iff_mem.mp (by simpa using q)
theorem perm4 {n : Nat} (hn : n ≤ 6) {a b c d : Nat} (ha : a < n) (hb : b < n) (hc : c < n) (hd : d < n) (nd : [a, b, c, d].Nodup) : [a, b, c, d] ∈ permsL n 4 := by
  have q := List.all_eq_true.mp (List.all_eq_true.mp (List.all_eq_true.mp (List.all_eq_true.mp (hasP4_all n hn) a (List.mem_range.mpr ha)) b (List.mem_range.mpr hb)) c (List.mem_range.mpr hc)) d (List.mem_range.mpr hd)
  rw [decide_eq_true nd] at q
  exact List.contains_iff_mem.mp (by simpa using q)
/-! ### over the layer -/
def Itp (n k : Nat) : It := ⟨fun i _ => i < (permsL n k).length, fun i H x H' => ∃ p c, x = .ref p ∧ (permsL n k)[i]? = some c ∧ H p = none ∧ H' = upd H p (.tup (natsV c)), fun i _ => (permsL n k).length ≤ i⟩
def PoolIs (h : Heap) (pool : Addr) (n : Nat) : Prop := ∃ (po : Obj) (acc : Array Value) (pn : Nat), h.get? pool = some po ∧ po.data = .seq acc pn ∧ ItemsOf (fun i v => ∃ t, v = .int (0 + i * 1) t) acc n
def PermSt (n k : Nat) (it pool : Addr) (i : Nat) (h : Heap) : Prop := PoolIs h pool n ∧ ∃ old,
  (¬ k ≤ n ∧ ∃ nums, h.get? it = some (permObj pool 2 k old nums)) ∨
  (k ≤ n ∧ i = 0 ∧ ∃ s, (statesP n k)[0]? = some s ∧ h.get? it = some (permObj pool 0 k old (natI (s.1 ++ s.2)))) ∨
  (k ≤ n ∧ ∃ j s, i = j + 1 ∧ (statesP n k)[j]? = some s ∧ h.get? it = some (permObj pool 1 k old (natI (s.1 ++ s.2))))
theorem vals_pick {acc : Array Value} {n : Nat} (h : ItemsOf (fun i v => ∃ t, v = .int (0 + i * 1) t) acc n) : ∀ {c : List Nat}, (∀ x ∈ c, x < n) → Vals (natsV c) (c.map fun i => acc.getD i .none)
  | [], _ => .nil
  | x :: r, hx => by
    refine .cons ?_ (vals_pick h fun y hy => hx y (.tail _ hy))
    have hlt : x < acc.size := by rw [h.1]; exact hx x (.head _)
    have e : acc[x]? = some (acc.getD x .none) := by simp [Array.getD, hlt]
    obtain ⟨t, ht⟩ := h.2 x _ e
    exact ⟨t, by show acc.getD x .none = _; rw [ht]; simp⟩
theorem permObj_obj (pool : Addr) (st r : Int) (old : Value) (nums : List Int) : (permObj pool st r old nums).cls = .type "itertools.permutations" ∧ ∃ vs, (permObj pool st r old nums).data = .fields vs := ⟨rfl, _, rfl⟩
theorem perm_end2 {prog : Program} {w : World} {A : Around} {E : Value → Shared → Prop} {s : Shared} {it pool : Addr} {k : Nat} {old : Value} {nums : List Int} {items : Array Value} {po : Obj} {pn : Nat} {Q : Option Value → Shared → Prop} (hh : A.handled = none)
    (hit : s.heap.get? it = some (permObj pool 2 k old nums)) (hp : s.heap.get? pool = some po) (hpd : po.data = .seq items pn)
    (hQ : ∀ h', (∀ b o, b ≠ it → s.heap.get? b = some o → h'.get? b = some o) → Q none { s with heap := h' }) :
    wpAny (model prog w) A (pyNext (.ref it)) Q E s := by
  have hT : s.TypeIs (.ref it) "itertools.permutations" := ⟨_, hit, rfl⟩
  unfold pyNext
  refine wpAny_bind (wpAny_attempt (wpAny_callSpecial?_slot (name := Str.ofString "__next__") hT slot_perm_next (wpAny_call_entry slot_perm_next hT entry_perm_next ?_ (args_perm_next _))))
  unfold Builtin.«itertools.permutations.__next__»
  refine wpAny_bind (wpAny_of_eq (a := (Value.ref it, [])) rfl ?_)
  dsimp only
  refine wpAny_bind (wpAny_field hit rfl (x := .ref pool) rfl ?_)
  refine wpAny_bind (w_pool hp hpd ?_)
  refine wpAny_bind (w_int hit rfl (i := 2) (n := (k : Int)) rfl ?_)
  refine wpAny_bind ?_
  unfold Builtin.Itertools.itNumbersFrom
  refine wpAny_bind (wpAny_load hit (wpAny_pure ?_))
  refine wpAny_bind (w_int hit rfl (i := 1) (n := 2) rfl ?_)
  refine wpAny_bind (wpAny_rule ?_)
  exact perm_stop hh hQ
theorem perms_get {n k i : Nat} {s : List Nat × List Nat} (h : (statesP n k)[i]? = some s) : (permsL n k)[i]? = some (s.1.take k) := by
  unfold permsL
  rw [List.getElem?_map, h] <;> rfl
theorem turn_perms {P : Program} {w : World} {K : PySem.W.Frag} {tg : Expr} {n k : Nat} (hn : n ≤ 6) (hk : k = 3 ∨ k = 4) (it pool : Addr) (hne : it ≠ pool) : Turn P w K tg (Itp n k) [it, pool] it (PermSt n k it pool) where
  mem := by simp
  obj := fun i h st b hb => by
    have e' : b = it ∨ b = pool := by simpa using hb
    obtain ⟨⟨po, acc, pn, hp, hpd, _⟩, old, st⟩ := st
    rcases e' with rfl | rfl
    · have key : ∃ s r o nums, h.get? b = some (permObj pool s r o nums) := by
        rcases st with ⟨_, nums, e⟩ | ⟨_, _, s, _, e⟩ | ⟨_, j, s, _, _, e⟩ <;> exact ⟨_, _, _, _, e⟩
      obtain ⟨s, r, o, nums, e⟩ := key
      exact ⟨_, e, fun v z => by cases z⟩
    · exact ⟨po, hp, fun v z => by rw [hpd] at z; cases z⟩
  keep := fun i h h' st kp => by
    obtain ⟨⟨po, acc, pn, hp, hpd, ha⟩, old, st⟩ := st
    refine ⟨⟨po, acc, pn, kp pool (by simp) _ hp, hpd, ha⟩, old, ?_⟩
    rcases st with ⟨a, nums, e⟩ | ⟨a, b, s, c, e⟩ | ⟨a, j, s, b, c, e⟩
    · exact .inl ⟨a, nums, kp it (by simp) _ e⟩
    · exact .inr (.inl ⟨a, b, s, c, kp it (by simp) _ e⟩)
    · exact .inr (.inr ⟨a, j, s, b, c, kp it (by simp) _ e⟩)
  item := by
    intro X hP hw hK hc i pins s σ H E I hf st hg
    subst hP hw hK
    have ok := permOk hn hk
    have hg : i < (permsL n k).length := hg
    have hgs : i < (statesP n k).length := by simpa [permsL] using hg
    obtain ⟨⟨po, acc, pn, hp, hpd, ha⟩, old, st⟩ := st
    have hitlt : it < s.heap.objs.size := by
      rcases st with ⟨_, nums, e⟩ | ⟨_, _, s1, _, e⟩ | ⟨_, j, s1, _, _, e⟩ <;> exact Heap.lt_size e
    have hplt : pool < s.heap.objs.size := Heap.lt_size hp
    -- the state behind this turn
    have fin : ∀ (ns : List Nat × List Nat) (h' : Heap), (statesP n k)[i]? = some ns → k ≤ n → h'.get? it = some (permObj pool 1 k (.ref s.heap.objs.size) (natI (ns.1 ++ ns.2))) → (∀ b o, b ≠ it → s.heap.get? b = some o → h'.get? b = some o) →
        h'.get? s.heap.objs.size = some { cls := .type "tuple", data := .seq ((ns.1.take k).map fun i => acc.getD i .none).toArray } →
        ∃ u, some (Value.ref s.heap.objs.size) = some u ∧ wpAny (model X.prog X.w) X.A (letOwnedTupleGo tg (.ref it) u) (fun _ s2 => ∃ x H', Inv X pins σ H' s2 ∧ RelV x u ∧ (Itp n k).yld i H x H' ∧ PermSt n k it pool (i + 1) s2.heap ∧ ∀ b ∈ [it, pool], H' b = none) E { s with heap := h' } := by
      intro ns h' hns hkn h1 h2 h3
      obtain ⟨l1, l2, l3, _⟩ := ok.st i ns hns
      have hlt : ∀ x ∈ ns.1.take k, x < n := fun x hx => l3 x (List.mem_of_mem_take hx)
      have hl6 : (natsV (ns.1.take k)).length ≤ sizeLine := by rw [natsV_len, List.length_take, sizeLine_eq]; omega
      have new : ObjOk X.prog X.w (upd H s.heap.objs.size (.tup (natsV (ns.1.take k)))) h' s.heap.objs.size (.tup (natsV (ns.1.take k))) :=
        ⟨hl6, _, vals_pick ha hlt, ⟨_, h3, rfl, _, rfl⟩⟩
      have I1 : Inv X pins σ (upd H s.heap.objs.size (.tup (natsV (ns.1.take k)))) { s with heap := h' } :=
        I.turnedNew (t' := s.toks) (ch := [it, pool]) (fun b o hb e => h2 b o (fun z => hb (by simp [z])) e) hf (Nat.le_refl _) new
      refine ⟨_, rfl, go_of (s := { s with heap := h' }) h1 rfl rfl (by decide) ⟨.ref s.heap.objs.size, _, I1, rfl, ⟨_, _, rfl, perms_get hns, I.hok.fresh (Nat.le_refl _), rfl⟩, ⟨⟨po, acc, pn, h2 pool po (Ne.symm hne) hp, hpd, ha⟩, _, .inr (.inr ⟨hkn, i, ns, rfl, hns, h1⟩)⟩, fun b hb => ?_⟩⟩
      have hb' : b < s.heap.objs.size := by
        have e' : b = it ∨ b = pool := by simpa using hb
        rcases e' with rfl | rfl
        · exact hitlt
        · exact hplt
      rw [upd_ne (Nat.ne_of_lt hb')]
      exact (hf b hb).1
    rcases st with ⟨hkn, nums, e⟩ | ⟨hkn, rfl, s1, hs1, e⟩ | ⟨hkn, j, s1, rfl, hs1, e⟩
    · rw [ok.big hkn] at hgs
      simp at hgs
    · obtain ⟨l1, l2, l3, _⟩ := ok.st 0 s1 hs1
      refine perm_first (n := n) e hp hpd (by rw [l1, ha.1]) (by rw [ha.1]; exact hkn) (by rw [ha.1]; exact hn) fun h' h1 h2 h3 => ?_
      exact fin s1 h' hs1 hkn h1 h2 h3
    · obtain ⟨l1, l2, l3, l4⟩ := ok.st j s1 hs1
      have hnx : (statesP n k)[j + 1]? = some (statesP n k)[j + 1] := List.getElem?_eq_getElem hgs
      obtain ⟨m1, m2, m3, _⟩ := ok.st (j + 1) _ hnx
      rw [hnx] at l4
      refine perm_step (n := n) e hp hpd (by rw [l1, ha.1]) (by rw [ha.1]; exact hn) (ix' := (statesP n k)[j + 1].1) (cy' := (statesP n k)[j + 1].2) (by rw [ha.1]; exact l4) (by rw [m1, ha.1]) m2 fun h' h1 h2 h3 => ?_
      exact fin _ h' hnx hkn h1 h2 h3
  done := by
    intro X hP hw hK hc i pins s σ H E I hf st hg
    subst hP hw hK
    have ok := permOk hn hk
    have hg : (permsL n k).length ≤ i := hg
    have hgs : (statesP n k).length ≤ i := by simpa [permsL] using hg
    obtain ⟨⟨po, acc, pn, hp, hpd, ha⟩, old, st⟩ := st
    obtain ⟨f0, f1, f2, f3, f4, f5⟩ := hf it (by simp)
    have fin : ∀ h', (∀ b o, b ≠ it → s.heap.get? b = some o → h'.get? b = some o) → (none : Option Value) = none ∧ Inv X pins σ H { s with heap := h' } := fun h' k => ⟨rfl, I.turned (t' := s.toks) k f0 f1 f3 f4 f5⟩
    rcases st with ⟨hkn, nums, e⟩ | ⟨hkn, rfl, s1, hs1, e⟩ | ⟨hkn, j, s1, rfl, hs1, e⟩
    · exact perm_end2 (I.ok.hd hc) e hp hpd fin
    · have := (List.getElem?_eq_some_iff.mp hs1).1
      omega
    · obtain ⟨l1, l2, l3, l4⟩ := ok.st j s1 hs1
      refine perm_end (I.ok.hd hc) e hp hpd (.inr ⟨rfl, ?_⟩) fin
      rw [List.getElem?_eq_none (by omega)] at l4
      have e1 : (s1.1 ++ s1.2).take acc.size = s1.1 := by rw [ha.1, ← l1]; exact List.take_left
      have e2 : (s1.1 ++ s1.2).drop acc.size = s1.2 := by rw [ha.1, ← l1]; exact List.drop_left
      rw [e1, e2, ha.1]
      exact l4
  self := fun A i s Q E st h => by
    obtain ⟨_, old, st⟩ := st
    have key : ∃ t r o nums, s.heap.get? it = some (permObj pool t r o nums) := by
      rcases st with ⟨_, nums, e⟩ | ⟨_, _, s1, _, e⟩ | ⟨_, j, s1, _, _, e⟩ <;> exact ⟨_, _, _, _, e⟩
    obtain ⟨t, r, o, nums, e⟩ := key
    exact iter_perms e h
end K15
set_option Elab.async false
set_option linter.all false
set_option maxRecDepth 100000
namespace K15
open PySem PySem.Spec PyProof.Rows L2 Evl
/-! ### permutations(range(e), 3) -/
section
variable {X : Cx} {tg : Expr}
def rRng1 : List V → Hp → VK → Prop := fun vs H Q => ∃ j : Int, vs = [.int j] ∧ ∀ p, H p = none → Q (.ref p) (upd H p (.rng 0 j))
theorem cr_range1 : CallR X (.type "range") rRng1 := by
  intro pins s σ H vs us Q I r h
  obtain ⟨j, rfl, q⟩ := h
  obtain ⟨u1, rfl, rj⟩ := vals1 r
  obtain ⟨t, rfl⟩ := rj
  refine call_range_1 ⟨.ref s.heap.objs.size, upd H s.heap.objs.size (.rng 0 j), I.laid (t' := s.toks + 1 + 1) (fun b o e => Heap.get?_push_of_some _ e) (Nat.le_refl _) ?_, rfl, q _ (I.hok.fresh (Nat.le_refl _))⟩
  exact ⟨_, _, _, Heap.get?_push_size _ rfl⟩
def iPerm (k : Nat) (tA : TA) : TI := fun σ H R => tA σ H fun vs H2 => ∃ (q : Addr) (n : Nat), vs = [.ref q, .int (k : Int)] ∧ n ≤ 6 ∧ H2 q = some (.rng 0 (n : Int)) ∧ R (Itp n k) H2
theorem pi_perms {e1 e2 : Expr} {tA : TA} {k : Nat} {p pos : Pos} (hk : k = 3 ∨ k = 4) (hc : X.calm = true) (hg : Gl X "permutations") (hm : X.mg "permutations" = some (.type "itertools.permutations")) (hA : PA X [e1, e2] tA)
    (hs : starEach [e1, e2] X.env = (false, eval e1 X.env) :: starEach [e2] X.env := by rfl)
    (hs2 : (backTo pos (starEach [e2] X.env)).any (·.1) = false := by rfl) :
    PI X tg (.Call (.Name "permutations" p) [e1, e2] [] pos) (iPerm k tA) := by
  refine ⟨fun pins s σ H R I h => ?_⟩
  refine Call_ (ld_glob I hg hm (PyProof.Rows.callWith_type1 (thn (hA.run pos pins s σ H _ I h) fun us s1 ⟨vs, H1, I1, r1, q1⟩ => ?_) hs hs2))
  obtain ⟨q, n, rfl, hn, hq, hR⟩ := q1
  obtain ⟨u1, u2, rfl, ra, rb⟩ := vals2 r1
  obtain rfl : u1 = .ref q := ra
  obtain ⟨t, rfl⟩ := rb
  obtain ⟨t0, t1, t2, hrng⟩ := I1.hok q _ hq
  have hr : IsRange s1.heap q 0 (n : Int) 1 t0 t1 t2 := hrng
  refine call_perms (I1.ok.hd hc) hr hn (by rcases hk with rfl | rfl <;> omega) fun h' tk acc hkp hacc => ?_
  have I2 : Inv X pins σ H1 { s1 with heap := h', toks := tk } := I1.kept hkp
  have es : (h'.push { cls := .type "tuple", data := .seq acc }).objs.size = h'.objs.size + 1 := Heap.size_push ..
  have hpool : ((h'.push { cls := .type "tuple", data := .seq acc }).push (permObj h'.objs.size (if k > n then 2 else 0) k .none ((List.range n).map (fun i : Nat => (i : Int)) ++ (List.range k).map fun i : Nat => (n : Int) - (i : Int)))).get? h'.objs.size = some { cls := .type "tuple", data := .seq acc } :=
    Heap.get?_push_of_some _ (Heap.get?_push_size _ rfl)
  have hitm : ((h'.push { cls := .type "tuple", data := .seq acc }).push (permObj h'.objs.size (if k > n then 2 else 0) k .none ((List.range n).map (fun i : Nat => (i : Int)) ++ (List.range k).map fun i : Nat => (n : Int) - (i : Int)))).get? (h'.objs.size + 1) = some (permObj h'.objs.size (if k > n then 2 else 0) k .none ((List.range n).map (fun i : Nat => (i : Int)) ++ (List.range k).map fun i : Nat => (n : Int) - (i : Int))) := by
    rw [← es]
    exact Heap.get?_push_size _ rfl
  have I3 : Inv X pins σ H1 { s1 with heap := (h'.push { cls := .type "tuple", data := .seq acc }).push (permObj h'.objs.size (if k > n then 2 else 0) k .none ((List.range n).map (fun i : Nat => (i : Int)) ++ (List.range k).map fun i : Nat => (n : Int) - (i : Int))), toks := tk } :=
    I2.kept (t' := tk) fun b o e => Heap.get?_push_of_some _ (Heap.get?_push_of_some _ e)
  have tn0 : PermSt n k (h'.objs.size + 1) h'.objs.size 0 ((h'.push { cls := .type "tuple", data := .seq acc }).push (permObj h'.objs.size (if k > n then 2 else 0) k .none ((List.range n).map (fun i : Nat => (i : Int)) ++ (List.range k).map fun i : Nat => (n : Int) - (i : Int)))) := by
    refine ⟨⟨_, acc, _, hpool, rfl, hacc⟩, .none, ?_⟩
    by_cases hkn : k ≤ n
    · refine .inr (.inl ⟨hkn, rfl, _, (permOk hn hk).zero hkn, ?_⟩)
      rw [hitm, if_neg (by omega)]
      congr 1
      unfold natI
      rw [List.map_append]
      congr 2
      rw [List.map_map]
      apply List.map_congr_left
      intro i hi
      have := List.mem_range.mp hi
      show (n : Int) - (i : Int) = ((n - i : Nat) : Int)
      omega
    · refine .inl ⟨hkn, (List.range n).map (fun i : Nat => (i : Int)) ++ (List.range k).map fun i : Nat => (n : Int) - (i : Int), ?_⟩
      rw [hitm, if_pos (by omega)]
  refine iter_perms hitm ?_
  refine ⟨h'.objs.size + 1, [h'.objs.size + 1, h'.objs.size], PermSt n k (h'.objs.size + 1) h'.objs.size, Itp n k, H1, rfl, I3, turn_perms hn hk _ _ (Nat.succ_ne_self _), tn0, fun b hb => ?_, hR⟩
  have hb' : h'.objs.size ≤ b := by
    have e' : b = h'.objs.size + 1 ∨ b = h'.objs.size := by simpa using hb
    rcases e' with rfl | rfl
    · exact Nat.le_succ _
    · exact Nat.le_refl _
  exact I2.fpOk hb' (I2.hok.fresh hb')
end
end K15
set_option Elab.async false
set_option linter.all false
set_option maxRecDepth 100000
/-! K15: flaw_in, flaw -/
namespace K15
open PySem PySem.Spec PyProof.Rows L2 Evl
theorem for_perms {n k : Nat} {g : TG} {tb : TS} {D : Ends} {σ : L2.St} {H : Hp} (Pv : Nat → L2.St → Hp → Prop) (h0 : Pv 0 σ H)
    (hs : ∀ i c p σ H, (permsL n k)[i]? = some c → H p = none → Pv i σ H → g (.ref p) σ (upd H p (.tup (natsV c))) fun σ2 H2 => tb { D with nx := Pv (i + 1), ct := Pv (i + 1), bk := D.nx } σ2 H2) (hd : ∀ σ H, Pv (permsL n k).length σ H → D.nx σ H) :
    ∃ W : Nat → Nat → L2.St → Hp → Prop, (∃ m, W 0 m σ H) ∧ ∀ i m σ H, W i m σ H →
      ((Itp n k).stop i H ∧ D.nx σ H) ∨ ((Itp n k).go i H ∧ ∃ N : L2.St → Hp → Prop, (∀ σ' H', N σ' H' → ∃ m', m' < m ∧ W (i + 1) m' σ' H') ∧ ∀ x H', (Itp n k).yld i H x H' → g x σ H' fun σ2 H2 => tb { D with nx := N, ct := N, bk := D.nx } σ2 H2) := by
  refine ⟨fun i m σ H => m = (permsL n k).length - i ∧ i ≤ (permsL n k).length ∧ Pv i σ H, ⟨(permsL n k).length, by simp, Nat.zero_le _, h0⟩, ?_⟩
  rintro i m σ H ⟨rfl, hi, p⟩
  by_cases hlt : i < (permsL n k).length
  · refine .inr ⟨hlt, Pv (i + 1), fun σ' H' p' => ⟨(permsL n k).length - (i + 1), by omega, rfl, hlt, p'⟩, fun x H' y => ?_⟩
    obtain ⟨q, c, rfl, hc, hq, rfl⟩ := y
    exact hs i c q σ H hc hq p
  · have e : i = (permsL n k).length := by omega
    subst e
    exact .inl ⟨Nat.le_refl _, hd σ H p⟩
theorem s_forP {K : PySem.W.Frag} {ta : TE} {n k j : Nat} {tb : TS} {D : Ends} {σ : L2.St} {H : Hp} (h : Ev ta σ H (vI n)) (hn : n ≤ 6) (Pv : Nat → L2.St → Hp → Prop) (h0 : ∀ H1, Ex H H1 → Pv 0 σ H1)
    (hs : ∀ i c p σ' H', (permsL n k)[i]? = some c → H' p = none → Pv i σ' H' → tb { D with nx := Pv (i + 1), ct := Pv (i + 1), bk := D.nx } (σ'.set j (some (.ref p))) (upd H' p (.tup (natsV c)))) (hd : ∀ σ' H', Pv (permsL n k).length σ' H' → D.nx σ' H') :
    tFor (iPerm k (tCons (tCB rRng1 (tCons ta tNil)) (tCons (tC (.int (k : Int))) tNil))) (gName j) tb D σ H := h H (Ex.refl H) _ fun H1 e1 => ⟨_, rfl, fun p hp => ⟨p, n, rfl, hn, upd_same, for_perms Pv (h0 _ (e1.trans (Ex.new hp))) hs hd⟩⟩
theorem q_forP {K : PySem.W.Frag} {ta : TE} {n k j : Nat} {tb tz : TS} {D : Ends} {σ : L2.St} {H : Hp} (h : Ev ta σ H (vI n)) (hn : n ≤ 6) (Pv : Nat → L2.St → Hp → Prop) (h0 : ∀ H1, Ex H H1 → Pv 0 σ H1)
    (hs : ∀ i c p σ' H', (permsL n k)[i]? = some c → H' p = none → Pv i σ' H' → tb { D with nx := Pv (i + 1), ct := Pv (i + 1), bk := tz D } (σ'.set j (some (.ref p))) (upd H' p (.tup (natsV c)))) (hd : ∀ σ' H', Pv (permsL n k).length σ' H' → tz D σ' H') :
    tSeq (tFor (iPerm k (tCons (tCB rRng1 (tCons ta tNil)) (tCons (tC (.int (k : Int))) tNil))) (gName j) tb) tz D σ H := s_forP (K := K) (D := { D with nx := tz D }) h hn Pv h0 hs hd
theorem len3 {c : List Nat} (h : c.length = 3) : ∃ a b d, c = [a, b, d] := by
  match c, h with
  | [a, b, d], _ => exact ⟨a, b, d, rfl⟩
theorem len4 {c : List Nat} (h : c.length = 4) : ∃ a b d e, c = [a, b, d, e] := by
  match c, h with
  | [a, b, d, e], _ => exact ⟨a, b, d, e, rfl⟩
variable {P : Program} {w : World} {K : PySem.W.Frag} {mg : Str → Option Value} {base : Heap} {F : Nat → FuncData}
def FlawQ (n : Nat) (T : Tb) (H : Hp) (Q : VK) : Prop := (NoFlaw n T → ∀ H', Ex H H' → Q .non H') ∧ ∀ k c p H', FlawIs n T k c → Ex H H' → H' p = some (.tup (flawV k c)) → Q (.ref p) H'
def spFlawIn : Sp := fun vs H Q _ => ∃ v n T, vs = [v] ∧ TabAt H v n T ∧ n ≤ 6 ∧ FlawQ n T H Q
/-- (word,) + tasks -/
theorem ret_flaw {D : Ends} {σ : L2.St} {H : Hp} {p : Addr} {k : Bool} {c : List Nat} (h1 : σ[1]? = some (some (V.ref p))) (hp : H p = some (.tup (natsV c))) (hc : c ≠ []) (h7 : c.length ≤ 7)
    (q : ∀ r H', Ex H H' → H' r = some (.tup (flawV k c)) → D.rt (.ref r) H') : tRet (tOp (rCatA K) (tTup (tCons (tC (.str (kS k))) tNil)) (tVar 1)) D σ H := by
  refine ⟨(by show 1 ≤ sizeLine; decide), fun p1 hp1 => ?_⟩
  have hne : natsV c ≠ [] := by
    unfold natsV
    simpa using hc
  refine ⟨_, h1, p1, p, _, _, rfl, rfl, st_of upd_same, st_of (by rw [upd_ne (ne_of_none hp hp1)]; exact hp), (by show 1 + (natsV c).length ≤ sizeLine; rw [natsV_len, sizeLine_eq]; omega), (fun z => nomatch z), (fun _ z => absurd z hne), fun _ _ r hr => ?_⟩
  exact q r _ ((Ex.new hp1).trans (Ex.new hr)) upd_same
theorem sc_flaw_in : FnScope ["table", "tasks"] ["table"] (defScope s_flaw_in) := ⟨rfl, rfl, rfl, by decide +kernel, rfl, by decide +kernel, by decide +kernel⟩
theorem ok_flaw_in (T : Tx K w mg F) (G_is_gap : FnOk P w K mg base CX0 1 (He.ga K "is_gap") (F 20) ["table", "tasks"] spGap) (G_is_n : FnOk P w K mg base CX0 1 (He.ga K "is_n") (F 21) ["table", "tasks"] spEnn) : FnOk P w K mg base CX0 2 (He.ga K "flaw_in") (F 22) ["table"] spFlawIn := by
  refine T.d_flaw_in.ok sc_flaw_in (fun vs H Q E h => ?_) (fun cdv A outer s H vs Q E hr h => ⟨_, PSs.nox (pss_cons (ps_for PassesOwn.never rfl (pi_perms (k := 3) (by decide) rfl (by rfl) T.pm (pa_cons (pe_callTy cr_range1 (by rfl) T.z_range (by decide +kernel) (pa_cons (pe_callB (cLen (K := K) rfl) (by rfl) T.z_len (by decide +kernel) (pa_cons (pv 0) pa_nil)) pa_nil)) (pa_cons pe_int pa_nil))) (pg_name (i := 1) sc_flaw_in.nd rfl (Or.inl rfl)) (pss_one (ps_if (pt_val (pe_call G_is_gap (hr.mono (by decide)) rfl T.m_is_gap T.d_is_gap.kp T.b_is_gap .nil pass0 (pa_cons (pv 0) (pa_cons (pv 1) pa_nil)))) (pss_one (ps_ret (pe_op (oCatA (K := K) rfl) (pe_tup (pa_cons pe_str pa_nil)) (pv 1)))) pss_nil)))
      (pss_cons (ps_for PassesOwn.never rfl (pi_perms (k := 4) (by decide) rfl (by rfl) T.pm (pa_cons (pe_callTy cr_range1 (by rfl) T.z_range (by decide +kernel) (pa_cons (pe_callB (cLen (K := K) rfl) (by rfl) T.z_len (by decide +kernel) (pa_cons (pv 0) pa_nil)) pa_nil)) (pa_cons pe_int pa_nil))) (pg_name (i := 1) sc_flaw_in.nd rfl (Or.inl rfl)) (pss_one (ps_if (pt_val (pe_call G_is_n (hr.mono (by decide)) rfl T.m_is_n T.d_is_n.kp T.b_is_n .nil pass0 (pa_cons (pv 0) (pa_cons (pv 1) pa_nil)))) (pss_one (ps_ret (pe_op (oCatA (K := K) rfl) (pe_tup (pa_cons pe_str pa_nil)) (pv 1)))) pss_nil)))
      (pss_one (ps_ret pe_non)))), ?_⟩)
  · obtain ⟨v, n, T, rfl, _⟩ := h
    rfl
  obtain ⟨v, n, T', rfl, hT, hn, q1, q2⟩ := h
  obtain ⟨a, rs, rfl, ha, hrl, _⟩ := id hT
  have ok3 := permOk hn (.inl rfl : 3 = 3 ∨ 3 = 4)
  have ok4 := permOk hn (.inr rfl : 4 = 3 ∨ 4 = 4)
  have elen : ∀ {H0 : Hp} {σ0 : L2.St}, Ex H H0 → σ0[0]? = some (some (V.ref a)) → Ev (tCB (rLen K) (tCons (tVar 0) tNil)) σ0 H0 (vI n) := fun {H0 σ0} h0 hs => ev_is (ev_lenT (ev_var hs) (h0 _ _ ha)) (by rw [List.length_map, hrl])
  refine q_forP (K := K) (elen (Ex.refl H) rfl) hn (fun i σ' H' => (∃ x, σ' = [some (.ref a), x]) ∧ Ex H H' ∧ ∀ j x y z, j < i → (permsL n 3)[j]? = some [x, y, z] → ¬ Gap T' x y z) (fun H1 e1 => ⟨⟨none, rfl⟩, e1, fun j x y z hj => absurd hj (by omega)⟩) ?_ ?_
  · rintro i c p σ' H1 hc hp ⟨⟨x, rfl⟩, e1, hno⟩
    obtain ⟨l3, nd, lt⟩ := ok3.ps c (List.mem_of_getElem? hc)
    obtain ⟨a1, b1, c1, rfl⟩ := len3 l3
    have e2 := e1.trans (Ex.new (o := .tup (natsV [a1, b1, c1])) hp)
    refine s_when (b := decide (Gap T' a1 b1 c1)) (et_B (ev_call (vs := [.ref a, .ref p]) (ea_cons (ev_var rfl) (ea_cons (ev_var rfl) ea_nil)) fun H3 e3 Q3 q3 E3 => ⟨.ref a, p, n, T', a1, b1, c1, rfl, hT.mono (e2.trans e3), e3 _ _ upd_same, lt _ (by simp), lt _ (by simp), lt _ (by simp), fun H4 e4 => q3 H4 e4⟩)) (fun hx H3 e3 => ?_) (fun hx H3 e3 => ?_)
    · have g := of_decide_eq_true hx
      exact ret_flaw (K := K) (k := true) rfl (e3 _ _ upd_same) (by simp) (by simp) fun r H4 e4 h4 => q2 true _ r H4 ⟨nd, lt, a1, b1, c1, rfl, g⟩ (e2.trans (e3.trans e4)) h4
    · have g := of_decide_eq_false hx
      refine ⟨⟨_, rfl⟩, e2.trans e3, fun j x y z hj hh => ?_⟩
      by_cases hji : j = i
      · subst hji
        rw [hc] at hh
        cases hh
        exact g
      · exact hno j x y z (by omega) hh
  rintro σ' H1 ⟨⟨x, rfl⟩, e1, hno⟩
  refine q_forP (K := K) (elen e1 rfl) hn (fun i σ' H' => (∃ x, σ' = [some (.ref a), x]) ∧ Ex H H' ∧ ∀ j x y z u, j < i → (permsL n 4)[j]? = some [x, y, z, u] → ¬ Enn T' x y z u) (fun H2 e2 => ⟨⟨_, rfl⟩, e1.trans e2, fun j x y z u hj => absurd hj (by omega)⟩) ?_ ?_
  · rintro i c p σ' H2 hc hp ⟨⟨x, rfl⟩, e2, hno4⟩
    obtain ⟨l3, nd, lt⟩ := ok4.ps c (List.mem_of_getElem? hc)
    obtain ⟨a1, b1, c1, d1, rfl⟩ := len4 l3
    have e3 := e2.trans (Ex.new (o := .tup (natsV [a1, b1, c1, d1])) hp)
    refine s_when (b := decide (Enn T' a1 b1 c1 d1)) (et_B (ev_call (vs := [.ref a, .ref p]) (ea_cons (ev_var rfl) (ea_cons (ev_var rfl) ea_nil)) fun H3 e4 Q3 q3 E3 => ⟨.ref a, p, n, T', a1, b1, c1, d1, rfl, hT.mono (e3.trans e4), e4 _ _ upd_same, lt _ (by simp), lt _ (by simp), lt _ (by simp), lt _ (by simp), fun H4 e5 => q3 H4 e5⟩)) (fun hx H3 e4 => ?_) (fun hx H3 e4 => ?_)
    · have g := of_decide_eq_true hx
      exact ret_flaw (K := K) (k := false) rfl (e4 _ _ upd_same) (by simp) (by simp) fun r H4 e5 h4 => q2 false _ r H4 ⟨nd, lt, a1, b1, c1, d1, rfl, g⟩ (e3.trans (e4.trans e5)) h4
    · have g := of_decide_eq_false hx
      refine ⟨⟨_, rfl⟩, e3.trans e4, fun j x y z u hj hh => ?_⟩
      by_cases hji : j = i
      · subst hji
        rw [hc] at hh
        cases hh
        exact g
      · exact hno4 j x y z u (by omega) hh
  rintro σ' H2 ⟨⟨x, rfl⟩, e2, hno4⟩
  refine s_ret ev_c fun H3 e3 => q1 ⟨fun x y z hx hy hz nd g => ?_, fun x y z u hx hy hz hu nd g => ?_⟩ H3 (e2.trans e3)
  · obtain ⟨j, hj, e⟩ := List.mem_iff_getElem.mp (perm3 hn hx hy hz nd)
    exact hno j x y z hj (by rw [List.getElem?_eq_getElem hj, e]) g
  · obtain ⟨j, hj, e⟩ := List.mem_iff_getElem.mp (perm4 hn hx hy hz hu nd)
    exact hno4 j x y z u hj (by rw [List.getElem?_eq_getElem hj, e]) g
def spFlaw : Sp := fun vs H Q _ => ∃ v n T, vs = [v] ∧ TabAt H v n T ∧ TabOk n T ∧ 1 ≤ n ∧ n ≤ 6 ∧ FlawQ n T H Q
theorem sc_flaw : FnScope ["table"] ["table"] (defScope s_flaw) := ⟨rfl, rfl, rfl, by decide +kernel, rfl, by decide +kernel, by decide +kernel⟩
theorem ok_flaw (T : Tx K w mg F) (G_check_table : FnOk P w K mg base CX0 3 (He.ga K "check_table") (F 15) ["table"] spCheck) (G_flaw_in : FnOk P w K mg base CX0 2 (He.ga K "flaw_in") (F 22) ["table"] spFlawIn) : FnOk P w K mg base CX0 4 (He.ga K "flaw") (F 23) ["table"] spFlaw := by
  refine T.d_flaw.ok sc_flaw (fun vs H Q E h => ?_) (fun cdv A outer s H vs Q E hr h => ⟨_, PSs.nox (pss_cons (ps_expr (pe_call G_check_table (hr.mono (by decide)) rfl T.m_check_table T.d_check_table.kp T.b_check_table .nil pass0 (pa_cons (pv 0) pa_nil)))
      (pss_one (ps_ret (pe_call G_flaw_in (hr.mono (by decide)) rfl T.m_flaw_in T.d_flaw_in.kp T.b_flaw_in .nil pass0 (pa_cons (pv 0) pa_nil))))), ?_⟩)
  · obtain ⟨v, n, T, rfl, _⟩ := h
    rfl
  obtain ⟨v, n, T', rfl, hT, hok, h1, hn, q1, q2⟩ := h
  refine q_drop (v := .non) (ev_call (vs := [v]) (ea_cons (ev_var rfl) ea_nil) fun H1 e1 Q1 q1 E1 => ⟨_, n, T', rfl, hT.mono e1, hok, h1, by omega, fun H2 e2 => q1 H2 e2⟩) fun H1 e1 => ?_
  exact ⟨_, rfl, v, n, T', rfl, hT.mono e1, hn, fun nf H2 e2 => q1 nf H2 (e1.trans e2), fun k c p H2 hf e2 h2 => q2 k c p H2 hf (e1.trans e2) h2⟩
end K15
set_option Elab.async false
set_option linter.all false
set_option maxRecDepth 100000
/-! K15: reached, parts_by -/
namespace K15
open PySem PySem.Spec PyProof.Rows L2 Evl
section
variable {K : PySem.W.Frag} {σ : L2.St} {H H' : Hp} {ta tb tc te : TE}
theorem flat_nats (l : List Nat) : (natsV l).all flatV = true := by
  unfold natsV
  simp [flatV]
theorem in_nats (x : Nat) (l : List Nat) : inV (vI x) (natsV l) = decide (x ∈ l) := by
  unfold inV natsV
  rw [Bool.eq_iff_iff, decide_eq_true_iff, List.any_eq_true]
  constructor
  · rintro ⟨y, hy, e⟩
    obtain ⟨k, hk, rfl⟩ := List.mem_map.mp hy
    have e1 : ((k : Int) == (x : Int)) = true := e
    have : k = x := by
      have := eq_of_beq e1
      omega
    rw [← this]; exact hk
  · intro h
    refine ⟨vI x, List.mem_map.mpr ⟨x, h, rfl⟩, ?_⟩
    show ((x : Int) == (x : Int)) = true
    simp
theorem in_rels (r : R) (gs : List R) : inV (vR r) (gs.map vR) = decide (r ∈ gs) := by
  unfold inV
  rw [Bool.eq_iff_iff, decide_eq_true_iff, List.any_eq_true]
  constructor
  · rintro ⟨y, hy, e⟩
    obtain ⟨k, hk, rfl⟩ := List.mem_map.mp hy
    have e1 : (tk k == tk r) = true := e
    have : k = r := tk_inj (eq_of_beq e1)
    rw [← this]; exact hk
  · intro h
    refine ⟨vR r, List.mem_map.mpr ⟨r, h, rfl⟩, ?_⟩
    show (tk r == tk r) = true
    simp
theorem flat_rels (gs : List R) : (gs.map vR).all flatV = true := by simp [flatV]
/-- which of the tasks a comprehension gives, by place; the same by the task -/
theorem filt_at (l : List Nat) (p : Nat → Bool) : ((List.range l.length).filter fun i => p (at_ l i)).map (fun i => vI (at_ l i)) = natsV (l.filter p) := by
  have key : ∀ l : List Nat, ((List.range l.length).filter fun i => p (at_ l i)).map (fun i => at_ l i) = l.filter p := by
    intro l
    have e : (List.range l.length).map (at_ l) = l := by
      apply List.ext_getElem?
      intro i
      by_cases hi : i < l.length
      · simp [hi, at_]
      · rw [List.getElem?_eq_none (by simp; omega), List.getElem?_eq_none (by omega)]
    have q := List.filter_map (f := at_ l) (p := p) (l := List.range l.length)
    rw [e] at q
    rw [q]
    rfl
  unfold natsV
  rw [← key l, List.map_map]
  rfl
theorem nodup_le {l t : List Nat} (nd : l.Nodup) (h : ∀ x ∈ l, x ∈ t) : l.length ≤ t.length := by
  induction l generalizing t with
  | nil => simp
  | cons a r ih =>
    have nd' := List.nodup_cons.mp nd
    have ha : a ∈ t := h a (.head _)
    have := ih (t := t.erase a) nd'.2 (fun x hx => by
      have hne : x ≠ a := fun e => nd'.1 (e ▸ hx)
      exact (List.mem_erase_of_ne hne).mpr (h x (.tail _ hx)))
    rw [List.length_erase_of_mem ha] at this
    have hpos : 0 < t.length := List.length_pos_iff.mpr (List.ne_nil_of_mem ha)
    simp
    omega
theorem perm_nats {ns : List Int} {l : List Nat} (h : ns.Perm (l.map fun k : Nat => (k : Int))) : ∃ m : List Nat, m.Perm l ∧ ns = m.map fun k : Nat => (k : Int) := by
  refine ⟨ns.map Int.toNat, ?_, ?_⟩
  · have q := h.map Int.toNat
    rw [List.map_map] at q
    have e : l.map (Int.toNat ∘ fun k : Nat => (k : Int)) = l := by
      conv => rhs; rw [← List.map_id l]
      apply List.map_congr_left
      intro k _
      simp
    rwa [e] at q
  · rw [List.map_map]
    conv => lhs; rw [← List.map_id ns]
    apply List.map_congr_left
    intro z hz
    obtain ⟨k, _, rfl⟩ := List.mem_map.mp (h.mem_iff.mp hz)
    simp
end
variable {P : Program} {w : World} {K : PySem.W.Frag} {mg : Str → Option Value} {base : Heap} {F : Nat → FuncData}
/-- what is reached from f within the tasks -/
def Reach (T : Tb) (gs : List R) (tasks : List Nat) (f : Nat) (fd : List Nat) : Prop := ∀ S : Nat → Prop, S f → (∀ x y, x ∈ tasks → y ∈ tasks → S x → T x y ∈ gs → S y) → ∀ x ∈ fd, S x
def spReached : Sp := fun vs H Q _ => ∃ v ta ga n T tasks gs f, vs = [v, .ref ta, vI f, .ref ga] ∧ TabAt H v n T ∧ H ta = some (.lst (natsV tasks)) ∧ (∀ x ∈ tasks, x < n) ∧ tasks.Nodup ∧ f ∈ tasks ∧ tasks.length ≤ 7 ∧ H ga = some (.lst (gs.map vR)) ∧
  ∀ p fd H', H p = none → Ex H H' → H' p = some (.lst (natsV fd)) → fd.Nodup → (∀ x ∈ fd, x ∈ tasks) → f ∈ fd → Reach T gs tasks f fd → Q (.ref p) H'
theorem sc_reached : FnScope ["table", "tasks", "first", "good", "found", "at", "one"] ["table", "tasks", "first", "good"] (defScope s_reached) := ⟨rfl, rfl, rfl, by decide +kernel, rfl, by decide +kernel, by decide +kernel⟩
theorem ok_reached (T : Tx K w mg F) : FnOk P w K mg base CX0 1 (He.ga K "reached") (F 26) ["table", "tasks", "first", "good"] spReached := by
  refine T.d_reached.ok sc_reached (fun vs H Q E h => ?_) (fun cdv A outer s H vs Q E hr h => ⟨_, PSs.nox (pss_cons (ps_set (i := 4) sc_reached.nd rfl (Or.inr rfl) (pe_lst (pa_cons (pv 2) pa_nil)))
      (pss_cons (ps_set (i := 5) sc_reached.nd rfl (Or.inr rfl) pe_int)
      (pss_cons (ps_while PassesOwn.never (pt_cmpR op_lt (pv 5) (pe_callB (cLen (K := K) rfl) (by rfl) T.z_len (by decide +kernel) (pa_cons (pv 4) pa_nil)) (nomark _)) (pss_cons (ps_expr (peBm (K := K) rfl PySem.F.plainAttrs_list PySem.F.slot_list_extend PySem.F.type_list_extend mt_extend (pv 4) (pa_cons (pe_lc (own := [("one", 6)]) (g := gName 6) rfl sc_reached.nd (piL (K := K) rfl (pv 1)) (blkOk_by (by kernel_rfl)) (fun _ _ _ _ _ => pg_name (i := 6) sc_reached.nd rfl (Or.inl rfl)) (fun _ _ _ _ _ => (pts_one (PW.pt (pw_and (pt_cmpR (oNotIn (K := K) rfl) (pv 6) (pv 4) (by rfl)) (pw_and1 (pt_cmpR (oIn (K := K) rfl) (pe_ix (ixT (K := K) rfl) (pe_ix (ixT (K := K) rfl) (pv 0) (pe_ix (ixL (K := K) rfl) (pv 4) (pv 5) (fun _ _ => rfl)) (fun _ _ => rfl)) (pv 6) (fun _ _ => rfl)) (pv 3) (by rfl))))))) (fun _ _ _ _ _ => (pv 6))) pa_nil)))
      (pss_one (ps_set (i := 5) sc_reached.nd rfl (Or.inr rfl) (pe_op op_add (pv 5) pe_int)))))
      (pss_one (ps_ret (pv 4)))))), ?_⟩)
  · obtain ⟨v, ta, ga, n, T, tasks, gs, f, rfl, _⟩ := h
    rfl
  obtain ⟨v, ta, ga, n, T', tasks, gs, f, rfl, hT, hta, hlt, hnd, hf, h7, hga, q⟩ := h
  refine q_asgL (xs := natsV [f]) (el_lst (ea_cons (ev_var rfl) ea_nil) (by show 1 ≤ 100000; decide)) fun fa H1 hfa e1 h1 => ?_
  refine q_asg (v := vI 0) ev_c fun H2 e2 => ?_
  refine q_while (fun m σ' H' => ∃ fd k x6, σ' = [some v, some (.ref ta), some (vI f), some (.ref ga), some (.ref fa), some (vI k), x6] ∧ m = tasks.length - k ∧ k ≤ fd.length ∧ Ex H H' ∧ H' fa = some (.lst (natsV fd)) ∧ fd.Nodup ∧ (∀ x ∈ fd, x ∈ tasks) ∧ f ∈ fd ∧ Reach T' gs tasks f fd)
    tasks.length ⟨[f], 0, none, rfl, by simp, by simp, e1.trans e2, e2 _ _ h1, by simp, by simpa using hf, by simp, fun S hs _ x hx => by
      have : x = f := by simpa using hx
      rw [this]; exact hs⟩ ?_
  rintro m σ' H3 ⟨fd, k, x6, rfl, rfl, hk, e3, hfd, nd, sub, hff, hre⟩
  have hlen := nodup_le nd sub
  refine ⟨decide ((k : Int) < ((natsV fd).length : Int)), et_test (ev_ltI (ev_var rfl) (ev_lenL (ev_var rfl) hfd)), fun hx H4 e4 => ?_, fun hx H4 e4 => ?_⟩
  · have hkl : k < fd.length := by
      have := of_decide_eq_true hx
      rw [natsV_len] at this
      omega
    refine ⟨fun σ' H' => ∃ fd' x6, σ' = [some v, some (.ref ta), some (vI f), some (.ref ga), some (.ref fa), some (vI (k + 1)), x6] ∧ k + 1 ≤ fd'.length ∧ Ex H H' ∧ H' fa = some (.lst (natsV fd')) ∧ fd'.Nodup ∧ (∀ x ∈ fd', x ∈ tasks) ∧ f ∈ fd' ∧ Reach T' gs tasks f fd',
      fun σ2 H5 ⟨fd', y6, hs, hk', r⟩ => ⟨tasks.length - (k + 1), by omega, fd', k + 1, y6, hs, rfl, hk', r⟩, ?_⟩
    have hfd4 := e4 _ _ hfd
    have he4 := e3.trans e4
    have hxk : at_ fd k ∈ tasks := sub _ (at_mem hkl)
    refine ⟨_, rfl, .inl ⟨rfl, _, sq_of hfd4⟩, ?_⟩
    refine lcL (fun i => !decide (at_ tasks i ∈ fd) && decide (T' (at_ fd k) (at_ tasks i) ∈ gs)) (fun _ i v _ => v = vI (at_ tasks i)) (ev_var rfl) (sq_of (he4 _ _ hta)) (by rw [natsV_len]; omega) (fun _ => rfl) (fun _ _ => stays_val (g := fun i => vI (at_ tasks i))) (fun i x H5 e5 hx => ?_)
      (fun i x D H5 zs e5 _ _ hx _ => ?_) (fun D ys H5 hD e5 h5 g => ?_)
    · obtain ⟨hi, rfl⟩ := natsV_at hx
      refine et_and (et_is (et_test (ev_op (ev_var rfl) (ev_var rfl) (rv_niL (sq_of (e5 _ _ hfd4)) rfl (flat_nats _)))) (by rw [in_nats])) fun _ => et_is (et_test (ev_op (ev_tab (hT.mono (he4.trans e5)) (hlt _ hxk) (hlt _ (at_mem hi)) (ev_var rfl) (ev_ixNL (ev_var rfl) rfl (ev_var rfl) (e5 _ _ hfd4) hkl) (ev_var rfl)) (ev_var rfl) (rv_isL (sq_of ((he4.trans e5) _ _ hga)) rfl (flat_rels _)))) (in_rels _ _)
    · obtain ⟨hi, rfl⟩ := natsV_at hx
      exact Ev.p (ev_var rfl)
    · have ey : ys = natsV (tasks.filter fun x => !decide (x ∈ fd) && decide (T' (at_ fd k) x ∈ gs)) := by
        rw [g.eq (g := fun i => vI (at_ tasks i)) (fun _ _ h => h), natsV_len]
        exact filt_at tasks fun x => !decide (x ∈ fd) && decide (T' (at_ fd k) x ∈ gs)
      subst ey
      generalize hnew : tasks.filter (fun x => !decide (x ∈ fd) && decide (T' (at_ fd k) x ∈ gs)) = new at h5
      have hmem : ∀ x ∈ new, x ∈ tasks ∧ x ∉ fd ∧ T' (at_ fd k) x ∈ gs := fun x hx => by
        rw [← hnew] at hx
        obtain ⟨h1, h2⟩ := List.mem_filter.mp hx
        simp only [Bool.and_eq_true, Bool.not_eq_true', decide_eq_false_iff_not, decide_eq_true_eq] at h2
        exact ⟨h1, h2.1, h2.2⟩
      have hndn : new.Nodup := by
        rw [← hnew]
        exact hnd.sublist List.filter_sublist
      have hnl : new.length ≤ tasks.length := nodup_le hndn fun x hx => (hmem x hx).1
      refine ⟨fa, D, _, _, rfl, rfl, e5 _ _ hfd4, h5, by rw [natsV_len, natsV_len, sizeLine_eq]; omega, ?_⟩
      have efin : Ex H (upd H5 fa (.lst (natsV fd ++ natsV new))) := Ex.mut (he4.trans e5) hfa
      refine s_asg (ev_addI (ev_var rfl) ev_c) fun H6 e6 => ?_
      refine ⟨fd ++ new, x6, rfl, by rw [List.length_append]; omega, efin.trans e6, ?_, ?_, ?_, List.mem_append_left _ hff, ?_⟩
      · rw [e6 _ _ upd_same]
        simp [natsV]
      · rw [List.nodup_append]
        exact ⟨nd, hndn, fun x hx y hy e => (hmem y hy).2.1 (e ▸ hx)⟩
      · intro x hx
        rcases List.mem_append.mp hx with h | h
        · exact sub x h
        · exact (hmem x h).1
      · intro S hs cl x hx
        rcases List.mem_append.mp hx with h | h
        · exact hre S hs cl x h
        · obtain ⟨h1, _, h3⟩ := hmem x h
          exact cl (at_ fd k) x hxk h1 (hre S hs cl _ (at_mem hkl)) h3
  · exact s_ret (ev_var rfl) fun H5 e5 => q fa fd H5 hfa (e3.trans (e4.trans e5)) (e5 _ _ (e4 _ _ hfd)) nd sub hff hre
end K15
set_option Elab.async false
set_option linter.all false
set_option maxRecDepth 100000
/-! K15: parts_by -/
namespace K15
open PySem PySem.Spec PyProof.Rows L2 Evl
section
variable {K : PySem.W.Frag} {σ : L2.St} {H H' : Hp} {ta tb tc te : TE} {tz : TS} {D : Ends}
theorem q_raw {i : Nat} (h : te σ H fun v H1 => tz D (σ.set i (some v)) H1) : tSeq (tAsg te (gName i)) tz D σ H := h
theorem s_raw {i : Nat} (h : te σ H fun v H1 => D.nx (σ.set i (some v)) H1) : tAsg te (gName i) D σ H := h
theorem r_raw (h : te σ H D.rt) : tRet te D σ H := h
theorem c_call {sp : Sp} {E : XK} {ta : TA} {Q : VK} {vs : List V} (h : EvA ta σ H vs) (k : ∀ H1, Ex H H1 → sp (vs ++ []) H1 Q E) : tCall sp [] E ta σ H Q := h H (Ex.refl H) _ k
theorem split_perm {left fd : List Nat} (nd : left.Nodup) (ndf : fd.Nodup) (sub : ∀ x ∈ fd, x ∈ left) : (fd ++ left.filter fun x => !decide (x ∈ fd)).Perm left := by
  have h1 : (left.filter fun x => decide (x ∈ fd)).Perm fd := by
    rw [List.perm_ext_iff_of_nodup (nd.sublist List.filter_sublist) ndf]
    intro a
    rw [List.mem_filter]
    constructor
    · rintro ⟨_, h⟩
      exact of_decide_eq_true h
    · intro h
      exact ⟨sub a h, decide_eq_true h⟩
  have h2 := List.filter_append_perm (fun x => decide (x ∈ fd)) left
  exact (h1.symm.append_right _).trans h2
end
/-- groups: lists of tasks, none of them the list at fa -/
def Grp (H : Hp) (fa : Addr) (gas : List Addr) (grs : List (List Nat)) : Prop := gas.length = grs.length ∧ ∀ (i : Nat) (a : Addr), gas[i]? = some a → ∃ g, grs[i]? = some g ∧ a ≠ fa ∧ H a = some (.lst (natsV g))
theorem Grp.mono {H H' : Hp} {fa : Addr} {gas : List Addr} {grs : List (List Nat)} (h : Grp H fa gas grs) (e : Ex H H') : Grp H' fa gas grs := ⟨h.1, fun i a hi => by
  obtain ⟨g, h1, h2, h3⟩ := h.2 i a hi
  exact ⟨g, h1, h2, e _ _ h3⟩⟩
theorem Grp.upd {H : Hp} {fa : Addr} {o : HO} {gas : List Addr} {grs : List (List Nat)} (h : Grp H fa gas grs) : Grp (upd H fa o) fa gas grs := ⟨h.1, fun i a hi => by
  obtain ⟨g, h1, h2, h3⟩ := h.2 i a hi
  exact ⟨g, h1, h2, by rw [upd_ne h2]; exact h3⟩⟩
theorem Grp.snoc {H : Hp} {fa p : Addr} {gas : List Addr} {grs : List (List Nat)} {g : List Nat} (h : Grp H fa gas grs) (hne : p ≠ fa) (hp : H p = some (.lst (natsV g))) : Grp H fa (gas ++ [p]) (grs ++ [g]) := ⟨by simp [h.1], fun i a hi => by
  by_cases hl : i < gas.length
  · rw [List.getElem?_append_left hl] at hi
    obtain ⟨g', h1, h2, h3⟩ := h.2 i a hi
    exact ⟨g', by rw [List.getElem?_append_left (by rw [← h.1]; exact hl)]; exact h1, h2, h3⟩
  · have hi' : i = gas.length := by
      have := (List.getElem?_eq_some_iff.mp hi).1
      simp at this
      omega
    subst hi'
    have : p = a := by simpa using hi
    subst this
    exact ⟨g, by rw [h.1]; simp, hne, hp⟩⟩
variable {P : Program} {w : World} {K : PySem.W.Frag} {mg : Str → Option Value} {base : Heap} {F : Nat → FuncData}
def spPartsBy : Sp := fun vs H Q _ => ∃ v ta ga n T tasks gs, vs = [v, .ref ta, .ref ga] ∧ TabAt H v n T ∧ H ta = some (.lst (natsV tasks)) ∧ (∀ x ∈ tasks, x < n) ∧ tasks.Nodup ∧ tasks ≠ [] ∧ tasks.length ≤ 7 ∧ H ga = some (.lst (gs.map vR)) ∧
  ∀ p gas grs H', H p = none → Ex H H' → H' p = some (.lst (gas.map V.ref)) → Grp H' p gas grs → grs.flatten.Perm tasks → (∀ g ∈ grs, g ≠ []) → (∃ g rest f, grs = g :: rest ∧ f ∈ tasks ∧ Reach T gs tasks f g) → Q (.ref p) H'
theorem sc_parts_by : FnScope ["table", "tasks", "good", "left", "found", "here", "one"] ["table", "tasks", "good"] (defScope s_parts_by) := ⟨rfl, rfl, rfl, by decide +kernel, rfl, by decide +kernel, by decide +kernel⟩
theorem ok_parts_by (T : Tx K w mg F) (G_reached : FnOk P w K mg base CX0 1 (He.ga K "reached") (F 26) ["table", "tasks", "first", "good"] spReached) : FnOk P w K mg base CX0 2 (He.ga K "parts_by") (F 27) ["table", "tasks", "good"] spPartsBy := by
  refine T.d_parts_by.ok sc_parts_by (fun vs H Q E h => ?_) (fun cdv A outer s H vs Q E hr h => ⟨_, PSs.nox (pss_cons (ps_set (i := 3) sc_parts_by.nd rfl (Or.inl rfl) (pe_callTy (cListOf (K := K) rfl) (by rfl) T.z_list (by decide +kernel) (pa_cons (pv 1) pa_nil)))
      (pss_cons (ps_set (i := 4) sc_parts_by.nd rfl (Or.inl rfl) (pe_lst pa_nil))
      (pss_cons (ps_while PassesOwn.never (ptTru (K := K) rfl (pv 3) (by intro _; rfl)) (pss_cons (ps_set (i := 5) sc_parts_by.nd rfl (Or.inr rfl) (pe_call G_reached (hr.mono (by decide)) rfl T.m_reached T.d_reached.kp T.b_reached .nil pass0 (pa_cons (pv 0) (pa_cons (pv 3) (pa_cons (pe_ix (ixL (K := K) rfl) (pv 3) pe_int (fun _ _ => rfl)) (pa_cons (pv 2) pa_nil))))))
      (pss_cons (ps_expr (peBm (K := K) rfl PySem.F.plainAttrs_list PySem.F.slot_list_append PySem.F.type_list_append mt_append (pv 4) (pa_cons (pe_callB (cSortI (K := K) rfl) (by rfl) T.z_sorted (by decide +kernel) (pa_cons (pv 5) pa_nil)) pa_nil)))
      (pss_one (ps_setLc (i := 3) (own := [("one", 6)]) (g := gName 6) rfl sc_parts_by.nd rfl rfl (sw_true rfl rfl rfl (by decide +kernel)) (piL (K := K) rfl (pv 3)) (blkOk_by (by kernel_rfl)) (fun _ _ _ _ _ => pg_name (i := 6) sc_parts_by.nd rfl (Or.inl rfl)) (fun _ _ _ _ _ => (pts_one (pt_cmpR (oNotIn (K := K) rfl) (pv 6) (pv 5) (by rfl)))) (fun _ _ _ _ _ => (pv 6)))))))
      (pss_one (ps_ret (pv 4)))))), ?_⟩)
  · obtain ⟨v, ta, ga, n, T, tasks, gs, rfl, _⟩ := h
    rfl
  obtain ⟨v, ta, ga, n, T', tasks, gs, rfl, hT, hta, hlt, hnd, hne, h7, hga, q⟩ := h
  refine q_raw ⟨_, rfl, ta, _, rfl, .inl (sq_of hta), fun la0 hla0 => ?_⟩
  refine q_asgL (xs := []) (el_lst ea_nil (by show 0 ≤ 100000; decide)) fun fa H2 hfa0 e2 h2 => ?_
  have hfa : H fa = none := fresh_back (Ex.new hla0) hfa0
  have hlf : la0 ≠ fa := by
    rintro rfl
    rw [upd_same] at hfa0
    cases hfa0
  refine q_while (fun m σ' H' => ∃ la left gas grs x5 x6, σ' = [some v, some (.ref ta), some (.ref ga), some (.ref la), some (.ref fa), x5, x6] ∧ m = left.length ∧ Ex H H' ∧ H' la = some (.lst (natsV left)) ∧ la ≠ fa ∧ H' fa = some (.lst (gas.map V.ref)) ∧ Grp H' fa gas grs ∧
      (grs.flatten ++ left).Perm tasks ∧ (∀ g ∈ grs, g ≠ []) ∧ ((grs = [] ∧ left = tasks) ∨ ∃ g rest f, grs = g :: rest ∧ f ∈ tasks ∧ Reach T' gs tasks f g))
    tasks.length ⟨la0, tasks, [], [], none, none, rfl, rfl, (Ex.new hla0).trans e2, e2 _ _ upd_same, hlf, h2, ⟨rfl, fun i a hi => by simp at hi⟩, by simp, by simp, .inl ⟨rfl, rfl⟩⟩ ?_
  rintro m σ' H3 ⟨la, left, gas, grs, x5, x6, rfl, rfl, e3, hla, hlne, hfd, hg, hperm, hnn, hfst⟩
  have hndA : (grs.flatten ++ left).Nodup := hperm.nodup_iff.mpr hnd
  have hndl : left.Nodup := (List.nodup_append.mp hndA).2.1
  have hsub : ∀ x ∈ left, x ∈ tasks := fun x hx => hperm.mem_iff.mp (List.mem_append_right _ hx)
  have hll : left.length ≤ tasks.length := nodup_le hndl hsub
  refine ⟨!(natsV left).isEmpty, et_truL (ev_var rfl) hla, fun hx H4 e4 => ?_, fun hx H4 e4 => ?_⟩
  · have hpos : 0 < left.length := by
      cases left with
      | nil => cases hx
      | cons a r => simp
    have h0 : at_ left 0 ∈ left := at_mem hpos
    have he4 := e3.trans e4
    refine ⟨fun σ' H' => ∃ la left' gas grs x5 x6, σ' = [some v, some (.ref ta), some (.ref ga), some (.ref la), some (.ref fa), x5, x6] ∧ left'.length < left.length ∧ Ex H H' ∧ H' la = some (.lst (natsV left')) ∧ la ≠ fa ∧ H' fa = some (.lst (gas.map V.ref)) ∧ Grp H' fa gas grs ∧
      (grs.flatten ++ left').Perm tasks ∧ (∀ g ∈ grs, g ≠ []) ∧ ((grs = [] ∧ left' = tasks) ∨ ∃ g rest f, grs = g :: rest ∧ f ∈ tasks ∧ Reach T' gs tasks f g),
      fun σ2 H5 ⟨la', left', gas', grs', y5, y6, hs, hl', r⟩ => ⟨left'.length, hl', la', left', gas', grs', y5, y6, hs, rfl, r⟩, ?_⟩
    have hla4 := e4 _ _ hla
    refine q_raw (c_call (vs := [v, .ref la, vI (at_ left 0), .ref ga]) (ea_cons (ev_var rfl) (ea_cons (ev_var rfl) (ea_cons (ev_ixNL (k := 0) (ev_var rfl) rfl ev_c hla4 hpos) (ea_cons (ev_var rfl) ea_nil)))) fun H5 e5 => ?_)
    refine ⟨v, la, ga, n, T', left, gs, at_ left 0, rfl, hT.mono (he4.trans e5), e5 _ _ hla4, fun x hx => hlt x (hsub x hx), hndl, h0, by omega, (he4.trans e5) _ _ hga, fun pa fd H6 hpa e6 h6 ndf subf hf0 hre => ?_⟩
    have e46 := e5.trans e6
    have hfd6 := e46 _ _ (e4 _ _ hfd)
    refine ⟨_, rfl, .inl ⟨rfl, _, sq_of hfd6⟩, ?_⟩
    refine ⟨_, rfl, pa, fd.map fun k : Nat => (k : Int), rfl, (by rw [← natsV_map]; exact sq_of h6), fun ns' ps hperm' _ hps => ?_⟩
    obtain ⟨g, hgp, rfl⟩ := perm_nats hperm'
    rw [← natsV_map]
    have hpsfa : ps ≠ fa := fun e => by rw [e, hfd6] at hps; cases hps
    have hlg : gas.length ≤ 7 := by
      rw [hg.1]
      have a1 : (grs.flatten).length ≤ tasks.length := by
        have := hperm.length_eq
        rw [List.length_append] at this
        omega
      have a2 : grs.length ≤ (grs.flatten).length := by
        clear hperm hndA hg hfst a1
        induction grs with
        | nil => simp
        | cons g r ih =>
          have h1 := hnn g (.head _)
          have h2 := ih fun g hg => hnn g (.tail _ hg)
          have h3 : 0 < g.length := List.length_pos_iff.mpr h1
          simp only [List.flatten_cons, List.length_append, List.length_cons]
          omega
      omega
    refine ⟨fa, gas.map V.ref, .ref ps, rfl, rfl, (by rw [upd_ne (Ne.symm hpsfa)]; exact hfd6), (by rw [List.length_map, sizeLine_eq]; omega), ?_⟩
    have eup : Ex H (upd (upd H6 ps (.lst (natsV g))) fa (.lst (gas.map V.ref ++ [.ref ps]))) := Ex.mut (((he4.trans e46)).trans (Ex.new hps)) hfa
    have hla7 : upd (upd H6 ps (.lst (natsV g))) fa (.lst (gas.map V.ref ++ [.ref ps])) la = some (.lst (natsV left)) := by
      rw [upd_ne hlne]
      exact (Ex.new hps) _ _ (e46 _ _ hla4)
    have hpa7 : upd (upd H6 ps (.lst (natsV g))) fa (.lst (gas.map V.ref ++ [.ref ps])) pa = some (.lst (natsV fd)) := by
      have : pa ≠ fa := fun e => by
        rw [e] at hpa
        have := e5 _ _ (e4 _ _ hfd)
        rw [hpa] at this
        cases this
      rw [upd_ne this]
      exact (Ex.new hps) _ _ h6
    have hg7 : Grp (upd (upd H6 ps (.lst (natsV g))) fa (.lst (gas.map V.ref ++ [.ref ps]))) fa (gas ++ [ps]) (grs ++ [g]) :=
      Grp.upd (Grp.snoc (hg.mono ((e4.trans e46).trans (Ex.new hps))) hpsfa upd_same)
    refine s_raw (lcL (fun i => !decide (at_ left i ∈ fd)) (fun _ i v _ => v = vI (at_ left i)) (ev_var rfl) (sq_of hla7) (by rw [natsV_len]; omega) (fun _ => rfl) (fun _ _ => stays_val (g := fun i => vI (at_ left i))) (fun i x H8 e8 hx => ?_)
      (fun i x D H8 zs e8 _ _ hx _ => ?_) (fun D ys H8 hD e8 h8 gv => ?_))
    · obtain ⟨hi, rfl⟩ := natsV_at hx
      exact et_is (et_test (ev_op (ev_var rfl) (ev_var rfl) (rv_niL (sq_of (e8 _ _ hpa7)) rfl (flat_nats _)))) (by rw [in_nats])
    · obtain ⟨hi, rfl⟩ := natsV_at hx
      exact Ev.p (ev_var rfl)
    · have ey : ys = natsV (left.filter fun x => !decide (x ∈ fd)) := by
        rw [gv.eq (g := fun i => vI (at_ left i)) (fun _ _ h => h), natsV_len]
        exact filt_at left fun x => !decide (x ∈ fd)
      subst ey
      have hsp := split_perm hndl ndf subf
      have hDfa : D ≠ fa := fun e => by rw [e, upd_same] at hD; cases hD
      have hgn : g ≠ [] := by
        rintro rfl
        have := hgp.length_eq
        simp at this
        have hm := hf0
        rw [List.eq_nil_of_length_eq_zero this.symm] at hm
        cases hm
      refine ⟨D, left.filter (fun x => !decide (x ∈ fd)), gas ++ [ps], grs ++ [g], _, _, rfl, ?_, eup.trans e8, h8, hDfa, ?_, hg7.mono e8, ?_, ?_, ?_⟩
      · have := hsp.length_eq
        rw [List.length_append] at this
        have : 0 < fd.length := List.length_pos_iff.mpr (List.ne_nil_of_mem hf0)
        omega
      · rw [e8 _ _ upd_same]
        simp
      · rw [List.flatten_append, List.append_assoc]
        refine List.Perm.trans ?_ hperm
        refine List.Perm.append_left _ ?_
        refine List.Perm.trans ?_ hsp
        simp only [List.flatten_cons, List.flatten_nil, List.append_nil]
        exact hgp.append_right _
      · intro g' hg'
        rcases List.mem_append.mp hg' with h | h
        · exact hnn g' h
        · have : g' = g := by simpa using h
          rw [this]; exact hgn
      · rcases hfst with ⟨rfl, rfl⟩ | ⟨g1, rest, f, rfl, hf, hr1⟩
        · refine .inr ⟨g, [], at_ left 0, rfl, h0, fun S hs cl x hx => hre S hs cl x (hgp.mem_iff.mp hx)⟩
        · exact .inr ⟨g1, rest ++ [g], f, rfl, hf, hr1⟩
  · have hl0 : left = [] := by
      cases left with
      | nil => rfl
      | cons a r => cases hx
    subst hl0
    rw [List.append_nil] at hperm
    refine s_ret (ev_var rfl) fun H5 e5 => q fa gas grs H5 hfa (e3.trans (e4.trans e5)) (e5 _ _ (e4 _ _ hfd)) (hg.mono (e4.trans e5)) hperm hnn ?_
    rcases hfst with ⟨rfl, h⟩ | h
    · exact absurd h.symm hne
    · exact h
end K15
set_option Elab.async false
set_option linter.all false
set_option maxRecDepth 100000
set_option maxHeartbeats 2000000
/-! K15: sorted(xs, key=f), f a def of the program whose calls give whole numbers and make new objects (after KE.SortKeyHeap) -/
namespace K15
open PySem PySem.Spec PyProof.Rows L2 Evl PySem.W
section
variable {X : Cx} {pins : List (Addr × Obj)} {σ : L2.St} {H H' : Hp} {s : Shared}
/-- an untracked object of ours is tracked from here on -/
theorem inv_track {a : Addr} {o : HO} (I : Inv X pins σ H s) (hn : H a = none) (hL : a ≠ X.env.locals) (h1 : X.s_0.heap.objs.size ≤ a) (h2 : ∀ x c, X.env.cells.lookup x = some c → c ≠ a) (h3 : ∀ p ∈ X.pn ++ pins, p.1 ≠ a)
    (new : ObjOk X.prog X.w (upd H a o) s.heap a o) : Inv X pins σ (upd H a o) s := by
  refine ⟨I.ok, I.os, I.bare, ⟨I.base.keep, I.base.slot, fun b ob e n hx => ?_, I.base.there, fun b xs e => ?_, fun b ob u e => ?_, fun b ps e => ?_⟩, I.loc, I.cell, ?_, fun x c e => ?_, fun p hp => ?_, ?_, I.len⟩
  · rw [upd_ne (Nat.ne_of_lt (Nat.lt_of_lt_of_le (Heap.lt_size e) h1))]
    exact I.base.free b ob e n hx
  · have q := I.base.tups b xs e
    rw [upd_ne (ne_of_none q hn)]; exact q
  · have q := I.base.frzs b ob u e
    rw [upd_ne (ne_of_none q hn)]; exact q
  · obtain ⟨more, q⟩ := I.base.tbls b ps e
    exact ⟨more, by rw [upd_ne (ne_of_none q hn)]; exact q⟩
  · rw [upd_ne (Ne.symm hL)]; exact I.free
  · rw [upd_ne (h2 x c e)]; exact I.freeC x c e
  · obtain ⟨e, n, r⟩ := I.pin p hp
    exact ⟨e, by rw [upd_ne (h3 p hp)]; exact n, r⟩
  · intro b u e
    by_cases hb : b = a
    · subst hb; rw [upd_same] at e; cases e; exact new
    · rw [upd_ne hb] at e
      exact (I.hok b u e).stay (fun c v _ q => q) (fun c q => by rw [upd_ne (ne_of_none q hn)]; exact q) fun c xs q => by rw [upd_ne (ne_of_none q hn)]; exact q
/-- the key's call, two calls deeper -/
theorem key_call {k : Nat} {f : Addr} {fd : FuncData} {ps : List Str} {sp : Sp} {x : V} {u : Value} {Q : VK} (F : FnOk X.prog X.w X.K X.mg X.base CX0 k f fd ps sp) (hr : Room (k + 2) X.A) (hb : Binds X.K fd ps []) (I : Inv X pins σ H s) (r : RelV x u) (h : sp [x] H Q E0) :
    wpAny (model X.prog X.w) X.A.in1.in1 (call (.ref f) [u]) (fun z s' => ∃ v H', Inv X pins σ H' s' ∧ RelV v z ∧ Q v H' ∧ Un (frs X.stack) [] H H' s.heap s'.heap) (fun _ _ => False) s := by
  have hl : ([u] : List Value).length = ps.length := F.len _ _ _ _ h
  have r2 : Vals [x] [u] := .cons r .nil
  have hr2 : Room k X.A.in1.in1 := (Room.in1 (k := k + 1) hr).in1
  have bt : BindsTo s fd ⟨[u], []⟩ (ps.zip [u]) := by
    have := hb s [u] I.kIn (by simpa using hl)
    simpa using this
  refine wpAny_call (codeAny_mono (F.run X.A.in1.in1 X.stack s H ⟨[u], []⟩ [u] [x] Q E0 hr2 I.env0.in1.in1 bt r2 h) fun r s' hq => ?_)
  cases r with
  | error e => exact False.elim hq
  | ok fl =>
    cases fl with
    | ret z =>
      have hq' : CE X.stack X.prog X.w H s Q z s' := hq
      obtain ⟨v, H', os, bare, un, hok, rv, qv⟩ := hq'
      exact ⟨v, H', I.call' os un hok bare (fun b z => absurd z (by simp)), rv, qv, un⟩
    | next => exact False.elim hq
    | brk => exact False.elim hq
    | cont => exact False.elim hq

theorem vals_perm {us ws : List Value} (p : us.Perm ws) : ∀ xs : List V, Vals xs us → ∃ ys, ys.Perm xs ∧ Vals ys ws := by
  induction p with
  | nil => exact fun xs h => ⟨xs, .refl _, h⟩
  | cons u _ ih =>
    intro xs h
    cases h with
    | cons r h =>
      obtain ⟨ys, p, q⟩ := ih _ h
      exact ⟨_ :: ys, p.cons _, .cons r q⟩
  | swap u v l =>
    intro xs h
    cases h with
    | cons r h =>
      cases h with
      | cons r2 h => exact ⟨_, .swap _ _ _, .cons r2 (.cons r h)⟩
  | trans _ _ ih1 ih2 =>
    intro xs h
    obtain ⟨ys, p, q⟩ := ih1 _ h
    obtain ⟨zs, p2, q2⟩ := ih2 _ q
    exact ⟨zs, p2.trans p, q2⟩
theorem keyed_perm {ks vs : List Value} (h : ks.length = vs.length) (κ : PyProof.Rows.KeyKind) : (sortVals κ false ks vs).Perm vs := by
  unfold sortVals
  refine ((List.mergeSort_perm _ _).map _).trans ?_
  rw [List.map_snd_zip (Nat.le_of_eq h.symm)]
/-- sorted(xs, key=f) -/
def rSortF (K : PySem.W.Frag) (f : Addr) (sp : Sp) : List V → List V → Hp → VK → Prop := fun vs zs H Q => ∃ (a : Addr) (xs : List V), vs = [V.ref a] ∧ zs = [V.ref f] ∧ SqL K H a xs ∧
  (∀ x ∈ xs, ∀ H', Ex H H' → sp [x] H' (fun v H'' => (∃ i, v = V.int i) ∧ Ex H' H'') E0) ∧
  ∀ (D : Addr) (H' : Hp) (ys : List V), Ex H H' → H D = none → ys.Perm xs → H' D = some (.lst ys) → Q (.ref D) H'
theorem each_ints {h : Heap} : ∀ {us : List Value} {ks : List Int}, IntsAre us ks → EachIs (fun v d => ∃ as, Reads h v d as) us (ks.map PyData.int)
  | _, _, .nil => .nil
  | _, _, .cons n t r => .cons ⟨[], .int n t⟩ (each_ints r)
theorem sort_rest {k : Nat} {f a kS : Addr} {fd : FuncData} {ps : List Str} {sp : Sp} {e1 : Nat} {xs : List V} {us : List Value} {H0 : Hp} {P : PySem.Fin → Shared → Prop} {E : Value → Shared → Prop} (F : FnOk X.prog X.w X.K X.mg X.base CX0 k f fd ps sp) (hr : Room (k + 2) X.A) (hb : Binds X.K fd ps [])
    (I : Inv X pins σ H s) (hx0 : Ex H0 H) (r : Vals xs us) (hz : us.length ≤ sizeLine) (hs : ∀ x ∈ xs, ∀ H', Ex H0 H' → sp [x] H' (fun v H'' => (∃ i, v = V.int i) ∧ Ex H' H'') E0) (nk : s.heap.get? kS = some (seqObj "list" #[] 0)) (na : s.heap.get? a = some (seqObj "list" #[] e1)) (hka : kS ≠ a) (fk : FpOk X pins H kS) (fa : FpOk X pins H a)
    (q : ∀ s' H' ys us' c, Inv X pins σ H' s' → Ex H0 H' → H' a = none → ys.Perm xs → Vals ys us' → us'.length ≤ sizeLine → s'.heap.get? a = some (seqObj "list" us'.toArray c) → P (.done (.ret .none)) s') :
    wpAny (model X.prog X.w) X.A.in1.in1 (ksk_rest a (.ref f) false us.toArray e1 (.ref kS)) P E s := by
  unfold ksk_rest
  refine wpAny_bind (wpAny_rule ?_)
  first
    | rw [List.forIn_toArray]
    | (rw [← Array.forIn_toList]; simp only [List.toList_toArray])
    | rw [← Array.forIn_toList]
  have stk : ∀ b, FpOk X pins H b → b ∉ frs X.stack := fun b fb hm => (List.mem_cons.mp (I.stkSub b hm)).elim fb.2.1 fb.2.2.1
  refine wpAny_bind (ksk_fold (fun i s' => ∃ H' kA e ks, Inv X pins σ H' s' ∧ Ex H0 H' ∧ H' kS = none ∧ H' a = none ∧ s'.heap.get? kS = some (seqObj "list" kA e) ∧ s'.heap.get? a = some (seqObj "list" #[] e1) ∧ IntsAre kA.toList ks ∧ ks.length = i) us 0 s ⟨H, #[], 0, [], I, hx0, fk.1, fa.1, nk, na, .nil, rfl⟩ ?step ?done)
  case step =>
    rintro j u s' hj ⟨H', kA, e, ks, I', x', n1, n2, nk', na', hk, hl⟩
    obtain ⟨hj1, hj2⟩ := List.getElem?_eq_some_iff.mp hj
    have hjx : j < xs.length := by rw [r.length]; exact hj1
    obtain ⟨u', eu, ru⟩ := r.get (List.getElem?_eq_getElem hjx)
    rw [hj] at eu; cases eu
    refine wpAny_bind (wpAny_attempt (wpAny_mono (key_call F hr hb I' ru (hs _ (List.getElem_mem hjx) H' x')) (fun z s'' he => ?_) fun _ _ hF => hF.elim))
    obtain ⟨v, H'', I2, rz, ⟨⟨n, rfl⟩, ex⟩, un⟩ := he
    obtain ⟨t, rfl⟩ : ∃ t, z = Value.int n t := rz
    have nk2 := un.keep _ _ nk' n1 (stk _ fk) (by simp)
    have na2 := un.keep _ _ na' n2 (stk _ fa) (by simp)
    have f1 := un.free _ _ nk' n1 (by simp)
    have f2 := un.free _ _ na' n2 (by simp)
    have hzz : kA.size ≤ sizeLine := by
      have h1 : kA.toList.length = ks.length := hk.length
      rw [Array.length_toList] at h1
      omega
    have s1 := Heap.SameBut.update s''.heap kS (Obj.mapSeq (·.push (Value.int n t)))
    have hc2 := get?_update_seq nk2 (·.push (Value.int n t))
    dsimp only
    refine wpAny_bind (listUpdate_at nk2 rfl ?_ hzz (by rw [Array.size_push]; omega))
    refine wpAny_pure ⟨rfl, H'', kA.push (.int n t), _, ks ++ [n], I2.turned (t' := s''.toks) (it := kS) (fun b o hb e => (s1.2 b hb).trans e) f1 fk.2.1 fk.2.2.2.1 fk.2.2.2.2.1 fk.2.2.2.2.2, x'.trans ex, f1, f2, hc2, (s1.2 a hka.symm).trans na2, ?_, by simp [hl]⟩
    rw [Array.toList_push]
    exact ksk_snoc hk
  case done =>
    rintro s' ⟨H', kA, e, ks, I', x', n1, n2, nk', na', hk, hl⟩
    have hsz : kA.size = us.length := by
      have h1 : kA.toList.length = ks.length := hk.length
      rw [Array.length_toList] at h1
      omega
    refine wpAny_bind (listItems_at nk' rfl ?_)
    have S : SortsAt X.prog X.w X.A.in1.in1 s' (dataKind s'.heap (ks.map PyData.int)) kA.toList := SortsAt.data (each_ints hk) (by
      intro d hd d' hd'
      obtain ⟨i, _, rfl⟩ := List.mem_map.mp hd
      obtain ⟨j, _, rfl⟩ := List.mem_map.mp hd'
      rfl) (.inr fun d hd => by
      obtain ⟨i, _, rfl⟩ := List.mem_map.mp hd
      refine ⟨fun z => ?_, fun _ z => ?_⟩ <;> cases z) fun d hd => by
      obtain ⟨i, _, rfl⟩ := List.mem_map.mp hd
      have := (Room.in1 (k := k + 1) hr).in1.un
      have e : (PyData.int i).depth = 1 ∨ (PyData.int i).depth = 0 := by first | exact .inl rfl | exact .inr rfl
      omega
    refine keyH_end (κ := dataKind s'.heap (ks.map PyData.int)) (h₁ := hideAll s'.heap [kS]) (fun b o _ e => of_hideAll _ e) (hideAll_none _ (.head _)) nk' na' hka S hsz hz fun h3 tk c kp n3 => ?_
    have pm := keyed_perm (ks := kA.toList) (vs := us) (by rw [Array.length_toList]; exact hsz) (dataKind s'.heap (ks.map PyData.int))
    obtain ⟨ys, p1, p2⟩ := vals_perm pm.symm xs r
    have I3 : Inv X pins σ H' { s' with heap := h3, toks := tk } := I'.turnedL (ch := [a, kS]) (fun b o hb e => kp b o (fun z => hb (by simp [z])) (hideAll_get _ e fun z => hb (by simp at z; simp [z]))) fun b hb => by
      rcases List.mem_cons.mp hb with rfl | hb
      · exact ⟨n2, fa.2⟩
      · obtain rfl := List.mem_singleton.mp hb
        exact ⟨n1, fk.2⟩
    exact q _ H' ys _ c I3 x' n2 p1 p2 (by rw [pm.length_eq]; exact hz) n3
theorem cr_sortedF {k : Nat} {f : Addr} {fd : FuncData} {ps : List Str} {sp : Sp} (F : FnOk X.prog X.w X.K X.mg X.base CX0 k f fd ps sp) (hr : Room (k + 2) X.A) (hb : Binds X.K fd ps []) : CallRK X (.builtin "sorted") ["key"] (rSortF X.K f sp) := by
  intro pins s σ H vs zs us ws Q I r rz h
  obtain ⟨l, xs, rfl, rfl, hl0, hs, q⟩ := h
  obtain ⟨its, rv, hl, hz⟩ := I.list hl0
  obtain rfl := Vals.ref1 r
  obtain rfl := Vals.ref1 rz
  have hzi : its.length ≤ sizeLine := by rw [← rv.length]; exact hz
  refine sorted_of_sort hl.isList hzi (ksk_s1 _ _) (fun _ => ksk_l1 _ _) fun E' => ?_
  show wpAny _ _ (Builtin.«list.sort» ⟨[.ref (s.heap.objs.size + 1)], [(Str.ofString "key", .ref f)]⟩) _ _ _
  rw [ksk_t1]
  have ho := copyHeap_at s.heap its
  obtain ⟨e1, ho1⟩ : ∃ e1, ((copyHeap s.heap its).update (s.heap.objs.size + 1) (Obj.mapSeq fun _ => (#[] : Array Value))).get? (s.heap.objs.size + 1) = some (seqObj "list" #[] e1) := ⟨_, get?_update_seq ho fun _ => #[]⟩
  have ha : s.heap.objs.size + 1 < (copyHeap s.heap its).objs.size := Heap.lt_size ho
  have hkS : (((copyHeap s.heap its).update (s.heap.objs.size + 1) (Obj.mapSeq fun _ => (#[] : Array Value))).push (seqObj "tuple" its.toArray 0)).objs.size = (copyHeap s.heap its).objs.size + 1 := by rw [size_push', Heap.size_update]
  unfold ksk_tree
  refine wpAny_bind (listItems_at ho rfl ?_)
  refine wpAny_bind (listUpdate_at ho rfl ?_ (by rw [List.size_toArray]; exact hzi) (Nat.zero_le _))
  refine wpAny_bind (seqEpoch_at ho1 rfl ?_)
  refine wpAny_bind (wpAny_newTuple ?_ (by show its.length ≤ _; exact hzi))
  refine wpAny_bind (wpAny_newList ?_ (Nat.zero_le _))
  refine wpAny_holding ?_
  have kp : ∀ b o, s.heap.get? b = some o → (sortingHeap (copyHeap s.heap its) (s.heap.objs.size + 1) its).get? b = some o := fun b o e => sorting_copy_old e
  have hk2 : s.heap.objs.size ≤ (((copyHeap s.heap its).update (s.heap.objs.size + 1) (Obj.mapSeq fun _ => (#[] : Array Value))).push (seqObj "tuple" its.toArray 0)).objs.size := by omega
  have f1 := I.fpOk (H' := H) (Nat.le_succ s.heap.objs.size) (I.hok.fresh (Nat.le_succ _))
  have f2 := I.fpOk (H' := H) hk2 (I.hok.fresh hk2)
  refine sort_rest (H := H) (H0 := H) (s := { s with heap := (((copyHeap s.heap its).update (s.heap.objs.size + 1) (Obj.mapSeq fun _ => (#[] : Array Value))).push (seqObj "tuple" its.toArray 0)).push (seqObj "list" #[] 0) }) (kS := (((copyHeap s.heap its).update (s.heap.objs.size + 1) (Obj.mapSeq fun _ => (#[] : Array Value))).push (seqObj "tuple" its.toArray 0)).objs.size)
    F hr hb (I.kept (t' := s.toks) kp) (Ex.refl _) rv hzi hs (Heap.get?_push_size _ rfl) (Heap.get?_push_of_some _ (Heap.get?_push_of_some _ ho1)) (by rw [hkS]; exact Nat.ne_of_gt (Nat.lt_succ_of_lt ha)) f2 f1 fun s' H' ys us' c I' x' n' p1 p2 hz' g => ⟨rfl, ?_⟩
  have hok := I'.hok
  refine ⟨.ref (s.heap.objs.size + 1), upd H' (s.heap.objs.size + 1) (.lst ys), inv_track I' n' f1.2.1 (Nat.le_trans I.sz (Nat.le_succ _)) f1.2.2.2.2.1 f1.2.2.2.2.2 ⟨by rw [p2.length]; exact hz', us', c, p2, g⟩, rfl, q _ _ ys (x'.trans (Ex.new n')) f1.1 p1 upd_same⟩
end
end K15
set_option Elab.async false
set_option linter.all false
set_option maxRecDepth 100000
/-! K15: plans: all_tasks, least_task, normal_of -/
namespace K15
open PySem PySem.Spec PyProof.Rows L2 Evl
/-- a plan: its value, its leaves -/
def PlanS : Nat → Hp → V → List Nat → Prop
  | 0, _, v, L => ∃ k : Nat, v = vI k ∧ L = [k]
  | d + 1, H, v, L => (∃ k : Nat, v = vI k ∧ L = [k]) ∨ ∃ (a b : Addr) (wd : Str) (ps : List (V × List Nat)), v = .ref a ∧ H a = some (.tup [.str wd, .ref b]) ∧ H b = some (.tup (ps.map (·.1))) ∧ (∀ p ∈ ps, PlanS d H p.1 p.2) ∧ ps ≠ [] ∧ ps.length ≤ 7 ∧ L = (ps.map (·.2)).flatten
theorem PlanS.keep {H H' : Hp} (k : ∀ a xs, H a = some (.tup xs) → H' a = some (.tup xs)) : ∀ {d : Nat} {v : V} {L : List Nat}, PlanS d H v L → PlanS d H' v L
  | 0, _, _, h => h
  | d + 1, _, _, .inl h => .inl h
  | d + 1, _, _, .inr ⟨a, b, wd, ps, h1, h2, h3, h4, h5⟩ => .inr ⟨a, b, wd, ps, h1, k _ _ h2, k _ _ h3, fun p hp => (h4 p hp).keep k, h5⟩
theorem PlanS.mono {H H' : Hp} {d : Nat} {v : V} {L : List Nat} (h : PlanS d H v L) (e : Ex H H') : PlanS d H' v L := h.keep fun a xs q => e _ _ q
theorem PlanS.updL {H : Hp} {d : Nat} {v : V} {L : List Nat} {D : Addr} {xs ys : List V} (h : PlanS d H v L) (hD : H D = some (.lst xs)) : PlanS d (upd H D (.lst ys)) v L := h.keep fun a zs q => by
  rw [upd_ne (ne_of q hD (by intro z; cases z))]; exact q
theorem PlanS.up1 : ∀ {d : Nat} {H : Hp} {v : V} {L : List Nat}, PlanS d H v L → PlanS (d + 1) H v L
  | 0, _, _, _, h => .inl h
  | d + 1, _, _, _, .inl h => .inl h
  | d + 1, _, _, _, .inr ⟨a, b, wd, ps, h1, h2, h3, h4, h5⟩ => .inr ⟨a, b, wd, ps, h1, h2, h3, fun p hp => (h4 p hp).up1, h5⟩
theorem PlanS.up {d e : Nat} {H : Hp} {v : V} {L : List Nat} (h : PlanS d H v L) (q : d ≤ e) : PlanS e H v L := by
  induction q with
  | refl => exact h
  | step _ ih => exact ih.up1
theorem PlanS.cases : ∀ {d : Nat} {H : Hp} {v : V} {L : List Nat}, PlanS d H v L → (∃ k : Nat, v = vI k ∧ L = [k]) ∨ ∃ (d' : Nat) (a b : Addr) (wd : Str) (ps : List (V × List Nat)), d = d' + 1 ∧ v = .ref a ∧ H a = some (.tup [.str wd, .ref b]) ∧ H b = some (.tup (ps.map (·.1))) ∧ (∀ p ∈ ps, PlanS d' H p.1 p.2) ∧ ps ≠ [] ∧ ps.length ≤ 7 ∧ L = (ps.map (·.2)).flatten
  | 0, _, _, _, h => .inl h
  | d + 1, _, _, _, .inl h => .inl h
  | d + 1, _, _, _, .inr ⟨a, b, wd, ps, h⟩ => .inr ⟨d, a, b, wd, ps, rfl, h⟩
theorem flat_len {α : Type} {l : List (List α)} {x : List α} (h : x ∈ l) : x.length ≤ l.flatten.length := by
  induction l with
  | nil => cases h
  | cons a r ih =>
    rw [List.flatten_cons, List.length_append]
    rcases List.mem_cons.mp h with rfl | h
    · omega
    · have := ih h
      omega
theorem PlanS.pos : ∀ {d : Nat} {H : Hp} {v : V} {L : List Nat}, PlanS d H v L → 0 < L.length
  | 0, _, _, _, ⟨k, _, h⟩ => by rw [h]; simp
  | d + 1, _, _, _, .inl ⟨k, _, h⟩ => by rw [h]; simp
  | d + 1, _, _, _, .inr ⟨a, b, wd, ps, h1, h2, h3, h4, h5, _, h7⟩ => by
    rw [h7]
    obtain ⟨p, hp⟩ := List.exists_mem_of_ne_nil _ h5
    exact Nat.lt_of_lt_of_le (h4 p hp).pos (flat_len (List.mem_map_of_mem hp))
theorem perm_map_inv {α β : Type} {f : α → β} {ys zs : List β} (p : ys.Perm zs) : ∀ l : List α, l.map f = zs → ∃ m : List α, m.Perm l ∧ m.map f = ys := by
  induction p with
  | nil => intro l h; exact ⟨l, .refl _, h⟩
  | cons x _ ih =>
    intro l h
    cases l with
    | nil => cases h
    | cons a r =>
      injection h with h1 h2
      obtain ⟨m, p, q⟩ := ih r h2
      exact ⟨a :: m, p.cons a, by rw [List.map_cons, q, h1]⟩
  | swap x y l' =>
    intro l h
    match l, h with
    | a :: b :: r, h =>
      injection h with h1 h2
      injection h2 with h2 h3
      exact ⟨b :: a :: r, .swap _ _ _, by simp [h1, h2, h3]⟩
  | trans _ _ ih1 ih2 =>
    intro l h
    obtain ⟨m, p, q⟩ := ih2 l h
    obtain ⟨m2, p2, q2⟩ := ih1 m q
    exact ⟨m2, p2.trans p, q2⟩
theorem plan_list {C : V → List Nat → Prop} : ∀ (Ls : List (List Nat)) (ys : List V), ys.length = Ls.length → (∀ (i : Nat) (y : V) (L : List Nat), ys[i]? = some y → Ls[i]? = some L → ∃ L' : List Nat, C y L' ∧ L'.Perm L) → ∃ ps : List (V × List Nat), ps.map (·.1) = ys ∧ (∀ p ∈ ps, C p.1 p.2) ∧ (ps.map (·.2)).flatten.Perm Ls.flatten
  | [], [], _, _ => ⟨[], rfl, (fun p hp => nomatch hp), List.Perm.refl _⟩
  | L :: Ls, y :: ys, hl, h => by
    obtain ⟨ps, h1, h2, h3⟩ := plan_list Ls ys (by simpa using hl) fun i y' L' hy hL => h (i + 1) y' L' hy hL
    obtain ⟨L', c, p⟩ := h 0 y L rfl rfl
    refine ⟨(y, L') :: ps, by rw [List.map_cons, h1], fun q hq => ?_, ?_⟩
    · rcases List.mem_cons.mp hq with rfl | hq
      · exact c
      · exact h2 q hq
    · simp only [List.map_cons, List.flatten_cons]
      exact p.append h3
theorem PlanS.bound : ∀ {d : Nat} {H : Hp} {v : V} {L : List Nat}, PlanS d H v L → L.length ≤ 7 ^ d
  | 0, _, _, _, ⟨k, _, h⟩ => by rw [h]; simp
  | d + 1, _, _, _, .inl ⟨k, _, h⟩ => by rw [h]; exact Nat.one_le_pow _ _ (by decide)
  | d + 1, _, _, _, .inr ⟨a, b, wd, ps, h1, h2, h3, h4, h5, h6, h7⟩ => by
    have key : ∀ l : List (V × List Nat), (∀ p ∈ l, p.2.length ≤ 7 ^ d) → (l.map (·.2)).flatten.length ≤ l.length * 7 ^ d := by
      intro l
      induction l with
      | nil => intro _; simp
      | cons a r ih =>
        intro h
        have := ih fun p hp => h p (.tail _ hp)
        have := h a (.head _)
        simp only [List.map_cons, List.flatten_cons, List.length_append, List.length_cons, Nat.add_mul, Nat.one_mul]
        omega
    have := key ps fun p hp => (h4 p hp).bound
    rw [h7, Nat.pow_succ, Nat.mul_comm]
    exact Nat.le_trans this (Nat.mul_le_mul_right _ h6)
variable {P : Program} {w : World} {K : PySem.W.Frag} {mg : Str → Option Value} {base : Heap} {F : Nat → FuncData}
theorem none_ok {f : Addr} {fd : FuncData} {ps : List Str} {sp : Sp} {k : Nat} (no : ∀ vs H Q E, ¬ sp vs H Q E) : FnOk P w K mg base CX0 k f fd ps sp := ⟨fun vs H Q E h => absurd h (no vs H Q E), fun A outer s H args us vs Q E _ _ _ _ h => absurd h (no vs H Q E)⟩
def spAll (m : Nat) : Sp := fun vs H Q _ => ∃ v d L, vs = [v] ∧ d < m ∧ PlanS d H v L ∧ L.length ≤ 20000 ∧ ∀ p H', H p = none → Ex H H' → H' p = some (.lst (natsV L)) → Q (.ref p) H'
theorem sc_all_tasks : FnScope ["plan", "found", "part"] ["plan"] (defScope s_all_tasks) := ⟨rfl, rfl, rfl, by decide +kernel, rfl, by decide +kernel, by decide +kernel⟩
theorem all_tasks_step {n : Nat} (T : Tx K w mg F) (G_all_tasks : FnOk P w K mg base CX0 n (He.ga K "all_tasks") (F 5) ["plan"] (spAll n)) : FnOk P w K mg base CX0 (n+1) (He.ga K "all_tasks") (F 5) ["plan"] (spAll (n + 1)) := by
  refine T.d_all_tasks.ok sc_all_tasks (fun vs H Q E h => ?_) (fun cdv A outer s H vs Q E hr h => ⟨_, PSs.nox (pss_cons (ps_if (pt_val (pe_callB (cIsi (K := K) rfl) (by rfl) T.z_isinstance (by decide +kernel) (pa_cons (pv 0) (pa_cons (pe_bltn (v := .ty "int") (u := .type "int") (by rfl) T.z_int (by decide +kernel) rfl) pa_nil)))) (pss_one (ps_ret (pe_lst (pa_cons (pv 0) pa_nil)))) pss_nil)
      (pss_cons (ps_set (i := 1) sc_all_tasks.nd rfl (Or.inl rfl) (pe_lst pa_nil))
      (pss_cons (ps_for PassesOwn.never rfl (piT (K := K) rfl (pe_ix (ixT (K := K) rfl) (pv 0) pe_int (fun _ _ => rfl))) (pg_name (i := 2) sc_all_tasks.nd rfl (Or.inl rfl)) (pss_one (ps_expr (peBm (K := K) rfl PySem.F.plainAttrs_list PySem.F.slot_list_extend PySem.F.type_list_extend mt_extend (pv 1) (pa_cons (pe_call G_all_tasks hr rfl T.m_all_tasks T.d_all_tasks.kp T.b_all_tasks .nil pass0 (pa_cons (pv 2) pa_nil)) pa_nil)))))
      (pss_one (ps_ret (pv 1)))))), ?_⟩)
  · obtain ⟨v, d, L, rfl, _⟩ := h
    rfl
  obtain ⟨v, d, L, rfl, hd, hp, h7, q⟩ := h
  rcases hp.cases with ⟨k, rfl, rfl⟩ | ⟨d', a, b, wd, ps, rfl, rfl, ha, hb, hc, hne, hl7, rfl⟩
  · refine q_when (et_test (isi_int (ev_var rfl))) (fun _ H1 e1 => ?_) fun hx => by cases hx
    exact s_retL (xs := natsV [k]) (el_lst (ea_cons (ev_var rfl) ea_nil) (by show 1 ≤ 100000; decide)) fun p H2 hp0 e2 h2 => q p H2 (fresh_back e1 hp0) (e1.trans e2) h2
  refine q_when (et_test (isi_tup_int (ev_var rfl) ha)) (fun hx => by cases hx) fun _ H1 e1 => ?_
  refine q_asgL (xs := []) (el_lst ea_nil (by show 0 ≤ 100000; decide)) fun fa H2 hfa0 e2 h2 => ?_
  have hfa : H fa = none := fresh_back e1 hfa0
  have hex := e1.trans e2
  refine q_forT (xs := ps.map (·.1)) (ev_ixTV (k := 1) (ev_var rfl) rfl ev_c (hex _ _ ha) rfl) (st_of (hex _ _ hb)) (fun i σ' H' => ∃ x, σ' = [some (.ref a), some (.ref fa), x] ∧ Ex H H' ∧ H' fa = some (.lst (natsV ((ps.take i).map (·.2)).flatten)))
    (fun H3 e3 => ⟨none, rfl, hex.trans e3, by rw [e3 _ _ h2]; rfl⟩) (fun i σ' H' _ ⟨x, _, e, _⟩ => st_of (e _ _ hb)) ?_ ?_
  · rintro i x σ' H3 hx ⟨x2, rfl, e3, hf3⟩
    obtain ⟨hi, hxe⟩ := List.getElem?_eq_some_iff.mp hx
    rw [List.length_map] at hi
    have hm : ps[i] ∈ ps := List.getElem_mem hi
    have hxe' : x = ps[i].1 := by rw [← hxe]; simp
    refine ⟨_, rfl, .inl ⟨rfl, _, sq_of hf3⟩, ?_⟩
    refine c_call (vs := [x]) (ea_cons (ev_var rfl) ea_nil) fun H4 e4 => ?_
    have hlen : ps[i].2.length ≤ 20000 := Nat.le_trans (flat_len (List.mem_map_of_mem hm)) h7
    have htk : ((ps.take (i + 1)).map (·.2)).flatten = ((ps.take i).map (·.2)).flatten ++ ps[i].2 := by
      rw [List.take_succ_eq_append_getElem hi, List.map_append, List.flatten_append, List.map_cons, List.map_nil, List.flatten_cons, List.flatten_nil, List.append_nil]
    have htl : ((ps.take (i + 1)).map (·.2)).flatten.length ≤ 20000 := by
      have e : (ps.map (·.2)).flatten = ((ps.take (i + 1)).map (·.2)).flatten ++ ((ps.drop (i + 1)).map (·.2)).flatten := by
        rw [← List.flatten_append, ← List.map_append, List.take_append_drop]
      rw [e, List.length_append] at h7
      omega
    refine ⟨x, d', ps[i].2, rfl, by omega, by rw [hxe']; exact (hc _ hm).mono (e3.trans e4), hlen, fun p H5 hp5 e5 h5 => ?_⟩
    refine ⟨fa, p, _, _, rfl, rfl, e5 _ _ (e4 _ _ hf3), h5, by rw [htk, List.length_append] at htl; rw [natsV_len, natsV_len, sizeLine_eq]; omega, ?_⟩
    refine ⟨_, rfl, Ex.mut (e3.trans (e4.trans e5)) hfa, ?_⟩
    rw [upd_same, htk]
    simp [natsV]
  · rintro σ' H3 ⟨x, rfl, e3, hf3⟩
    refine s_ret (ev_var rfl) fun H4 e4 => q fa H4 hfa (e3.trans e4) ?_
    rw [e4 _ _ hf3, List.length_map, List.take_length]
theorem ok_all_tasks (T : Tx K w mg F) : ∀ n : Nat, FnOk P w K mg base CX0 n (He.ga K "all_tasks") (F 5) ["plan"] (spAll n)
  | 0 => none_ok fun vs H Q E ⟨v, d, L, _, h, _⟩ => by omega
  | n + 1 => all_tasks_step T (ok_all_tasks T n)
def spLeast (m : Nat) : Sp := fun vs H Q _ => ∃ v d L, vs = [v] ∧ d < m ∧ PlanS d H v L ∧ L.length ≤ 20000 ∧ ∀ (i : Int) H', Ex H H' → Q (.int i) H'
theorem sc_least_task : FnScope ["plan"] ["plan"] (defScope s_least_task) := ⟨rfl, rfl, rfl, by decide +kernel, rfl, by decide +kernel, by decide +kernel⟩
theorem ok_least_task {n : Nat} (T : Tx K w mg F) (G_all_tasks : FnOk P w K mg base CX0 n (He.ga K "all_tasks") (F 5) ["plan"] (spAll n)) : FnOk P w K mg base CX0 (n+1) (He.ga K "least_task") (F 6) ["plan"] (spLeast n) := by
  refine T.d_least_task.ok sc_least_task (fun vs H Q E h => ?_) (fun cdv A outer s H vs Q E hr h => ⟨_, PSs.nox (pss_one (ps_ret (pe_callB (cMin (K := K) rfl rfl) (by rfl) T.z_min (by decide +kernel) (pa_cons (pe_call G_all_tasks hr rfl T.m_all_tasks T.d_all_tasks.kp T.b_all_tasks .nil pass0 (pa_cons (pv 0) pa_nil)) pa_nil)))), ?_⟩)
  · obtain ⟨v, d, L, rfl, _⟩ := h
    rfl
  obtain ⟨v, d, L, rfl, hd, hp, h7, q⟩ := h
  refine r_cb1 (c_call (vs := [v]) (ea_cons (ev_var rfl) ea_nil) fun H1 e1 => ⟨v, d, L, rfl, hd, hp.mono e1, h7, fun p H2 hp2 e2 h2 => ?_⟩)
  exact ⟨p, L.map fun k : Nat => (k : Int), rfl, by rw [← natsV_map]; exact sq_of h2, by rw [List.length_map]; exact hp.pos, fun m _ _ => q m H2 (e1.trans e2)⟩
def spNormal (m : Nat) : Sp := fun vs H Q _ => ∃ v d L, vs = [v] ∧ d < m ∧ d < 8 ∧ PlanS d H v L ∧ L.length ≤ 20000 ∧ ∀ v' L' H', Ex H H' → PlanS d H' v' L' → L'.Perm L → Q v' H'
theorem r_tup2 {ta tx : TE} {r : List V → Hp → VK → Prop} {D : Ends} {σ : L2.St} {H : Hp} (h : ta σ H fun x H1 => tx σ H1 fun y H2 => r [y] H2 fun z H3 => 2 ≤ sizeLine ∧ ∀ p, H3 p = none → D.rt (.ref p) (upd H3 p (.tup [x, z]))) : tRet (tTup (tCons ta (tCons (tCB r (tCons tx tNil)) tNil))) D σ H := h
theorem sc_normal_of : FnScope ["plan", "parts", "part"] ["plan"] (defScope s_normal_of) := ⟨rfl, rfl, rfl, by decide +kernel, rfl, by decide +kernel, by decide +kernel⟩
theorem normal_step {n : Nat} (T : Tx K w mg F) (G_normal_of : FnOk P w K mg base CX0 (n+12) (He.ga K "normal_of") (F 7) ["plan"] (spNormal n)) (G_least_task : FnOk P w K mg base CX0 9 (He.ga K "least_task") (F 6) ["plan"] (spLeast 8)) : FnOk P w K mg base CX0 (n+1+12) (He.ga K "normal_of") (F 7) ["plan"] (spNormal (n + 1)) := by
  refine T.d_normal_of.ok sc_normal_of (fun vs H Q E h => ?_) (fun cdv A outer s H vs Q E hr h => ⟨_, PSs.nox (pss_cons (ps_if (pt_val (pe_callB (cIsi (K := K) rfl) (by rfl) T.z_isinstance (by decide +kernel) (pa_cons (pv 0) (pa_cons (pe_bltn (v := .ty "int") (u := .type "int") (by rfl) T.z_int (by decide +kernel) rfl) pa_nil)))) (pss_one (ps_ret (pv 0))) pss_nil)
      (pss_cons (ps_setLc (i := 1) (own := [("part", 2)]) (g := gName 2) rfl sc_normal_of.nd rfl rfl (sw_true rfl rfl rfl (by decide +kernel)) (piT (K := K) rfl (pe_ix (ixT (K := K) rfl) (pv 0) pe_int (fun _ _ => rfl))) (blkOk_by (by kernel_rfl)) (fun _ _ _ _ _ => pg_name (i := 2) sc_normal_of.nd rfl (Or.inl rfl)) (fun _ _ _ _ _ => pts_nil) (fun _ _ _ _ _ => (pe_call G_normal_of hr rfl T.m_normal_of T.d_normal_of.kp T.b_normal_of .nil pass0 (pa_cons (pv 2) pa_nil))))
      (pss_one (ps_ret (pe_tup (pa_cons (pe_ix (ixT (K := K) rfl) (pv 0) pe_int (fun _ _ => rfl)) (pa_cons (pe_callTy (cTupOf (K := K) rfl) (by rfl) T.z_tuple (by decide +kernel) (pa_cons (pe_ifExp (pt_cmpR op_eq (pe_ix (ixT (K := K) rfl) (pv 0) pe_int (fun _ _ => rfl)) pe_str (nomark _)) (pv 1) (pe_callBK (cr_sortedF G_least_task (hr.mono (by omega)) T.b_least_task) (by rfl) T.z_sorted (by decide +kernel) (pa_cons (pv 1) pa_nil) (pk_cons (pe_glob (v := .ref (He.ga K "least_task")) (by rfl) T.m_least_task rfl) pk_nil))) pa_nil)) pa_nil))))))), ?_⟩)
  · obtain ⟨v, d, L, rfl, _⟩ := h
    rfl
  obtain ⟨v, d, L, rfl, hd, hd8, hp, h7, q⟩ := h
  rcases hp.cases with ⟨k, rfl, rfl⟩ | ⟨d', a, b, wd, ps, rfl, rfl, ha, hb, hc, hne, hl7, rfl⟩
  · refine q_when (et_test (isi_int (ev_var rfl))) (fun _ H1 e1 => ?_) fun hx => by cases hx
    exact s_ret (ev_var rfl) fun H2 e2 => q _ _ H2 (e1.trans e2) (hp.mono (e1.trans e2)) (.refl _)
  refine q_when (et_test (isi_tup_int (ev_var rfl) ha)) (fun hx => by cases hx) fun _ H1 e1 => ?_
  refine q_raw (lcT (xs := ps.map (·.1)) (fun _ => true) (fun D i v H' => ∃ L, (ps.map (·.2))[i]? = some L ∧ ∃ L', PlanS d' H' v L' ∧ L'.Perm L) (ev_ixTV (k := 1) (ev_var rfl) rfl ev_c (e1 _ _ ha) rfl) (st_of (e1 _ _ hb)) (by rw [List.length_map]; omega) (fun _ => rfl)
    (fun H2 _ D hD => ⟨fun i v H3 H4 e ⟨L, h1, L', h2, h3⟩ => ⟨L, h1, L', h2.mono e, h3⟩, fun i v H3 xs ys _ ⟨L, h1, L', h2, h3⟩ hl => ⟨L, h1, L', h2.updL hl, h3⟩⟩) (fun i x H2 e2 hx => et_yes)
    (fun i x D H2 zs e2 _ _ hx _ => fun H3 e3 Q' q' => c_call (vs := [x]) (ea_cons (ev_var rfl) ea_nil) fun H4 e4 => ?_) (fun D ys H2 hD e2 h2 gv => ?_))
  · obtain ⟨hi, hxe⟩ := List.getElem?_eq_some_iff.mp hx
    rw [List.length_map] at hi
    have hm : ps[i] ∈ ps := List.getElem_mem hi
    have hxe' : x = ps[i].1 := by rw [← hxe]; simp
    have hee := e1.trans (e2.trans (e3.trans e4))
    refine ⟨x, d', ps[i].2, rfl, by omega, by omega, by rw [hxe']; exact (hc _ hm).mono hee, Nat.le_trans (flat_len (List.mem_map_of_mem hm)) h7, fun v' L' H5 e5 hp5 hpm => ?_⟩
    exact q' v' H5 (e4.trans e5) ⟨ps[i].2, by simp [hi], L', hp5, hpm⟩
  · rw [List.length_map, filter_all] at gv
    obtain ⟨hyl, hy⟩ := gv.all
    have hee := e1.trans e2
    obtain ⟨ps2, p1, p2, p3⟩ := plan_list (C := PlanS d' H2) (ps.map (·.2)) ys (by rw [hyl, List.length_map]) fun i y L hyi hL => by
      obtain ⟨L2, g1, L', g2, g3⟩ := hy i y hyi
      rw [hL] at g1; cases g1
      exact ⟨L', g2, g3⟩
    have ha2 := hee _ _ ha
    have hps2 : ps2.length = ps.length := by
      have := congrArg List.length p1
      rw [List.length_map] at this
      omega
    have h72 : (ps2.map (·.2)).flatten.length ≤ 20000 := by rw [p3.length_eq]; exact h7
    have fin : ∀ (ps3 : List (V × List Nat)) (D : Addr) (H3 : Hp), Ex H2 H3 → ps3.Perm ps2 → ∀ p, H3 p = none → 2 ≤ sizeLine ∧ ∀ pb, upd H3 p (.tup (ps3.map (·.1))) pb = none → Q (.ref pb) (upd (upd H3 p (.tup (ps3.map (·.1)))) pb (.tup [.str wd, .ref p])) := by
      intro ps3 D3 H3 e3 pm p hp0
      refine ⟨by rw [sizeLine_eq]; omega, fun pb hp2 => ?_⟩
      have hn : p ≠ pb := by
        rintro rfl
        rw [upd_same] at hp2; cases hp2
      refine q _ (ps3.map (·.2)).flatten _ (hee.trans (e3.trans ((Ex.new hp0).trans (Ex.new hp2)))) (.inr ⟨pb, p, wd, ps3, rfl, upd_same, by rw [upd_ne hn, upd_same], fun r hr => ?_, ?_, ?_, rfl⟩) ?_
      · exact (p2 r (pm.mem_iff.mp hr)).mono (e3.trans ((Ex.new hp0).trans (Ex.new hp2)))
      · rintro rfl
        have := pm.length_eq
        rw [hps2] at this
        exact hne (List.eq_nil_of_length_eq_zero this.symm)
      · rw [pm.length_eq, hps2]; exact hl7
      · exact ((pm.map _).flatten).trans p3
    refine r_tup2 ((ev_ixTV (k := 0) (ev_var rfl) rfl ev_c ha2 rfl) H2 (Ex.refl _) _ fun H3 e3 => ?_)
    refine (et_test (ev_eqS (ev_ixTV (k := 0) (ev_var rfl) rfl ev_c (e3 _ _ ha2) rfl) ev_c)) H3 (Ex.refl _) _ fun H4 e4 => ?_
    have h24 := e3.trans e4
    split
    · refine ⟨_, rfl, D, ys, rfl, .inl ⟨sq_of (h24 _ _ h2), fun p hp0 => ?_⟩⟩
      rw [← p1]
      exact fin ps2 D H4 h24 (.refl _) p hp0
    · refine ⟨_, rfl, D, ys, rfl, rfl, sq_of (h24 _ _ h2), fun y hy1 H5 e5 => ?_, fun Ds H5 zs e5 hDs hz hzs => ?_⟩
      · rw [← p1] at hy1
        obtain ⟨r, hr1, rfl⟩ := List.mem_map.mp hy1
        exact ⟨r.1, d', r.2, rfl, by omega, (p2 r hr1).mono (h24.trans e5), Nat.le_trans (flat_len (List.mem_map_of_mem hr1)) h72, fun i H6 e6 => ⟨⟨i, rfl⟩, e6⟩⟩
      · rw [← p1] at hz
        obtain ⟨ps3, m1, m2⟩ := perm_map_inv hz ps2 rfl
        refine ⟨Ds, zs, rfl, .inl ⟨sq_of hzs, fun p hp0 => ?_⟩⟩
        rw [← m2]
        exact fin ps3 D H5 (h24.trans e5) m1 p hp0
theorem ok_normal_of (T : Tx K w mg F) (G_least_task : FnOk P w K mg base CX0 9 (He.ga K "least_task") (F 6) ["plan"] (spLeast 8)) : ∀ n : Nat, FnOk P w K mg base CX0 (n+12) (He.ga K "normal_of") (F 7) ["plan"] (spNormal n)
  | 0 => none_ok fun vs H Q E ⟨v, d, L, _, h, _⟩ => by omega
  | n + 1 => normal_step T (ok_normal_of T G_least_task n) G_least_task
end K15
set_option Elab.async false
set_option linter.all false
set_option maxRecDepth 100000
/-! K15: built, plan_in, plan_of -/
namespace K15
open PySem PySem.Spec PyProof.Rows L2 Evl
theorem putK_mem {kvs : List (Key × V)} {k : Key} {v : V} {q : Key × V} (h : q ∈ putK kvs k v) : q ∈ kvs ∨ (q.1 = k ∧ q.2 = v) := by
  unfold putK at h
  split at h
  · obtain ⟨p, hp, rfl⟩ := List.mem_map.mp h
    split
    · rename_i e
      exact .inr ⟨e, rfl⟩
    · exact .inl hp
  · rcases List.mem_append.mp h with h | h
    · exact .inl h
    · have : q = (k, v) := by simpa using h
      rw [this]; exact .inr ⟨rfl, rfl⟩
theorem putK_ne {kvs : List (Key × V)} {k : Key} {v : V} : putK kvs k v ≠ [] := by
  unfold putK
  split
  · rename_i h
    intro e
    rw [List.map_eq_nil_iff] at e
    rw [e] at h
    simp at h
  · simp
theorem valV_some {kvs : List (Key × V)} {k : Key} (h : k ∈ kvs.map (·.1)) : ∃ v, valV kvs k = some v ∧ (k, v) ∈ kvs := by
  induction kvs with
  | nil => simp at h
  | cons p r ih =>
    by_cases e : p.1 = k
    · refine ⟨p.2, valV_pos e, ?_⟩
      rw [← e]; exact .head _
    · have : k ∈ r.map (·.1) := by
        rcases List.mem_cons.mp h with h | h
        · exact absurd h.symm e
        · exact h
      obtain ⟨v, h1, h2⟩ := ih this
      exact ⟨v, by rw [valV_neg e]; exact h1, .tail _ h2⟩
theorem flat_ge {l : List (List Nat)} (h : ∀ g ∈ l, g ≠ []) : l.length ≤ l.flatten.length := by
  induction l with
  | nil => simp
  | cons a r ih =>
    have := ih fun g hg => h g (.tail _ hg)
    have h0 : 0 < a.length := List.length_pos_iff.mpr (h a (.head _))
    simp only [List.flatten_cons, List.length_append, List.length_cons]
    omega
theorem flat_gt {l : List (List Nat)} (h : ∀ g ∈ l, g ≠ []) {g : List Nat} (hg : g ∈ l) : g.length + l.length ≤ l.flatten.length + 1 := by
  induction l with
  | nil => cases hg
  | cons a r ih =>
    have hr := flat_ge fun g hg => h g (.tail _ hg)
    have h0 : 0 < a.length := List.length_pos_iff.mpr (h a (.head _))
    simp only [List.flatten_cons, List.length_append, List.length_cons]
    rcases List.mem_cons.mp hg with rfl | hg
    · omega
    · have := ih (fun g hg => h g (.tail _ hg)) hg
      omega
theorem r_tupC {wd : Str} {tx : TE} {r : List V → Hp → VK → Prop} {D : Ends} {σ : L2.St} {H : Hp} (h : tx σ H fun y H2 => r [y] H2 fun z H3 => 2 ≤ sizeLine ∧ ∀ p, H3 p = none → D.rt (.ref p) (upd H3 p (.tup [.str wd, z]))) : tRet (tTup (tCons (tC (.str wd)) (tCons (tCB r (tCons tx tNil)) tNil))) D σ H := h
theorem keys_int : ∀ kvs : List (Key × V), (∀ kv ∈ kvs, ∃ k : Int, kv.1 = Sum.inl k) → ∃ ks : List Int, kvs.map (·.1) = ks.map Sum.inl
  | [], _ => ⟨[], rfl⟩
  | kv :: r, h => by
    obtain ⟨ks, e⟩ := keys_int r fun q hq => h q (.tail _ hq)
    obtain ⟨k, hk⟩ := h kv (.head _)
    exact ⟨k :: ks, by rw [List.map_cons, List.map_cons, e, hk]⟩
theorem lc_swap {K : PySem.W.Frag} {tl : TE} {g : TG} {t : TT} {te : TE} {vs : List Nat} {σ : L2.St} {H : Hp} {Q : VK} (h : tl σ H fun x H1 => tLc (iList K (tC x)) g t te vs σ H1 Q) : tLc (iList K tl) g t te vs σ H Q := h
/-- all tasks reached: connected -/
theorem conn_of {T : Tb} {E : Nat → Nat → Prop} {gs : List R} {tasks g : List Nat} {f : Nat} (he : ∀ x y, T x y ∈ gs → E x y) (sy : ∀ x y, x ∈ tasks → y ∈ tasks → T x y ∈ gs → T y x ∈ gs) (hr : Reach T gs tasks f g) (hp : ∀ x ∈ tasks, x ∈ g) : Conn E tasks := by
  intro S ⟨x0, hx0, hs0⟩ ⟨y0, hy0, hn0⟩
  apply Classical.byContradiction
  intro hno
  have cl : ∀ x y, x ∈ tasks → y ∈ tasks → S x → T x y ∈ gs → S y := fun x y hx hy hs ht => Classical.byContradiction fun hn => hno ⟨x, y, hx, hy, hs, hn, he x y ht⟩
  by_cases hf : S f
  · exact hn0 (hr S hf cl y0 (hp y0 hy0))
  · exact hr (fun z => ¬ S z) hf (fun x y hx hy hs ht hsy => hs (cl y x hy hx hsy (sy x y hx hy ht))) x0 (hp x0 hx0) hs0
theorem plan_ex {d : Nat} {H : Hp} : ∀ ys : List V, (∀ (i : Nat) (y : V), ys[i]? = some y → ∃ L, PlanS d H y L) → ∃ ps : List (V × List Nat), ps.map (·.1) = ys ∧ ∀ p ∈ ps, PlanS d H p.1 p.2
  | [], _ => ⟨[], rfl, fun p hp => nomatch hp⟩
  | y :: ys, h => by
    obtain ⟨ps, h1, h2⟩ := plan_ex ys fun i y' hy => h (i + 1) y' hy
    obtain ⟨L, c⟩ := h 0 y rfl
    refine ⟨(y, L) :: ps, by rw [List.map_cons, h1], fun q hq => ?_⟩
    rcases List.mem_cons.mp hq with rfl | hq
    · exact c
    · exact h2 q hq
theorem ret_node {K : PySem.W.Frag} {D : Addr} {ys : List V} {H2 : Hp} {wd : Str} {d0 : Nat} (h : H2 D = some (.lst ys)) (hy : ∀ (i : Nat) (y : V), ys[i]? = some y → ∃ L, PlanS d0 H2 y L) (hne : ys ≠ []) (h7 : ys.length ≤ 7) {Q : VK} (q : ∀ v' L H', Ex H2 H' → PlanS (d0 + 1) H' v' L → Q v' H') :
    rTupOf K [.ref D] H2 fun z H3 => 2 ≤ sizeLine ∧ ∀ p, H3 p = none → Q (.ref p) (upd H3 p (.tup [.str wd, z])) := by
  refine ⟨D, ys, rfl, .inl ⟨sq_of h, fun p hp => ⟨by rw [sizeLine_eq]; omega, fun pb hp2 => ?_⟩⟩⟩
  have hn : p ≠ pb := by
    rintro rfl
    rw [upd_same] at hp2; cases hp2
  obtain ⟨ps, h1, h2⟩ := plan_ex ys hy
  subst h1
  have e : Ex H2 (upd (upd H2 p (.tup (ps.map (·.1)))) pb (.tup [.str wd, .ref p])) := (Ex.new hp).trans (Ex.new hp2)
  refine q _ (ps.map (·.2)).flatten _ e (.inr ⟨pb, p, wd, ps, rfl, upd_same, by rw [upd_ne hn, upd_same], fun r hr => (h2 r hr).mono e, fun z => hne (by rw [z]; rfl), by rwa [List.length_map] at h7, rfl⟩)
variable {P : Program} {w : World} {K : PySem.W.Frag} {mg : Str → Option Value} {base : Heap} {F : Nat → FuncData}
def spBuilt (m : Nat) : Sp := fun vs H Q _ => ∃ v ta n T tasks, vs = [v, .ref ta] ∧ TabAt H v n T ∧ TabOk n T ∧ NoFlaw n T ∧ H ta = some (.lst (natsV tasks)) ∧ (∀ x ∈ tasks, x < n) ∧ tasks.Nodup ∧ tasks ≠ [] ∧ tasks.length ≤ 6 ∧ tasks.length ≤ m ∧
  ∀ v' d L H', Ex H H' → PlanS d H' v' L → d < tasks.length → Q v' H'
theorem sc_built : FnScope ["table", "tasks", "groups", "places", "group", "one", "place"] ["table", "tasks"] (defScope s_built) := ⟨rfl, rfl, rfl, by decide +kernel, rfl, by decide +kernel, by decide +kernel⟩
theorem built_step {m : Nat} (T : Tx K w mg F) (G_parts_by : FnOk P w K mg base CX0 2 (He.ga K "parts_by") (F 27) ["table", "tasks", "good"] spPartsBy) (G_built : FnOk P w K mg base CX0 (m+2) (He.ga K "built") (F 28) ["table", "tasks"] (spBuilt m)) : FnOk P w K mg base CX0 (m+1+2) (He.ga K "built") (F 28) ["table", "tasks"] (spBuilt (m + 1)) := by
  refine T.d_built.ok sc_built (fun vs H Q E h => ?_) (fun cdv A outer s H vs Q E hr h => ⟨_, PSs.nox (pss_cons (ps_if (pt_cmpR op_eq (pe_callB (cLen (K := K) rfl) (by rfl) T.z_len (by decide +kernel) (pa_cons (pv 1) pa_nil)) pe_int (nomark _)) (pss_one (ps_ret (pe_ix (ixL (K := K) rfl) (pv 1) pe_int (fun _ _ => rfl)))) pss_nil)
      (pss_cons (ps_set (i := 2) sc_built.nd rfl (Or.inl rfl) (pe_call G_parts_by (hr.mono (by omega)) rfl T.m_parts_by T.d_parts_by.kp T.b_parts_by .nil pass0 (pa_cons (pv 0) (pa_cons (pv 1) (pa_cons (pe_lst (pa_cons pe_str (pa_cons pe_str pa_nil))) pa_nil)))))
      (pss_cons (ps_if (pt_cmpR op_gt (pe_callB (cLen (K := K) rfl) (by rfl) T.z_len (by decide +kernel) (pa_cons (pv 2) pa_nil)) pe_int (nomark _)) (pss_one (ps_ret (pe_tup (pa_cons pe_str (pa_cons (pe_callTy (cTupOf (K := K) rfl) (by rfl) T.z_tuple (by decide +kernel) (pa_cons (pe_lc (own := [("group", 4)]) (g := gName 4) rfl sc_built.nd (piL (K := K) rfl (pv 2)) (blkOk_by (by kernel_rfl)) (fun _ _ _ _ _ => pg_name (i := 4) sc_built.nd rfl (Or.inl rfl)) (fun _ _ _ _ _ => pts_nil) (fun _ _ _ _ _ => (pe_call G_built hr rfl T.m_built T.d_built.kp T.b_built .nil pass0 (pa_cons (pv 0) (pa_cons (pv 4) pa_nil))))) pa_nil)) pa_nil))))) pss_nil)
      (pss_cons (ps_set (i := 2) sc_built.nd rfl (Or.inl rfl) (pe_call G_parts_by (hr.mono (by omega)) rfl T.m_parts_by T.d_parts_by.kp T.b_parts_by .nil pass0 (pa_cons (pv 0) (pa_cons (pv 1) (pa_cons (pe_lst (pa_cons pe_str pa_nil)) pa_nil)))))
      (pss_cons (ps_set (i := 3) sc_built.nd rfl (Or.inr rfl) pe_dnewK)
      (pss_cons (ps_for PassesOwn.never rfl (piL (K := K) rfl (pv 2)) (pg_name (i := 4) sc_built.nd rfl (Or.inr rfl)) (pss_one (ps_dput (hu_of hr) (pv 3) (pe_callB (cLen (K := K) rfl) (by rfl) T.z_len (by decide +kernel) (pa_cons (pe_lc (own := [("one", 5)]) (g := gName 5) rfl sc_built.nd (piL (K := K) rfl (pv 1)) (blkOk_by (by kernel_rfl)) (fun _ _ _ _ _ => pg_name (i := 5) sc_built.nd rfl (Or.inl rfl)) (fun _ _ _ _ _ => (pts_one (pt_cmpR op_eq (pe_ix (ixT (K := K) rfl) (pe_ix (ixT (K := K) rfl) (pv 0) (pv 5) (fun _ _ => rfl)) (pe_ix (ixL (K := K) rfl) (pv 4) pe_int (fun _ _ => rfl)) (fun _ _ => rfl)) pe_str (nomark _)))) (fun _ _ _ _ _ => (pv 5))) pa_nil)) (pv 4) rfl)))
      (pss_one (ps_ret (pe_tup (pa_cons pe_str (pa_cons (pe_callTy (cTupOf (K := K) rfl) (by rfl) T.z_tuple (by decide +kernel) (pa_cons (pe_lc (own := [("place", 6)]) (g := gName 6) rfl sc_built.nd (piL (K := K) rfl (pe_callB (call_sortedDI rfl) (by rfl) T.z_sorted (by decide +kernel) (pa_cons (pv 3) pa_nil))) (blkOk_by (by kernel_rfl)) (fun _ _ _ _ _ => pg_name (i := 6) sc_built.nd rfl (Or.inl rfl)) (fun _ _ _ _ _ => pts_nil) (fun _ _ _ _ _ => (pe_call G_built hr rfl T.m_built T.d_built.kp T.b_built .nil pass0 (pa_cons (pv 0) (pa_cons (pe_dget (hu_of hr) (pv 3) (pv 6) (fun _ _ => rfl)) pa_nil))))) pa_nil)) pa_nil))))))))))), ?_⟩)
  · obtain ⟨v, ta, n, T, tasks, rfl, _⟩ := h
    rfl
  obtain ⟨v, ta, n, T', tasks, rfl, hT, hok, hnf, hta, hlt, hnd, hne, h6, hm, q⟩ := h
  have h0 : 0 < tasks.length := List.length_pos_iff.mpr hne
  have hsy := two_of hok hlt
  refine q_when (et_test (ev_eqI (ev_lenL (ev_var rfl) hta) ev_c)) (fun _ H1 e1 => ?_) fun hx H1 e1 => ?_
  · exact s_ret (ev_ixNL (k := 0) (ev_var rfl) rfl ev_c (e1 _ _ hta) h0) fun H2 e2 => q _ 0 [at_ tasks 0] H2 (e1.trans e2) ⟨_, rfl, rfl⟩ h0
  have h2 : 2 ≤ tasks.length := by
    have := of_decide_eq_false hx
    rw [natsV_len] at this
    have hh : tasks.length ≠ 1 := fun z => this (by rw [z]; rfl)
    omega
  have sub : ∀ {grs : List (List Nat)}, grs.flatten.Perm tasks → (∀ g ∈ grs, g ≠ []) → 2 ≤ grs.length → ∀ g ∈ grs, (∀ x ∈ g, x < n) ∧ g.Nodup ∧ g ≠ [] ∧ g.length < tasks.length := fun {grs} pm nn h2 g hg => by
    have hs : g.Sublist grs.flatten := List.sublist_flatten_of_mem hg
    have hl := flat_gt nn hg
    rw [pm.length_eq] at hl
    exact ⟨fun x hx => hlt x (pm.mem_iff.mp (hs.subset hx)), (pm.nodup_iff.mpr hnd).sublist hs, nn g hg, by omega⟩
  have grn : ∀ {grs : List (List Nat)}, grs.flatten.Perm tasks → (∀ g ∈ grs, g ≠ []) → grs.length ≤ 6 := fun {grs} pm nn => by
    have := flat_ge nn
    rw [pm.length_eq] at this
    omega
  refine q_raw ⟨_, rfl, _, rfl, (by show 2 ≤ sizeLine; rw [sizeLine_eq]; decide), fun ga hga => ?_⟩
  have eg := e1.trans (Ex.new (o := .lst [V.str "before", V.str "after"]) hga)
  refine ⟨v, ta, ga, n, T', tasks, [.before, .after], rfl, hT.mono eg, eg _ _ hta, hlt, hnd, hne, by omega, upd_same, fun p gas grs H2 hp e2 h2' grp pm nn fst => ?_⟩
  have e02 := eg.trans e2
  have hgl : gas.length = grs.length := grp.1
  refine q_when (et_test (ev_op (ev_lenL (ev_var rfl) h2') ev_c rv_I0)) (fun hx H3 e3 => ?_) fun hx H3 e3 => ?_
  · have h2g : 2 ≤ grs.length := by
      have := of_decide_eq_true hx
      rw [List.length_map] at this
      omega
    have e03 := e02.trans e3
    refine r_tupC (lcL (fun _ => true) (fun D i v' H' => ∃ L, PlanS (tasks.length - 2) H' v' L) (ev_var rfl) (sq_of (e3 _ _ h2')) (by rw [List.length_map]; have := grn pm nn; omega) (fun _ => rfl)
      (fun H4 _ D hD => ⟨fun i v H3 H4 e ⟨L, h1⟩ => ⟨L, h1.mono e⟩, fun i v H3 xs ys _ ⟨L, h1⟩ hl => ⟨L, h1.updL hl⟩⟩) (fun i x H4 e4 hx => et_yes)
      (fun i x D H4 zs e4 _ _ hx _ => fun H5 e5 Q' q' => c_call (vs := [v, x]) (ea_cons (ev_var rfl) (ea_cons (ev_var rfl) ea_nil)) fun H6 e6 => ?_) (fun D ys H4 hD e4 h4 gv => ?_))
    · rw [List.getElem?_map] at hx
      obtain ⟨a, ha, rfl⟩ := Option.map_eq_some_iff.mp hx
      obtain ⟨g, hg1, _, hg2⟩ := grp.2 i a ha
      obtain ⟨s1, s2, s3, s4⟩ := sub pm nn h2g g (List.mem_of_getElem? hg1)
      have e26 := e3.trans (e4.trans (e5.trans e6))
      refine ⟨v, a, n, T', g, rfl, hT.mono (e02.trans e26), hok, hnf, e26 _ _ hg2, s1, s2, s3, by omega, by omega, fun v' d L H7 e7 hp7 hd7 => q' v' H7 (e6.trans e7) ⟨L, hp7.up (by omega)⟩⟩
    · rw [List.length_map, filter_all] at gv
      obtain ⟨hyl, hy⟩ := gv.all
      refine ret_node (d0 := tasks.length - 2) h4 hy (fun z => by rw [z] at hyl; simp at hyl; omega) (by have := grn pm nn; omega) fun v' L H' e' hp' => q v' _ L H' (e03.trans (e4.trans e')) hp' (by omega)
  have h1g : grs.length ≤ 1 := by
    have := of_decide_eq_false hx
    rw [List.length_map] at this
    omega
  have c1 : Conn (Cmp T') tasks := by
    obtain ⟨g, rest, f, rfl, hf, hre⟩ := fst
    have : rest = [] := by
      cases rest with
      | nil => rfl
      | cons a r => simp at h1g
    subst this
    refine conn_of (gs := [.before, .after]) (fun x y h => by simpa [Cmp] using h) (fun x y hx hy h => ?_) hre fun x hx => ?_
    · have := hsy.sy x y hx hy (by simpa [Cmp] using h)
      simpa [Cmp] using this
    · simpa using pm.mem_iff.mpr hx
  clear fst pm nn grp h2' hgl hx
  have e03 := e02.trans e3
  refine q_raw ⟨_, rfl, _, rfl, (by show 1 ≤ sizeLine; rw [sizeLine_eq]; decide), fun gb hgb => ?_⟩
  have eg2 := e03.trans (Ex.new (o := .lst [V.str "beside"]) hgb)
  refine ⟨v, ta, gb, n, T', tasks, [.beside], rfl, hT.mono eg2, eg2 _ _ hta, hlt, hnd, hne, by omega, upd_same, fun p2 gas2 grs2 H4 hp2 e4 h4 grp pm nn fst => ?_⟩
  have e04 := eg2.trans e4
  have h2g : 2 ≤ grs2.length := by
    apply Classical.byContradiction
    intro hlt2
    obtain ⟨g, rest, f, rfl, hf, hre⟩ := fst
    have : rest = [] := by
      cases rest with
      | nil => rfl
      | cons a r => simp at hlt2
    subst this
    refine not_both hok hnf hlt hnd h2 ⟨c1, conn_of (gs := [.beside]) (fun x y h => by simpa [Bes] using h) (fun x y hx hy h => ?_) hre fun x hx => ?_⟩
    · have := hsy.sy' x y hx hy (by simpa [Bes] using h)
      simpa [Bes] using this
    · simpa using pm.mem_iff.mpr hx
  clear fst
  have hgl : gas2.length = grs2.length := grp.1
  have gr6 := grn pm nn
  refine q_raw fun da hda => ?_
  have hp2d : p2 ≠ da := by
    rintro rfl
    rw [hda] at h4; cases h4
  refine q_forLn (xs := gas2.map V.ref) (ev_var rfl) (sq_of (by rw [upd_ne hp2d]; exact h4)) (fun i σ' H' => ∃ x4 kvs, σ' = [some v, some (.ref ta), some (.ref p2), some (.ref da), x4, none, none] ∧ Ex H4 H' ∧ H' da = some (.dK kvs) ∧
      (∀ kv ∈ kvs, ∃ (k : Int) (a : Addr), kv.1 = Sum.inl k ∧ kv.2 = V.ref a ∧ a ∈ gas2) ∧ kvs.length ≤ i ∧ (0 < i → kvs ≠ []))
    (fun H5 e5 => ⟨none, [], rfl, (Ex.new hda).trans e5, e5 _ _ upd_same, (fun kv h => nomatch h), Nat.le_refl _, fun z => by omega⟩) (fun i σ' H' _ ⟨_, _, _, e, _⟩ => sq_of (e _ _ h4)) ?_ ?_
  · rintro i x σ' H5 hx ⟨x4, kvs, rfl, e5, hd5, hkv, hkl, hkn⟩
    rw [List.getElem?_map] at hx
    obtain ⟨a, ha, rfl⟩ := Option.map_eq_some_iff.mp hx
    have hil : i < gas2.length := (List.getElem?_eq_some_iff.mp ha).1
    obtain ⟨g, hg1, _, hg2⟩ := grp.2 i a ha
    obtain ⟨s1, s2, s3, s4⟩ := sub pm nn h2g g (List.mem_of_getElem? hg1)
    have hg0 : 0 < g.length := List.length_pos_iff.mpr s3
    have e05 := e04.trans e5
    refine ⟨_, rfl, _, rfl, ?_⟩
    refine e_cb1 (lcL (fun i => decide (T' (at_ tasks i) (at_ g 0) = .before)) (fun _ i v _ => v = vI (at_ tasks i)) (ev_var rfl) (sq_of (e05 _ _ hta)) (by rw [natsV_len]; omega) (fun _ => rfl) (fun _ _ => stays_val (g := fun i => vI (at_ tasks i)))
      (fun i x H6 e6 hx => ?_) (fun i x D H6 zs e6 _ _ hx _ => ?_) (fun D ys H6 hD e6 h6' gv => ?_))
    · obtain ⟨hi, rfl⟩ := natsV_at hx
      exact et_is (et_test (ev_eqS (ev_tab (hT.mono (e05.trans e6)) (hlt _ (at_mem hi)) (s1 _ (at_mem hg0)) (ev_var rfl) (ev_var rfl) (ev_ixNL (k := 0) (ev_var rfl) rfl ev_c (e6 _ _ (e5 _ _ hg2)) hg0)) ev_c)) (dec_before _)
    · obtain ⟨hi, rfl⟩ := natsV_at hx
      exact Ev.p (ev_var rfl)
    · refine ⟨D, ys, rfl, .inl (sq_of h6'), da, _, rfl, DPut.k (k := Sum.inl (ys.length : Int)) (e6 _ _ hd5) (by rw [sizeLine_eq]; omega), ?_⟩
      refine ⟨_, putK kvs (Sum.inl (ys.length : Int)) (V.ref a), rfl, Ex.mut (e5.trans e6) hda, upd_same, fun kv h => ?_, Nat.le_trans (length_putK _ _ _) (by omega), fun _ => putK_ne⟩
      rcases putK_mem h with h | ⟨h, h'⟩
      · exact hkv kv h
      · exact ⟨_, a, h, h', List.mem_of_getElem? ha⟩
  · rintro σ' H5 ⟨x4, kvs, rfl, e5, hd5, hkv, hkl, hkn⟩
    rw [List.length_map] at hkl hkn
    have e05 := e04.trans e5
    obtain ⟨ks, hks⟩ := keys_int kvs fun kv h => by
      obtain ⟨k, a, h1, _⟩ := hkv kv h
      exact ⟨k, h1⟩
    have hkl2 : kvs.length = ks.length := by
      have := congrArg List.length hks
      simpa using this
    have hpos : kvs ≠ [] := hkn (by omega)
    have hpos' : 0 < kvs.length := List.length_pos_iff.mpr hpos
    refine r_tupC (lc_swap (K := K) ⟨_, rfl, da, kvs, ks, rfl, .inl hd5, hks, by omega, fun ys pz pmz _ hpz => ?_⟩)
    have e6 : Ex H5 (upd H5 pz (.lst (ys.map V.int))) := Ex.new hpz
    refine lcL (K := K) (xs := ys.map V.int) (tl := tC (.ref pz)) (fun _ => true) (fun D i v' H' => ∃ L, PlanS (tasks.length - 2) H' v' L) ev_c (sq_of upd_same) (by rw [List.length_map, pmz.length_eq]; omega) (fun _ => rfl)
      (fun H7 _ D hD => ⟨fun i v H3 H4 e ⟨L, h1⟩ => ⟨L, h1.mono e⟩, fun i v H3 xs ys _ ⟨L, h1⟩ hl => ⟨L, h1.updL hl⟩⟩) (fun i x H7 e7 hx => et_yes)
      (fun i x D H7 zs e7 _ _ hx _ => fun H8 e8 Q' q' => ?_) (fun D zs H7 hD e7 h7 gv => ?_)
    · rw [List.getElem?_map] at hx
      obtain ⟨y, hy, rfl⟩ := Option.map_eq_some_iff.mp hx
      have hyk : y ∈ ks := pmz.mem_iff.mp (List.mem_of_getElem? hy)
      obtain ⟨vv, hv1, hv2⟩ := valV_some (kvs := kvs) (k := Sum.inl y) (by rw [hks]; exact List.mem_map_of_mem hyk)
      obtain ⟨_, a, _, hva, ham⟩ := hkv _ hv2
      have hva' : vv = V.ref a := hva
      subst hva'
      obtain ⟨j, hj⟩ := List.getElem?_of_mem ham
      obtain ⟨g, hg1, _, hg2⟩ := grp.2 j a hj
      obtain ⟨s1, s2, s3, s4⟩ := sub pm nn h2g g (List.mem_of_getElem? hg1)
      have e58 := e6.trans (e7.trans e8)
      refine ⟨_, rfl, _, rfl, _, rfl, da, .ref a, rfl, ?_, ?_⟩
      · have := DGet.k (k := Sum.inl y) (e58 _ _ hd5)
        rw [hv1] at this
        exact this
      · refine ⟨v, a, n, T', g, rfl, hT.mono (e05.trans e58), hok, hnf, e58 _ _ (e5 _ _ hg2), s1, s2, s3, by omega, by omega, fun v' d L H9 e9 hp9 hd9 => q' v' H9 e9 ⟨L, hp9.up (by omega)⟩⟩
    · rw [List.length_map, filter_all] at gv
      obtain ⟨hyl, hy⟩ := gv.all
      have hzl : zs.length = kvs.length := by rw [hyl, pmz.length_eq, hkl2]
      refine ret_node (d0 := tasks.length - 2) h7 hy (fun z => by rw [z] at hzl; simp at hzl; omega) (by omega) fun v' L H' e' hp' => q v' _ L H' (e05.trans (e6.trans (e7.trans e'))) hp' (by omega)
theorem ok_built (T : Tx K w mg F) (G_parts_by : FnOk P w K mg base CX0 2 (He.ga K "parts_by") (F 27) ["table", "tasks", "good"] spPartsBy) : ∀ m : Nat, FnOk P w K mg base CX0 (m+2) (He.ga K "built") (F 28) ["table", "tasks"] (spBuilt m)
  | 0 => none_ok fun vs H Q E ⟨v, ta, n, T, tasks, _, _, _, _, _, _, _, h, _, h2, _⟩ => by
    have := List.length_pos_iff.mpr h
    omega
  | m + 1 => built_step T G_parts_by (ok_built T G_parts_by m)
end K15
set_option Elab.async false
set_option linter.all false
set_option maxRecDepth 100000
/-! K15: plan_in, plan_of -/
namespace K15
open PySem PySem.Spec PyProof.Rows L2 Evl
theorem rgV_nats (n : Nat) : rgV 0 (n : Int) = natsV (List.range n) := by
  unfold rgV natsV
  have e : ((n : Int) - 0).toNat = n := by omega
  rw [e]
  apply List.map_congr_left
  intro k _
  show V.int (0 + (k : Int)) = V.int (k : Int)
  rw [Int.zero_add]
theorem ch_t {b : Bool} {p q : Prop} (h : b = true) (k : p) : if b = true then p else q := by rw [if_pos h]; exact k
theorem ch_f {b : Bool} {p q : Prop} (h : ¬ b = true) (k : q) : if b = true then p else q := by rw [if_neg h]; exact k
theorem PlanS.ne {d : Nat} {H : Hp} {v : V} {L : List Nat} (h : PlanS d H v L) : v ≠ .non := by
  rcases h.cases with ⟨k, rfl, _⟩ | ⟨_, a, _, _, _, _, rfl, _⟩
  · intro z; cases z
  · intro z; cases z
variable {P : Program} {w : World} {K : PySem.W.Frag} {mg : Str → Option Value} {base : Heap} {F : Nat → FuncData}
def PlanQ (n : Nat) (T : Tb) (H : Hp) (Q : VK) : Prop := (NoFlaw n T → ∀ v' H', Ex H H' → v' ≠ .non → Q v' H') ∧ (¬ NoFlaw n T → ∀ H', Ex H H' → Q .non H')
def spPlan : Sp := fun vs H Q _ => ∃ v n T, vs = [v] ∧ TabAt H v n T ∧ TabOk n T ∧ 1 ≤ n ∧ n ≤ 6 ∧ PlanQ n T H Q
theorem sc_plan_in : FnScope ["table"] ["table"] (defScope s_plan_in) := ⟨rfl, rfl, rfl, by decide +kernel, rfl, by decide +kernel, by decide +kernel⟩
theorem ok_plan_in (T : Tx K w mg F) (G_flaw_in : FnOk P w K mg base CX0 2 (He.ga K "flaw_in") (F 22) ["table"] spFlawIn) (G_built : FnOk P w K mg base CX0 8 (He.ga K "built") (F 28) ["table", "tasks"] (spBuilt 6)) (G_normal_of : FnOk P w K mg base CX0 18 (He.ga K "normal_of") (F 7) ["plan"] (spNormal 6)) : FnOk P w K mg base CX0 19 (He.ga K "plan_in") (F 29) ["table"] spPlan := by
  refine T.d_plan_in.ok sc_plan_in (fun vs H Q E h => ?_) (fun cdv A outer s H vs Q E hr h => ⟨_, PSs.nox (pss_cons (ps_if (pt_cmpR op_notN (pe_call G_flaw_in (hr.mono (by decide)) rfl T.m_flaw_in T.d_flaw_in.kp T.b_flaw_in .nil pass0 (pa_cons (pv 0) pa_nil)) pe_non (nomark _)) (pss_one (ps_ret pe_non)) pss_nil)
      (pss_one (ps_ret (pe_call G_normal_of (hr.mono (by decide)) rfl T.m_normal_of T.d_normal_of.kp T.b_normal_of .nil pass0 (pa_cons (pe_call G_built (hr.mono (by decide)) rfl T.m_built T.d_built.kp T.b_built .nil pass0 (pa_cons (pv 0) (pa_cons (pe_listRg rfl (by rfl) T.z_list (prg_1 (by rfl) T.z_range (pe_callB (cLen (K := K) rfl) (by rfl) T.z_len (by decide +kernel) (pa_cons (pv 0) pa_nil)))) pa_nil))) pa_nil))))), ?_⟩)
  · obtain ⟨v, n, T, rfl, _⟩ := h
    rfl
  obtain ⟨v, n, T', rfl, hT, hok, h1, h6, q1, q2⟩ := h
  obtain ⟨a, rs, rfl, ha, hrl, _⟩ := id hT
  refine ⟨_, rfl, _, n, T', rfl, hT, h6, fun nf H1 e1 => ⟨rfl, _, rfl, ?_⟩, fun k c p H1 hf e1 hp => ⟨rfl, _, rfl, ?_⟩⟩
  · have hh : ¬ ((!decide (V.non = V.non)) = true) := by simp
    refine ch_f hh ?_
    refine ⟨_, rfl, _, rfl, a, _, rfl, .inr (st_of (e1 _ _ ha)), n, by rw [List.length_map, hrl], .of_le (by omega) (by omega) (by omega) (by omega), fun pr hpr => ?_⟩
    have e2 := e1.trans (Ex.new (o := .lst (rgV 0 (n : Int))) hpr)
    refine ⟨_, pr, n, T', List.range n, rfl, hT.mono e2, hok, nf, by rw [upd_same, rgV_nats], fun x hx => List.mem_range.mp hx, List.nodup_range, fun z => ?_, by rw [List.length_range]; omega, by rw [List.length_range]; omega, fun v' d L H2 e3 hp hd => ?_⟩
    · have := congrArg List.length z
      rw [List.length_range] at this
      simp at this
      omega
    · rw [List.length_range] at hd
      have hb : L.length ≤ 7 ^ 5 := Nat.le_trans hp.bound (Nat.pow_le_pow_right (by decide) (by omega))
      have h5 : 7 ^ 5 ≤ 20000 := by decide
      exact ⟨v', d, L, rfl, by omega, by omega, hp, by omega, fun v2 L' H3 e4 hp2 _ => q1 nf v2 H3 (e2.trans (e3.trans e4)) hp2.ne⟩
  · have hh : (!decide (V.ref p = V.non)) = true := by simp
    refine ch_t hh ?_
    exact q2 hf.no H1 e1
theorem sc_plan_of : FnScope ["table"] ["table"] (defScope s_plan_of) := ⟨rfl, rfl, rfl, by decide +kernel, rfl, by decide +kernel, by decide +kernel⟩
theorem ok_plan_of (T : Tx K w mg F) (G_check_table : FnOk P w K mg base CX0 3 (He.ga K "check_table") (F 15) ["table"] spCheck) (G_plan_in : FnOk P w K mg base CX0 19 (He.ga K "plan_in") (F 29) ["table"] spPlan) : FnOk P w K mg base CX0 20 (He.ga K "plan_of") (F 30) ["table"] spPlan := by
  refine T.d_plan_of.ok sc_plan_of (fun vs H Q E h => ?_) (fun cdv A outer s H vs Q E hr h => ⟨_, PSs.nox (pss_cons (ps_expr (pe_call G_check_table (hr.mono (by decide)) rfl T.m_check_table T.d_check_table.kp T.b_check_table .nil pass0 (pa_cons (pv 0) pa_nil)))
      (pss_one (ps_ret (pe_call G_plan_in (hr.mono (by decide)) rfl T.m_plan_in T.d_plan_in.kp T.b_plan_in .nil pass0 (pa_cons (pv 0) pa_nil))))), ?_⟩)
  · obtain ⟨v, n, T, rfl, _⟩ := h
    rfl
  obtain ⟨v, n, T', rfl, hT, hok, h1, hn, q1, q2⟩ := h
  refine q_drop (v := .non) (ev_call (vs := [v]) (ea_cons (ev_var rfl) ea_nil) fun H1 e1 Q1 q1 E1 => ⟨_, n, T', rfl, hT.mono e1, hok, h1, by omega, fun H2 e2 => q1 H2 e2⟩) fun H1 e1 => ?_
  exact ⟨_, rfl, v, n, T', rfl, hT.mono e1, hok, h1, hn, fun nf v' H2 e2 hv => q1 nf v' H2 (e1.trans e2) hv, fun nf H2 e2 => q2 nf H2 (e1.trans e2)⟩
end K15
set_option Elab.async false
set_option linter.all false
set_option maxRecDepth 100000
/-! K15: the stream -/
namespace K15
open PySem PySem.Spec PyProof.Rows L2 Evl
section
variable {K : PySem.W.Frag} {σ : L2.St} {H H' H2 : Hp} {ta tb tc te : TE} {tu tz : TS} {t : TT} {D : Ends} {p a : Addr}
theorem q_ifM {P : L2.St → Hp → Prop} {b : Bool} (h : EvT t σ H b) (h1 : (∀ σ' H', P σ' H' → tz D σ' H') → b = true → ∀ H1, Ex H H1 → tu { D with nx := tz D } σ H1) (h2 : (∀ σ' H', P σ' H' → tz D σ' H') → b = false → ∀ H1, Ex H H1 → tz D σ H1)
    (k : ∀ σ' H', P σ' H' → tz D σ' H') : tSeq (tIfS t tu tNext) tz D σ H := q_when h (h1 k) (h2 k)
theorem ev_int {te : TE} {i : Int} (h : Ev te σ H (.int i)) : Ev (tCB (fun xs H Q => (∃ i, xs = [V.int i] ∧ Q (.int i) H) ∨ ∃ k, xs = [V.bl k] ∧ Q (.int (if k then 1 else 0)) H) (tCons te tNil)) σ H (.int i) := ev_cb (ea_cons h ea_nil) fun H5 e5 Q5 q5 => .inl ⟨_, rfl, q5 _ (Ex.refl _)⟩
/-- all but the object at p stays -/
def Exb (p : Addr) (H H' : Hp) : Prop := ∀ a o, a ≠ p → H a = some o → H' a = some o
theorem Ex.b (e : Ex H H') : Exb p H H' := fun a o _ h => e a o h
theorem Exb.refl : Exb p H H := fun _ _ _ h => h
theorem Exb.trans (a : Exb p H H') (b : Exb p H' H2) : Exb p H H2 := fun x o n h => b x o n (a x o n h)
theorem Exb.upd {o : HO} (e : Exb p H H') : Exb p H (upd H' p o) := fun x u n h => by rw [upd_ne n]; exact e x u n h
theorem Exb.mut {o : HO} (e : Exb p H H') (h : H a = none) : Exb p H (L2.upd H' a o) := fun x u n hx => by rw [upd_ne (ne_of_none hx h)]; exact e x u n hx
/-- the stream: the script's numbers, the cell at hand, its place -/
def Stm (H : Hp) (p s : Addr) : Prop := ∃ (ns : List Int) (c : Int) (k : Nat), H p = some (.lst [.ref s, .int c, vI k]) ∧ H s = some (.lst (ns.map V.int)) ∧ 0 ≤ c
variable {s : Addr}
theorem Stm.mono (h : Stm H p s) (e : Ex H H') : Stm H' p s := by
  obtain ⟨ns, c, k, h1, h2, h3⟩ := h
  exact ⟨ns, c, k, e _ _ h1, e _ _ h2, h3⟩
theorem Stm.ne {q : Addr} {c k : Int} {ns : List Int} (h1 : H p = some (.lst [.ref q, .int c, .int k])) (h2 : H q = some (.lst (ns.map V.int))) : q ≠ p := by
  rintro rfl
  rw [h1] at h2
  cases ns with
  | nil => cases h2
  | cons a r => cases h2
theorem Exb.tup {xs : List V} (e : Exb p H H') (s : Stm H p s) (h : H a = some (.tup xs)) : H' a = some (.tup xs) := by
  obtain ⟨ns, c, k, h1, h2, h3⟩ := s
  exact e _ _ (ne_of h h1 (by intro z; cases z)) h
theorem Exb.tab {v : V} {n : Nat} {T : Tb} (e : Exb p H H') (s : Stm H p s) (h : TabAt H v n T) : TabAt H' v n T := by
  obtain ⟨a, rs, h1, h2, h3, h4⟩ := h
  exact ⟨a, rs, h1, e.tup s h2, h3, fun i r hr => e.tup s (h4 i r hr)⟩
theorem Stm.nne (s : Stm H p s) (h : H a = none) : a ≠ p := by
  rintro rfl
  obtain ⟨ns, c, k, h1, _⟩ := s
  rw [h] at h1; cases h1
theorem Stm.nns (m : Stm H p s) (h : H a = none) : a ≠ s := by
  rintro rfl
  obtain ⟨ns, c, k, h1, h2, _⟩ := m
  rw [h] at h2; cases h2
theorem Stm.upd {o : HO} (h : Stm H p s) (h1 : a ≠ p) (h2 : a ≠ s) : Stm (upd H a o) p s := by
  obtain ⟨ns, c, k, g1, g2, g3⟩ := h
  exact ⟨ns, c, k, by rw [upd_ne h1.symm]; exact g1, by rw [upd_ne h2.symm]; exact g2, g3⟩
theorem Exb.back (e : Exb p H H') (s : Stm H' p s) (h : H' a = none) : H a = none := by
  cases q : H a with
  | none => rfl
  | some o => rw [e a o (s.nne h) q] at h; cases h
end
variable {P : Program} {w : World} {K : PySem.W.Frag} {mg : Str → Option Value} {base : Heap} {F : Nat → FuncData}
def spStream : Sp := fun vs H Q _ => ∃ (a : Addr) (ns : List Int), vs = [.ref a] ∧ SqL K H a (ns.map V.int) ∧ ∀ p s H', H p = none → Ex H H' → Stm H' p s → Q (.ref p) H'
theorem sc_law_stream : FnScope ["_law_script"] ["_law_script"] (defScope s_law_stream) := ⟨rfl, rfl, rfl, by decide +kernel, rfl, by decide +kernel, by decide +kernel⟩
theorem ok_law_stream (T : Tx K w mg F) : FnOk P w K mg base CX0 1 (He.ga K "_law_stream") (F 32) ["_law_script"] (spStream (K := K)) := by
  refine T.d_law_stream.ok sc_law_stream (fun vs H Q E h => ?_) (fun cdv A outer s H vs Q E hr h => ⟨_, PSs.nox (pss_one (ps_ret (pe_lst (pa_cons (pe_callTy (cListOf (K := K) rfl) (by rfl) T.z_list (by decide +kernel) (pa_cons (pv 0) pa_nil)) (pa_cons pe_int (pa_cons pe_int pa_nil)))))), ?_⟩)
  · obtain ⟨a, ns, rfl, _⟩ := h
    rfl
  obtain ⟨a, ns, rfl, ha, q⟩ := h
  refine ⟨_, rfl, a, _, rfl, .inl ha, fun l hl => ⟨(by show 3 ≤ sizeLine; rw [sizeLine_eq]; decide), fun p hp => ?_⟩⟩
  have hn : l ≠ p := by
    rintro rfl
    rw [upd_same] at hp; cases hp
  exact q p l _ (fresh_back (Ex.new hl) hp) ((Ex.new hl).trans (Ex.new hp)) ⟨ns, 0, 0, upd_same, by rw [upd_ne hn, upd_same], Int.le_refl 0⟩
def spNext : Sp := fun vs H Q _ => ∃ (p s : Addr) (m : Nat), vs = [.ref p, vI m] ∧ Stm H p s ∧ 0 < m ∧ m ≤ 100 ∧ ∀ (d : Nat) H', d < m → Exb p H H' → Stm H' p s → Q (vI d) H'
theorem sc_law_next : FnScope ["_law_stream_here", "_law_many", "_law_k", "_law_cell", "_law_digit"] ["_law_stream_here", "_law_many"] (defScope s_law_next) := ⟨rfl, rfl, rfl, by decide +kernel, rfl, by decide +kernel, by decide +kernel⟩
theorem ok_law_next (T : Tx K w mg F) : FnOk P w K mg base CX0 1 (He.ga K "_law_next") (F 33) ["_law_stream_here", "_law_many"] spNext := by
  refine T.d_law_next.ok sc_law_next (fun vs H Q E h => ?_) (fun cdv A outer s H vs Q E hr h => ⟨_, PSs.nox (pss_cons (ps_if (pt_cmpR op_eq (pe_ix (ixL (K := K) rfl) (pv 0) pe_int (fun _ _ => rfl)) pe_int (nomark _)) (pss_cons (ps_set (i := 2) sc_law_next.nd rfl (Or.inl rfl) (pe_ix (ixL (K := K) rfl) (pv 0) pe_int (fun _ _ => rfl)))
      (pss_cons (ps_set (i := 3) sc_law_next.nd rfl (Or.inl rfl) (pe_op op_add pe_int (pv 2)))
      (pss_cons (ps_if (pt_cmpR op_lt (pv 2) (pe_callB (cLen (K := K) rfl) (by rfl) T.z_len (by decide +kernel) (pa_cons (pe_ix (ixL (K := K) rfl) (pv 0) pe_int (fun _ _ => rfl)) pa_nil)) (nomark _)) (pss_one (ps_set (i := 3) sc_law_next.nd rfl (Or.inl rfl) (pe_callB call_abs (by rfl) T.z_abs (by decide +kernel) (pa_cons (pe_ix (ixL (K := K) rfl) (pe_ix (ixL (K := K) rfl) (pv 0) pe_int (fun _ _ => rfl)) (pv 2) (fun _ _ => rfl)) pa_nil)))) pss_nil)
      (pss_cons (ps_if (pt_cmpR op_lt (pv 3) (pe_op op_pow pe_int pe_int) (nomark _)) (pss_cons (ps_set (i := 3) sc_law_next.nd rfl (Or.inl rfl) (pe_op op_mod (pe_callTy call_int1 (by rfl) T.z_int (by decide +kernel) (pa_cons (pe_op op_add (pe_op op_add (pe_op op_mul (pv 3) pe_int) (pe_op op_mul (pv 2) pe_int)) pe_int) pa_nil)) pe_int))
      (pss_one (ps_set (i := 3) sc_law_next.nd rfl (Or.inl rfl) (pe_op op_add (pe_op op_mul (pe_op op_mod (pe_callTy call_int1 (by rfl) T.z_int (by decide +kernel) (pa_cons (pe_op op_add (pe_op op_mul (pv 3) pe_int) pe_int) pa_nil)) pe_int) pe_int) (pv 3))))) pss_nil)
      (pss_cons (ps_asg (pv 3) (pg_sub (pv 0) pe_int set_list))
      (pss_one (ps_asg (pe_op op_add (pv 2) pe_int) (pg_sub (pv 0) pe_int set_list)))))))) pss_nil)
      (pss_cons (ps_set (i := 4) sc_law_next.nd rfl (Or.inl rfl) (pe_op op_mod (pe_callTy call_int1 (by rfl) T.z_int (by decide +kernel) (pa_cons (pe_ix (ixL (K := K) rfl) (pv 0) pe_int (fun _ _ => rfl)) pa_nil)) (pv 1)))
      (pss_cons (ps_asg (pe_op op_fdiv (pe_ix (ixL (K := K) rfl) (pv 0) pe_int (fun _ _ => rfl)) (pv 1)) (pg_sub (pv 0) pe_int set_list))
      (pss_one (ps_ret (pv 4)))))), ?_⟩)
  · obtain ⟨p, s, m, rfl, _⟩ := h
    rfl
  obtain ⟨p, s, m, rfl, hs, hm0, hm, q⟩ := h
  obtain ⟨ns, c, k, hp, hsq, hc⟩ := hs
  have hsp := Stm.ne hp hsq
  refine q_ifM (P := fun σ' H' => ∃ c' k' x2 x3, σ' = [some (.ref p), some (vI m), x2, x3, none] ∧ Exb p H H' ∧ H' p = some (.lst [.ref s, .int c', vI k']) ∧ H' s = some (.lst (ns.map V.int)) ∧ 0 ≤ c')
    (et_test (ev_eqI (ev_ixLV (k := 1) (ev_var rfl) rfl ev_c hp rfl) ev_c)) (fun rest _ H1 e1 => ?_) (fun rest _ H1 e1 => rest _ H1 ⟨c, k, none, none, rfl, Ex.b e1, e1 _ _ hp, e1 _ _ hsq, hc⟩) ?_
  · refine q_asg (ev_ixLV (k := 2) (ev_var rfl) rfl ev_c (e1 _ _ hp) rfl) fun H2 e2 => ?_
    refine q_asg (ev_addI ev_c (ev_var rfl)) fun H3 e3 => ?_
    have e13 := e1.trans (e2.trans e3)
    refine q_ifM (P := fun σ' H' => ∃ c' : Int, σ' = [some (.ref p), some (vI m), some (vI k), some (.int c'), none] ∧ Ex H H' ∧ 0 ≤ c') (b := decide ((k : Int) < ((ns.map V.int).length : Int)))
      (et_test (ev_ltI (ev_var rfl) (ev_lenL (ev_ixLV (k := 0) (ev_var rfl) rfl ev_c (e13 _ _ hp) rfl) (e13 _ _ hsq)))) (fun rest hx H4 e4 => ?_) (fun rest _ H4 e4 => rest _ H4 ⟨_, rfl, e13.trans e4, by omega⟩) ?_
    · have hk : k < ns.length := by
        have := of_decide_eq_true hx
        rw [List.length_map] at this
        omega
      have e14 := e13.trans e4
      have hget : (ns.map V.int)[k]? = some (V.int ns[k]) := by simp [hk]
      refine s_asg (v := .int (if ns[k] < 0 then -ns[k] else ns[k])) (ev_cb (ea_cons (ev_ixLV (k := k) (ev_ixLV (k := 0) (ev_var rfl) rfl ev_c (e14 _ _ hp) rfl) rfl (ev_var rfl) (e14 _ _ hsq) hget) ea_nil) fun H5 e5 Q5 q5 => ⟨_, rfl, q5 _ (Ex.refl _)⟩) fun H5 e5 => ?_
      refine rest _ H5 ⟨_, rfl, e14.trans e5, ?_⟩
      split <;> omega
    rintro σ' H4 ⟨c1, rfl, e4, hc1⟩
    refine q_ifM (P := fun σ' H' => ∃ c' : Int, σ' = [some (.ref p), some (vI m), some (vI k), some (.int c'), none] ∧ Ex H H' ∧ 0 ≤ c') (b := decide (c1 < (10 : Int) ^ (18 : Int).toNat))
      (et_test (ev_ltI (ev_var rfl) (ev_op ev_c ev_c (rv_I ⟨by decide, by decide, by decide⟩)))) (fun rest hx H5 e5 => ?_) (fun rest _ H5 e5 => rest _ H5 ⟨c1, rfl, e4.trans e5, hc1⟩) ?_
    · have pos : (0 : Int) < 2147483647 := by decide
      have small : ∀ i : Int, CMul i 48271 ∧ CMul i 69621 ∧ CMul i 16807 ∧ CMul i 65537 := fun i => ⟨.inr (by decide), .inr (by decide), .inr (by decide), .inr (by decide)⟩
      refine q_asg (v := .int ((c1 * 48271 + k * 69621 + 11) % 2147483647)) (ev_op (ev_int (ev_addI (ev_addI (ev_op (ev_var rfl) ev_c (rv_I (small _).1)) (ev_op (ev_var rfl) ev_c (rv_I (small _).2.1))) ev_c)) ev_c (rv_I pos)) fun H6 e6 => ?_
      refine s_asg (ev_addI (ev_op (ev_op (ev_int (ev_addI (ev_op (ev_var rfl) ev_c (rv_I (small _).2.2.1)) ev_c)) ev_c (rv_I pos)) ev_c (rv_I (small _).2.2.2)) (ev_var rfl)) fun H7 e7 => ?_
      refine rest _ H7 ⟨_, rfl, e4.trans (e5.trans (e6.trans e7)), ?_⟩
      have h1 := Int.emod_nonneg ((c1 * 48271 + k * 69621 + 11) % 2147483647 * 16807 + 13) (show (2147483647 : Int) ≠ 0 by decide)
      have h2 := Int.emod_nonneg (c1 * 48271 + k * 69621 + 11) (show (2147483647 : Int) ≠ 0 by decide)
      omega
    rintro σ' H5 ⟨c2, rfl, e5, hc2⟩
    refine q_setL (j := 1) (e5 _ _ hp) (ev_var rfl) (ev_var rfl) ev_c (by show 1 < 3; decide) fun H6 e6 => ?_
    refine s_setL (j := 2) upd_same (ev_addI (ev_var rfl) ev_c) (ev_var rfl) ev_c (by show 2 < 3; decide) fun H7 e7 => ?_
    refine rest _ _ ⟨c2, k + 1, _, _, rfl, (((Ex.b (e5.trans e6)).upd).trans (Ex.b e7)).upd, upd_same, ?_, hc2⟩
    rw [upd_ne hsp]
    exact e7 _ _ (by rw [upd_ne hsp]; exact e6 _ _ (e5 _ _ hsq))
  · rintro σ' H1 ⟨c1, k1, x2, x3, rfl, e1, hp1, hs1, hc1⟩
    have hm' : (0 : Int) < (m : Int) := by omega
    refine q_asg (v := .int (c1 % m)) (ev_op (ev_int (ev_ixLV (k := 1) (ev_var rfl) rfl ev_c hp1 rfl)) (ev_var rfl) (rv_I hm')) fun H2 e2 => ?_
    refine q_setL (j := 1) (e2 _ _ hp1) (v := .int (c1 / m)) (ev_op (ev_ixLV (k := 1) (ev_var rfl) rfl ev_c (e2 _ _ hp1) rfl) (ev_var rfl) (rv_I ⟨hm', by omega⟩)) (ev_var rfl) ev_c (by show 1 < 3; decide) fun H3 e3 => ?_
    have hd0 := Int.emod_nonneg c1 (show (m : Int) ≠ 0 by omega)
    have hd1 := Int.emod_lt_of_pos c1 hm'
    have hdd : ((c1 % m).toNat : Int) = c1 % m := by omega
    refine s_ret (ev_var rfl) fun H4 e4 => ?_
    have hq := q (c1 % m).toNat H4 (by omega) ((e1.trans ((Ex.b (e2.trans e3)).upd)).trans (Ex.b e4)) ⟨ns, c1 / m, k1, e4 _ _ upd_same, e4 _ _ (by rw [upd_ne hsp]; exact e3 _ _ (e2 _ _ hs1)), Int.ediv_nonneg hc1 (by omega)⟩
    have e : vI (c1 % m).toNat = V.int (c1 % m) := by
      show V.int ((c1 % m).toNat : Int) = _
      rw [hdd]
    rw [e] at hq
    exact hq
def spShuf : Sp := fun vs H Q _ => ∃ (p s : Addr) (m : Nat), vs = [.ref p, vI m] ∧ Stm H p s ∧ m ≤ 6 ∧ ∀ r l H', H r = none → Exb p H H' → Stm H' p s → H' r = some (.lst (natsV l)) → l.Perm (List.range m) → Q (.ref r) H'
theorem sc_law_shuffled : FnScope ["_law_stream_here", "_law_many", "_law_left", "_law_found", "_law_k"] ["_law_stream_here", "_law_many"] (defScope s_law_shuffled) := ⟨rfl, rfl, rfl, by decide +kernel, rfl, by decide +kernel, by decide +kernel⟩
theorem perm_erase {α : Type} {l : List α} {k : Nat} {x : α} (h : l[k]? = some x) : (x :: l.eraseIdx k).Perm l := by
  induction l generalizing k with
  | nil => simp at h
  | cons a r ih =>
    cases k with
    | zero =>
      have : a = x := by simpa using h
      subst this
      exact .refl _
    | succ k =>
      have := ih (k := k) (by simpa using h)
      exact (List.Perm.swap a x _).trans (this.cons a)
theorem seq_ix {n k : Nat} (h : k < n) : seqIndex? (k : Int) n = some k := by
  unfold seqIndex?
  have h1 : ¬ ((k : Int) < 0) := by omega
  simp only [if_neg h1]
  rw [if_pos (by simp; omega)]
  simp
theorem map_erase {α β : Type} (f : α → β) : ∀ (l : List α) (k : Nat), (l.map f).eraseIdx k = (l.eraseIdx k).map f
  | [], _ => rfl
  | a :: r, 0 => rfl
  | a :: r, k + 1 => by
    rw [List.map_cons, List.eraseIdx_cons_succ, List.eraseIdx_cons_succ, List.map_cons, map_erase f r k]
theorem natsV_erase (l : List Nat) (k : Nat) : (natsV l).eraseIdx k = natsV (l.eraseIdx k) := by
  unfold natsV
  rw [map_erase]
theorem ok_law_shuffled (T : Tx K w mg F) (G_law_next : FnOk P w K mg base CX0 1 (He.ga K "_law_next") (F 33) ["_law_stream_here", "_law_many"] spNext) : FnOk P w K mg base CX0 2 (He.ga K "_law_shuffled") (F 36) ["_law_stream_here", "_law_many"] spShuf := by
  refine T.d_law_shuffled.ok sc_law_shuffled (fun vs H Q E h => ?_) (fun cdv A outer s H vs Q E hr h => ⟨_, PSs.nox (pss_cons (ps_set (i := 2) sc_law_shuffled.nd rfl (Or.inl rfl) (pe_listRg rfl (by rfl) T.z_list (prg_1 (by rfl) T.z_range (pv 1))))
      (pss_cons (ps_set (i := 3) sc_law_shuffled.nd rfl (Or.inl rfl) (pe_lst pa_nil))
      (pss_cons (ps_for PassesOwn.never rfl (pi_range1 (by rfl) T.z_range (pa_cons (pv 1) pa_nil)) (pg_name (i := 4) sc_law_shuffled.nd rfl (Or.inl rfl)) (pss_one (ps_expr (peBm (K := K) rfl PySem.F.plainAttrs_list PySem.F.slot_list_append PySem.F.type_list_append mt_append (pv 3) (pa_cons (peBm (K := K) rfl PySem.F.plainAttrs_list PySem.F.slot_list_pop PySem.F.type_list_pop mt_popAt (pv 2) (pa_cons (pe_call G_law_next (hr.mono (by decide)) rfl T.m_law_next T.d_law_next.kp T.b_law_next .nil pass0 (pa_cons (pv 0) (pa_cons (pe_callB (cLen (K := K) rfl) (by rfl) T.z_len (by decide +kernel) (pa_cons (pv 2) pa_nil)) pa_nil))) pa_nil)) pa_nil)))))
      (pss_one (ps_ret (pv 3)))))), ?_⟩)
  · obtain ⟨p, s, m, rfl, _⟩ := h
    rfl
  obtain ⟨p, s, m, rfl, hs, hm, q⟩ := h
  refine q_raw ⟨_, rfl, _, rfl, .of_le (by omega) (by omega) (by omega) (by omega), fun la hla => ?_⟩
  rw [rgV_nats]
  refine q_asgL (xs := []) (el_lst ea_nil (by show 0 ≤ 100000; decide)) fun fa H2 hfa0 e2 h2 => ?_
  have hfa : H fa = none := fresh_back (Ex.new hla) hfa0
  have hlf : la ≠ fa := by
    rintro rfl
    rw [upd_same] at hfa0; cases hfa0
  have nlp := hs.nne hla
  have nfp := hs.nne hfa
  have nls := hs.nns hla
  have nfs := hs.nns hfa
  have e02 : Ex H H2 := (Ex.new hla).trans e2
  refine q_forR1 (n := (m : Int)) (ea_cons (ev_var rfl) ea_nil) ⟨by omega, by omega⟩ (fun i σ' H' => ∃ x lf fd, σ' = [some (.ref p), some (vI m), some (.ref la), some (.ref fa), x] ∧ Exb p H H' ∧ Stm H' p s ∧ H' la = some (.lst (natsV lf)) ∧ H' fa = some (.lst (natsV fd)) ∧ (fd ++ lf).Perm (List.range m) ∧ lf.length + i = m)
    (fun H3 e3 => ⟨none, List.range m, [], rfl, Ex.b (e02.trans e3), hs.mono (e02.trans e3), e3 _ _ (e2 _ _ upd_same), e3 _ _ h2, .refl _, by simp⟩) ?_ ?_
  · rintro i σ' H3 hi ⟨x, lf, fd, rfl, e3, hs3, hl3, hf3, pm, hl⟩
    have hi' : i < m := by omega
    refine ⟨_, rfl, .inl ⟨rfl, _, sq_of hf3⟩, ?_⟩
    refine ⟨_, rfl, .inl ⟨rfl, _, sq_of hl3⟩, ?_⟩
    refine c_call (vs := [.ref p, vI lf.length]) (ea_cons (ev_var rfl) (ea_cons (ev_is (ev_lenL (ev_var rfl) hl3) (by rw [natsV_len])) ea_nil)) fun H4 e4 => ?_
    refine ⟨p, s, lf.length, rfl, hs3.mono e4, by omega, by omega, fun d H5 hd e5 hs5 => ?_⟩
    have e45 := (Ex.b e4).trans e5
    have hl5 := e45 _ _ nlp hl3
    have hf5 := e45 _ _ nfp hf3
    refine ⟨la, natsV lf, d, d, vI (at_ lf d), rfl, rfl, hl5, by omega, by omega, seq_ix (by rw [natsV_len]; exact hd), natsV_get' hd, ?_⟩
    rw [natsV_erase]
    refine ⟨fa, natsV fd, vI (at_ lf d), rfl, rfl, by rw [upd_ne hlf.symm]; exact hf5, ?_, ?_⟩
    · have := pm.length_eq
      rw [List.length_append, List.length_range] at this
      rw [natsV_len, sizeLine_eq]; omega
    · have he : lf[d]? = some (at_ lf d) := by rw [at_eq hd]; simp [hd]
      have hpe := perm_erase he
      refine ⟨_, lf.eraseIdx d, fd ++ [at_ lf d], rfl, ((e3.trans e45).mut hla).mut hfa, ?_, ?_, ?_, ?_, ?_⟩
      · exact (hs5.upd nlp nls).upd nfp nfs
      · rw [upd_ne hlf, upd_same]
      · rw [upd_same]; simp [natsV]
      · refine List.Perm.trans ?_ pm
        rw [List.append_assoc]
        exact hpe.append_left fd
      · have := hpe.length_eq
        rw [List.length_cons] at this
        omega
  · rintro σ' H3 ⟨x, lf, fd, rfl, e3, hs3, hl3, hf3, pm, hl⟩
    have : lf = [] := List.eq_nil_of_length_eq_zero (by omega)
    subst this
    rw [List.append_nil] at pm
    exact s_ret (ev_var rfl) fun H4 e4 => q fa fd H4 hfa (e3.trans (Ex.b e4)) (hs3.mono e4) (e4 _ _ hf3) pm
end K15
set_option Elab.async false
set_option linter.all false
set_option maxRecDepth 100000
/-! K15: the law's plans: joined, plan, tasks -/
namespace K15
open PySem PySem.Spec PyProof.Rows L2 Evl
inductive Pl where
  | leaf (k : Nat)
  | node (wd : Str) (ps : List Pl)
def lvs : Nat → Pl → List Nat
  | _, .leaf k => [k]
  | 0, .node _ _ => []
  | d + 1, .node _ ps => (ps.map (lvs d)).flatten
def PlAt : Nat → Hp → V → Pl → Prop
  | _, _, v, .leaf k => v = vI k
  | 0, _, _, .node _ _ => False
  | d + 1, H, v, .node wd ps => ∃ (a b : Addr) (vs : List V), v = .ref a ∧ H a = some (.tup [.str wd, .ref b]) ∧ H b = some (.tup vs) ∧ vs.length = ps.length ∧ ps ≠ [] ∧ ∀ (i : Nat) (v : V) (p : Pl), vs[i]? = some v → ps[i]? = some p → PlAt d H v p
theorem lvs_leaf (d k : Nat) : lvs d (.leaf k) = [k] := by cases d <;> rfl
theorem plAt_leaf {d : Nat} {H : Hp} {v : V} {k : Nat} : PlAt d H v (.leaf k) ↔ v = vI k := by cases d <;> exact Iff.rfl
theorem PlAt.keep {H H' : Hp} (k : ∀ a xs, H a = some (.tup xs) → H' a = some (.tup xs)) : ∀ {d : Nat} {v : V} {p : Pl}, PlAt d H v p → PlAt d H' v p
  | d, v, .leaf n, h => plAt_leaf.mpr (plAt_leaf.mp h)
  | d + 1, v, .node wd ps, ⟨a, b, vs, h1, h2, h3, h4, h5, h6⟩ => ⟨a, b, vs, h1, k _ _ h2, k _ _ h3, h4, h5, fun i v p hv hp => (h6 i v p hv hp).keep k⟩
theorem PlAt.mono {H H' : Hp} {d : Nat} {v : V} {p : Pl} (h : PlAt d H v p) (e : Ex H H') : PlAt d H' v p := h.keep fun a xs q => e _ _ q
theorem PlAt.exb {H H' : Hp} {d : Nat} {v : V} {p : Pl} {q s : Addr} (h : PlAt d H v p) (e : Exb q H H') (m : Stm H q s) : PlAt d H' v p := h.keep fun a xs z => e.tup m z
theorem PlAt.updL {H : Hp} {d : Nat} {v : V} {p : Pl} {D : Addr} {xs ys : List V} (h : PlAt d H v p) (hD : H D = some (.lst xs)) : PlAt d (upd H D (.lst ys)) v p := h.keep fun a zs q => by
  rw [upd_ne (ne_of q hD (by intro z; cases z))]; exact q
theorem PlAt.up1 {H : Hp} : ∀ {d : Nat} {v : V} {p : Pl}, PlAt d H v p → PlAt (d + 1) H v p ∧ lvs (d + 1) p = lvs d p
  | d, v, .leaf n, h => ⟨plAt_leaf.mpr (plAt_leaf.mp h), by rw [lvs_leaf, lvs_leaf]⟩
  | d + 1, v, .node wd ps, ⟨a, b, vs, h1, h2, h3, h4, h5, h6⟩ => ⟨⟨a, b, vs, h1, h2, h3, h4, h5, fun i v p hv hp => (h6 i v p hv hp).up1.1⟩, by
    show (ps.map (lvs (d + 1))).flatten = (ps.map (lvs d)).flatten
    congr 1
    apply List.map_congr_left
    intro p hp
    obtain ⟨i, hi⟩ := List.getElem?_of_mem hp
    obtain ⟨hl, _⟩ := List.getElem?_eq_some_iff.mp hi
    exact (h6 i _ p (List.getElem?_eq_getElem (by omega)) hi).up1.2⟩
theorem PlAt.up {H : Hp} {d e : Nat} {v : V} {p : Pl} (h : PlAt d H v p) (q : d ≤ e) : PlAt e H v p ∧ lvs e p = lvs d p := by
  induction q with
  | refl => exact ⟨h, rfl⟩
  | step _ ih => exact ⟨ih.1.up1.1, ih.1.up1.2.trans ih.2⟩
theorem PlAt.pos {H : Hp} : ∀ {d : Nat} {v : V} {p : Pl}, PlAt d H v p → 0 < (lvs d p).length
  | d, v, .leaf n, h => by rw [lvs_leaf]; simp
  | d + 1, v, .node wd ps, ⟨a, b, vs, h1, h2, h3, h4, h5, h6⟩ => by
    obtain ⟨p, hp⟩ := List.exists_mem_of_ne_nil _ h5
    obtain ⟨i, hi⟩ := List.getElem?_of_mem hp
    obtain ⟨hl, _⟩ := List.getElem?_eq_some_iff.mp hi
    exact Nat.lt_of_lt_of_le (h6 i _ p (List.getElem?_eq_getElem (by omega)) hi).pos (flat_len (List.mem_map_of_mem hp))
/-- a list of plans -/
def PlsAt (d : Nat) (H : Hp) (vs : List V) (ps : List Pl) : Prop := vs.length = ps.length ∧ ∀ (i : Nat) (v : V) (p : Pl), vs[i]? = some v → ps[i]? = some p → PlAt d H v p
theorem PlsAt.mono {H H' : Hp} {d : Nat} {vs : List V} {ps : List Pl} (h : PlsAt d H vs ps) (e : Ex H H') : PlsAt d H' vs ps := ⟨h.1, fun i v p hv hp => (h.2 i v p hv hp).mono e⟩
theorem PlsAt.keep {H H' : Hp} {d : Nat} {vs : List V} {ps : List Pl} (h : PlsAt d H vs ps) (k : ∀ a xs, H a = some (.tup xs) → H' a = some (.tup xs)) : PlsAt d H' vs ps := ⟨h.1, fun i v p hv hp => (h.2 i v p hv hp).keep k⟩
theorem PlsAt.nil {H : Hp} {d : Nat} : PlsAt d H [] [] := ⟨rfl, fun i v p hv => by simp at hv⟩
theorem PlsAt.cons {H : Hp} {d : Nat} {v : V} {p : Pl} {vs : List V} {ps : List Pl} (h : PlAt d H v p) (t : PlsAt d H vs ps) : PlsAt d H (v :: vs) (p :: ps) := ⟨by simp [t.1], fun i v' p' hv hp => by
  cases i with
  | zero =>
    have e1 : v = v' := by simpa using hv
    have e2 : p = p' := by simpa using hp
    subst e1; subst e2; exact h
  | succ i => exact t.2 i v' p' (by simpa using hv) (by simpa using hp)⟩
theorem PlsAt.head {H : Hp} {d : Nat} {v : V} {p : Pl} {vs : List V} {ps : List Pl} (h : PlsAt d H (v :: vs) (p :: ps)) : PlAt d H v p ∧ PlsAt d H vs ps := ⟨h.2 0 v p rfl rfl, by simpa using h.1, fun i v' p' hv hp => h.2 (i + 1) v' p' (by simpa using hv) (by simpa using hp)⟩
theorem PlsAt.append {H : Hp} {d : Nat} : ∀ {vs : List V} {ps : List Pl} {ws : List V} {qs : List Pl}, PlsAt d H vs ps → PlsAt d H ws qs → PlsAt d H (vs ++ ws) (ps ++ qs)
  | [], [], _, _, _, h => h
  | v :: vs, p :: ps, _, _, h, h2 => .cons h.head.1 (h.head.2.append h2)
  | [], _ :: _, _, _, h, _ => by have := h.1; simp at this
  | _ :: _, [], _, _, h, _ => by have := h.1; simp at this
theorem PlsAt.up {H : Hp} {d e : Nat} {vs : List V} {ps : List Pl} (h : PlsAt d H vs ps) (q : d ≤ e) : PlsAt e H vs ps ∧ ps.map (lvs e) = ps.map (lvs d) := ⟨⟨h.1, fun i v p hv hp => ((h.2 i v p hv hp).up q).1⟩, by
  apply List.map_congr_left
  intro p hp
  obtain ⟨i, hi⟩ := List.getElem?_of_mem hp
  obtain ⟨hl, _⟩ := List.getElem?_eq_some_iff.mp hi
  have := h.1
  exact ((h.2 i _ p (List.getElem?_eq_getElem (by omega)) hi).up q).2⟩
theorem PlsAt.len {H : Hp} {d : Nat} {vs : List V} {ps : List Pl} (h : PlsAt d H vs ps) : ps.length ≤ (ps.map (lvs d)).flatten.length := by
  have := flat_ge (l := ps.map (lvs d)) fun g hg => by
    obtain ⟨p, hp, rfl⟩ := List.mem_map.mp hg
    obtain ⟨i, hi⟩ := List.getElem?_of_mem hp
    obtain ⟨hl, _⟩ := List.getElem?_eq_some_iff.mp hi
    have h1 := h.1
    have := (h.2 i _ p (List.getElem?_eq_getElem (by omega)) hi).pos
    exact List.length_pos_iff.mp this
  rw [List.length_map] at this
  exact this
theorem PlAt.node {H : Hp} {d : Nat} {a b : Addr} {wd : Str} {vs : List V} {ps : List Pl} (h1 : H a = some (.tup [.str wd, .ref b])) (h2 : H b = some (.tup vs)) (h : PlsAt d H vs ps) (hn : ps ≠ []) : PlAt (d + 1) H (.ref a) (.node wd ps) := ⟨a, b, vs, rfl, h1, h2, h.1, hn, h.2⟩
theorem PlAt.cases {H : Hp} {d : Nat} {v : V} {p : Pl} (h : PlAt d H v p) : (∃ k, p = .leaf k ∧ v = vI k) ∨ ∃ d' wd ps a b vs, d = d' + 1 ∧ p = .node wd ps ∧ v = .ref a ∧ H a = some (.tup [.str wd, .ref b]) ∧ H b = some (.tup vs) ∧ PlsAt d' H vs ps ∧ ps ≠ [] := by
  match d, p, h with
  | d, .leaf k, h => exact .inl ⟨k, rfl, plAt_leaf.mp h⟩
  | d + 1, .node wd ps, ⟨a, b, vs, h1, h2, h3, h4, h5, h6⟩ => exact .inr ⟨d, wd, ps, a, b, vs, rfl, rfl, h1, h2, h3, ⟨h4, h6⟩, h5⟩
variable {P : Program} {w : World} {K : PySem.W.Frag} {mg : Str → Option Value} {base : Heap} {F : Nat → FuncData}
def spJoined : Sp := fun vs H Q _ => ∃ wd v1 v2 d p1 p2, vs = [.str wd, v1, v2] ∧ PlAt d H v1 p1 ∧ PlAt d H v2 p2 ∧ (lvs d p1).length + (lvs d p2).length ≤ 6 ∧ ∀ v' p' H', Ex H H' → PlAt (d + 1) H' v' p' → lvs (d + 1) p' = lvs d p1 ++ lvs d p2 → Q v' H'
theorem sc_law_joined : FnScope ["_law_word", "_law_first", "_law_second", "_law_parts", "_law_plan_here"] ["_law_word", "_law_first", "_law_second"] (defScope s_law_joined) := ⟨rfl, rfl, rfl, by decide +kernel, rfl, by decide +kernel, by decide +kernel⟩
theorem ok_law_joined (T : Tx K w mg F) : FnOk P w K mg base CX0 1 (He.ga K "_law_joined") (F 37) ["_law_word", "_law_first", "_law_second"] spJoined := by
  refine T.d_law_joined.ok sc_law_joined (fun vs H Q E h => ?_) (fun cdv A outer s H vs Q E hr h => ⟨_, PSs.nox (pss_cons (ps_set (i := 3) sc_law_joined.nd rfl (Or.inl rfl) (pe_tup pa_nil))
      (pss_cons (ps_for PassesOwn.never rfl (piL (K := K) rfl (pe_lst (pa_cons (pv 1) (pa_cons (pv 2) pa_nil)))) (pg_name (i := 4) sc_law_joined.nd rfl (Or.inl rfl)) (pss_one (ps_if (PW.pt (pw_and (pt_val (pe_callB (cIsi (K := K) rfl) (by rfl) T.z_isinstance (by decide +kernel) (pa_cons (pv 4) (pa_cons (pe_bltn (v := .ty "tuple") (u := .type "tuple") (by rfl) T.z_tuple (by decide +kernel) rfl) pa_nil)))) (pw_and1 (pt_cmpR op_eq (pe_ix (ixT (K := K) rfl) (pv 4) pe_int (fun _ _ => rfl)) (pv 0) (nomark _))))) (pss_one (ps_set (i := 3) sc_law_joined.nd rfl (Or.inl rfl) (pe_op (oCatA (K := K) rfl) (pv 3) (pe_ix (ixT (K := K) rfl) (pv 4) pe_int (fun _ _ => rfl))))) (pss_one (ps_set (i := 3) sc_law_joined.nd rfl (Or.inl rfl) (pe_op (oCatA (K := K) rfl) (pv 3) (pe_tup (pa_cons (pv 4) pa_nil))))))))
      (pss_one (ps_ret (pe_tup (pa_cons (pv 0) (pa_cons (pv 3) pa_nil))))))), ?_⟩)
  · obtain ⟨wd, v1, v2, d, p1, p2, rfl, _⟩ := h
    rfl
  obtain ⟨wd, v1, v2, d, p1, p2, rfl, h1, h2, h6, q⟩ := h
  refine q_asgU (eu_tup ea_nil (by show 0 ≤ 100000; decide)) fun t0 H1 ht0 e1 ht => ?_
  refine q_forNLn (xs := [v1, v2]) (el_lst (ea_cons (ev_var rfl) (ea_cons (ev_var rfl) ea_nil)) (by show 2 ≤ 100000; decide)) (fun l i σ' H' => ∃ t x vs ps, σ' = [some (.str wd), some v1, some v2, some (.ref t), x] ∧ Ex H H' ∧ H' l = some (.lst [v1, v2]) ∧ H' t = some (.tup vs) ∧ PlsAt d H' vs ps ∧ (ps.map (lvs d)).flatten = (([p1, p2].take i).map (lvs d)).flatten)
    (fun l H2 hl e2 h2l => ⟨t0, none, [], [], rfl, e1.trans e2, h2l, e2 _ _ ht, .nil, rfl⟩) (fun l i σ' H' _ ⟨_, _, _, _, _, _, hl, _⟩ => sq_of hl) ?_ ?_
  · rintro l i x σ' H2 hx ⟨t, x0, vs, ps, rfl, e2, hl2, ht2, hps, hlv⟩
    have hi : i < 2 := by
      have := (List.getElem?_eq_some_iff.mp hx).1
      simpa using this
    obtain ⟨px, hpx, hxp⟩ : ∃ px, [p1, p2][i]? = some px ∧ PlAt d H x px := by
      rcases Nat.lt_or_ge i 1 with h | h
      · have : i = 0 := by omega
        subst this
        have : v1 = x := by simpa using hx
        subst this
        exact ⟨p1, rfl, h1⟩
      · have : i = 1 := by omega
        subst this
        have : v2 = x := by simpa using hx
        subst this
        exact ⟨p2, rfl, h2⟩
    have htk : ([p1, p2].take (i + 1)).map (lvs d) = ([p1, p2].take i).map (lvs d) ++ [lvs d px] := by
      obtain ⟨hl', he⟩ := List.getElem?_eq_some_iff.mp hpx
      rw [List.take_succ_eq_append_getElem hl', List.map_append, List.map_cons, List.map_nil, he]
    have hlen : ∀ qs : List Pl, ∀ H' ws, PlsAt d H' ws qs → (qs.map (lvs d)).flatten = (([p1, p2].take (i + 1)).map (lvs d)).flatten → ws.length ≤ 6 := by
      intro qs H' ws hq e
      have h3 := hq.len
      rw [e] at h3
      have h4 : (([p1, p2].take (i + 1)).map (lvs d)).flatten.length ≤ 6 := by
        rcases Nat.lt_or_ge i 1 with h | h
        · have : i = 0 := by omega
          subst this
          simp; omega
        · have : i = 1 := by omega
          subst this
          simp; omega
      have := hq.1
      omega
    -- behind either branch
    have step : ∀ (ws : List V) (qs : List Pl) (b : Addr) (H3 : Hp), Ex H2 H3 → H3 b = some (.tup ws) → ws ≠ [] → PlsAt d H3 ws qs → (qs.map (lvs d)).flatten = lvs d px → ∀ R : VK, (∀ t' vs' ps' H', Ex H2 H' → H' t' = some (.tup vs') → PlsAt d H' vs' ps' → (ps'.map (lvs d)).flatten = (([p1, p2].take (i + 1)).map (lvs d)).flatten → R (.ref t') H') →
        rCatA K (.ref t) (.ref b) H3 R := by
      intro ws qs b H3 e3 hb hwn hq hqe R k
      have hps3 := hps.mono e3
      have hall : ((ps ++ qs).map (lvs d)).flatten = (([p1, p2].take (i + 1)).map (lvs d)).flatten := by
        rw [List.map_append, List.flatten_append, hlv, hqe, htk, List.flatten_append]
        simp
      have hsz := hlen (ps ++ qs) H3 (vs ++ ws) (hps3.append hq) hall
      rw [List.length_append] at hsz
      refine ⟨t, b, vs, ws, rfl, rfl, st_of (e3 _ _ ht2), st_of hb, by rw [sizeLine_eq]; omega, fun hv => ?_, fun _ hw => absurd hw hwn, fun _ _ p hp => ?_⟩
      · have : ps = [] := List.eq_nil_of_length_eq_zero (by rw [← hps.1, hv]; rfl)
        subst this
        exact k b ws qs H3 e3 hb hq hall
      · exact k p (vs ++ ws) (ps ++ qs) _ (e3.trans (Ex.new hp)) upd_same ((hps3.append hq).mono (Ex.new hp)) hall
    have one : ∀ H3, Ex H2 H3 → ∀ R : VK, (∀ t' vs' ps' H', Ex H2 H' → H' t' = some (.tup vs') → PlsAt d H' vs' ps' → (ps'.map (lvs d)).flatten = (([p1, p2].take (i + 1)).map (lvs d)).flatten → R (.ref t') H') → ∀ b, H3 b = none → rCatA K (.ref t) (.ref b) (upd H3 b (.tup [x])) R := by
      intro H3 e3 R k b hb
      refine step [x] [px] b _ (e3.trans (Ex.new hb)) upd_same (by simp) (.cons (hxp.mono (e2.trans (e3.trans (Ex.new hb)))) .nil) (by simp) R k
    rcases hxp.cases with ⟨k, rfl, rfl⟩ | ⟨d', wd', qs, a, b, ws, rfl, rfl, rfl, ha, hb, hq, hqn⟩
    · refine s_if (b := false) (et_is (et_and (b := false) (et_test (isi_int_tup (ev_var rfl))) fun z => by cases z) rfl) (fun z => by cases z) fun _ H3 e3 => ?_
      refine ⟨_, rfl, _, rfl, (by show 1 ≤ sizeLine; rw [sizeLine_eq]; decide), fun b hb => ?_⟩
      refine one H3 e3 _ (fun t' vs' ps' H' e' ht' hp' he' => ?_) b hb
      exact ⟨t', _, vs', ps', rfl, e2.trans e', e' _ _ hl2, ht', hp', he'⟩
    · have ha2 := e2 _ _ ha
      refine s_if (et_and (et_test (isi_tup (ev_var rfl) ha2)) fun _ => et_test (ev_eqS (ev_ixTV (k := 0) (ev_var rfl) rfl ev_c ha2 rfl) (ev_var rfl))) (fun _ H3 e3 => ?_) fun _ H3 e3 => ?_
      · refine ⟨_, rfl, ?_⟩
        refine ev_ixTV (k := 1) (ev_var rfl) rfl ev_c (e3 _ _ ha2) rfl H3 (Ex.refl _) _ fun H4 e4 => ?_
        have e34 := e3.trans e4
        have hq4 := (hq.mono (e2.trans e34)).up (Nat.le_succ d')
        refine step ws qs b H4 e34 (e34 _ _ (e2 _ _ hb)) (fun z => hqn (List.eq_nil_of_length_eq_zero (by rw [← hq.1, z]; rfl))) hq4.1 (by rw [hq4.2]; rfl) _ fun t' vs' ps' H' e' ht' hp' he' => ?_
        exact ⟨t', _, vs', ps', rfl, e2.trans e', e' _ _ hl2, ht', hp', he'⟩
      · refine ⟨_, rfl, _, rfl, (by show 1 ≤ sizeLine; rw [sizeLine_eq]; decide), fun b hb => ?_⟩
        refine one H3 e3 _ (fun t' vs' ps' H' e' ht' hp' he' => ?_) b hb
        exact ⟨t', _, vs', ps', rfl, e2.trans e', e' _ _ hl2, ht', hp', he'⟩
  · rintro l σ' H2 ⟨t, x0, vs, ps, rfl, e2, hl2, ht2, hps, hlv⟩
    refine s_retU (xs := [.str wd, .ref t]) (eu_tup (ea_cons (ev_var rfl) (ea_cons (ev_var rfl) ea_nil)) (by show 2 ≤ 100000; decide)) fun r H3 hr3 e3 h3 => ?_
    have hlv' : (ps.map (lvs d)).flatten = lvs d p1 ++ lvs d p2 := by rw [hlv]; simp
    refine q (.ref r) (.node wd ps) H3 (e2.trans e3) (.node h3 (e3 _ _ ht2) (hps.mono e3) fun z => ?_) hlv'
    have := h1.pos
    rw [z] at hlv'
    have := congrArg List.length hlv'
    simp at this
    omega
def spLPlan : Sp := fun vs H Q _ => ∃ (p s : Addr) (m : Nat), vs = [.ref p, vI m] ∧ Stm H p s ∧ 1 ≤ m ∧ m ≤ 6 ∧ ∀ v pl H', Exb p H H' → Stm H' p s → PlAt 5 H' v pl → (lvs 5 pl).Perm (List.range m) → Q v H'
theorem PlsAt.erase {H : Hp} {d k : Nat} {vs : List V} {ps : List Pl} (h : PlsAt d H vs ps) : PlsAt d H (vs.eraseIdx k) (ps.eraseIdx k) := by
  refine ⟨by rw [List.length_eraseIdx, List.length_eraseIdx, h.1], fun i v p hv hp => ?_⟩
  rw [List.getElem?_eraseIdx] at hv hp
  split at hv
  · rename_i h1
    rw [if_pos h1] at hp
    exact h.2 i v p hv hp
  · rename_i h1
    rw [if_neg h1] at hp
    exact h.2 (i + 1) v p hv hp
theorem leaf_plans {H : Hp} : ∀ l : List Nat, PlsAt 0 H (natsV l) (l.map Pl.leaf) ∧ ((l.map Pl.leaf).map (lvs 0)).flatten = l
  | [] => ⟨.nil, rfl⟩
  | a :: r => by
    have ⟨h1, h2⟩ := leaf_plans (H := H) r
    refine ⟨.cons rfl h1, ?_⟩
    simp only [List.map_cons, List.flatten_cons, h2]
    rfl
theorem q_next {σ : L2.St} {H : Hp} {ta tb : TE} {E : XK} {Q : VK} {p s : Addr} {m : Nat} (h1 : Ev ta σ H (.ref p)) (h2 : Ev tb σ H (vI m)) (hs : Stm H p s) (h0 : 0 < m) (hm : m ≤ 100) (k : ∀ (d : Nat) H', d < m → Exb p H H' → Stm H' p s → Q (vI d) H') : tCall spNext [] E (tCons ta (tCons tb tNil)) σ H Q :=
  c_call (vs := [.ref p, vI m]) (ea_cons h1 (ea_cons h2 ea_nil)) fun H1 e1 => ⟨p, s, m, rfl, hs.mono e1, h0, hm, fun d H2 hd e2 hs2 => k d H2 hd ((Ex.b e1).trans e2) hs2⟩
theorem sc_law_plan : FnScope ["_law_stream_here", "_law_size", "_law_plans", "_law_turn", "_law_first", "_law_second"] ["_law_stream_here", "_law_size"] (defScope s_law_plan) := ⟨rfl, rfl, rfl, by decide +kernel, rfl, by decide +kernel, by decide +kernel⟩
theorem ok_law_plan (T : Tx K w mg F) (G_law_next : FnOk P w K mg base CX0 1 (He.ga K "_law_next") (F 33) ["_law_stream_here", "_law_many"] spNext) (G_law_shuffled : FnOk P w K mg base CX0 2 (He.ga K "_law_shuffled") (F 36) ["_law_stream_here", "_law_many"] spShuf) (G_law_joined : FnOk P w K mg base CX0 1 (He.ga K "_law_joined") (F 37) ["_law_word", "_law_first", "_law_second"] spJoined) : FnOk P w K mg base CX0 3 (He.ga K "_law_plan") (F 38) ["_law_stream_here", "_law_size"] spLPlan := by
  refine T.d_law_plan.ok sc_law_plan (fun vs H Q E h => ?_) (fun cdv A outer s H vs Q E hr h => ⟨_, PSs.nox (pss_cons (ps_set (i := 2) sc_law_plan.nd rfl (Or.inl rfl) (pe_call G_law_shuffled (hr.mono (by decide)) rfl T.m_law_shuffled T.d_law_shuffled.kp T.b_law_shuffled .nil pass0 (pa_cons (pv 0) (pa_cons (pv 1) pa_nil))))
      (pss_cons (ps_for PassesOwn.never rfl (pi_range1 (by rfl) T.z_range (pa_cons (pe_op op_sub (pv 1) pe_int) pa_nil)) (pg_name (i := 3) sc_law_plan.nd rfl (Or.inl rfl)) (pss_cons (ps_set (i := 4) sc_law_plan.nd rfl (Or.inl rfl) (peBm (K := K) rfl PySem.F.plainAttrs_list PySem.F.slot_list_pop PySem.F.type_list_pop mt_popAt (pv 2) (pa_cons (pe_call G_law_next (hr.mono (by decide)) rfl T.m_law_next T.d_law_next.kp T.b_law_next .nil pass0 (pa_cons (pv 0) (pa_cons (pe_callB (cLen (K := K) rfl) (by rfl) T.z_len (by decide +kernel) (pa_cons (pv 2) pa_nil)) pa_nil))) pa_nil)))
      (pss_cons (ps_set (i := 5) sc_law_plan.nd rfl (Or.inl rfl) (peBm (K := K) rfl PySem.F.plainAttrs_list PySem.F.slot_list_pop PySem.F.type_list_pop mt_popAt (pv 2) (pa_cons (pe_call G_law_next (hr.mono (by decide)) rfl T.m_law_next T.d_law_next.kp T.b_law_next .nil pass0 (pa_cons (pv 0) (pa_cons (pe_callB (cLen (K := K) rfl) (by rfl) T.z_len (by decide +kernel) (pa_cons (pv 2) pa_nil)) pa_nil))) pa_nil)))
      (pss_one (ps_expr (peBm (K := K) rfl PySem.F.plainAttrs_list PySem.F.slot_list_append PySem.F.type_list_append mt_append (pv 2) (pa_cons (pe_call G_law_joined (hr.mono (by decide)) rfl T.m_law_joined T.d_law_joined.kp T.b_law_joined .nil pass0 (pa_cons (pe_ix (ixL (K := K) rfl) (pe_lst (pa_cons pe_str (pa_cons pe_str pa_nil))) (pe_call G_law_next (hr.mono (by decide)) rfl T.m_law_next T.d_law_next.kp T.b_law_next .nil pass0 (pa_cons (pv 0) (pa_cons pe_int pa_nil))) (fun _ _ => rfl)) (pa_cons (pv 4) (pa_cons (pv 5) pa_nil)))) pa_nil)))))))
      (pss_one (ps_ret (pe_ix (ixL (K := K) rfl) (pv 2) pe_int (fun _ _ => rfl)))))), ?_⟩)
  · obtain ⟨p, s, m, rfl, _⟩ := h
    rfl
  obtain ⟨p, s, m, rfl, hs, hm1, hm, q⟩ := h
  refine q_raw (c_call (vs := [.ref p, vI m]) (ea_cons (ev_var rfl) (ea_cons (ev_var rfl) ea_nil)) fun H1 e1 => ⟨p, s, m, rfl, hs.mono e1, hm, fun la l H2 hla0 e2 hs2 h2 pm => ?_⟩)
  have hla : H la = none := fresh_back e1 hla0
  have nlp := hs.nne hla
  have nls := hs.nns hla
  refine q_forR1 (n := (m : Int) - 1) (ea_cons (ev_subI (ev_var rfl) ev_c) ea_nil) ⟨by omega, by omega⟩ (fun i σ' H' => ∃ x y z vs ps, σ' = [some (.ref p), some (vI m), some (.ref la), x, y, z] ∧ Exb p H H' ∧ Stm H' p s ∧ H' la = some (.lst vs) ∧ PlsAt i H' vs ps ∧ ((ps.map (lvs i)).flatten).Perm (List.range m) ∧ vs.length + i = m)
    (fun H3 e3 => ⟨none, none, none, natsV l, l.map Pl.leaf, rfl, ((Ex.b e1).trans e2).trans (Ex.b e3), hs2.mono e3, e3 _ _ h2, (leaf_plans l).1, by rw [(leaf_plans (H := H) l).2]; exact pm, by rw [natsV_len, pm.length_eq, List.length_range]; rfl⟩) ?_ ?_
  · rintro i σ' H3 hi ⟨x, y, z, vs, ps, rfl, e3, hs3, hl3, hp3, pm3, hlen⟩
    have hi' : i + 1 < m := by omega
    have hv2 : 2 ≤ vs.length := by omega
    -- first
    refine q_raw ⟨_, rfl, .inl ⟨rfl, _, sq_of hl3⟩, ?_⟩
    refine q_next (m := vs.length) (ev_var rfl) (ev_lenL (ev_var rfl) hl3) hs3 (by omega) (by omega) fun d1 H4 hd1 e4 hs4 => ?_
    have hl4 := e4 _ _ nlp hl3
    have hp4 := hp3.keep fun a xs h => e4.tup hs3 h
    obtain ⟨v1, hv1⟩ : ∃ v1, vs[d1]? = some v1 := ⟨_, List.getElem?_eq_getElem hd1⟩
    obtain ⟨p1, hp1⟩ : ∃ p1, ps[d1]? = some p1 := ⟨_, List.getElem?_eq_getElem (by rw [← hp3.1]; exact hd1)⟩
    refine ⟨la, vs, d1, d1, v1, rfl, rfl, hl4, by omega, by omega, seq_ix hd1, hv1, ?_⟩
    have a1 : PlAt i H4 v1 p1 := hp4.2 d1 v1 p1 hv1 hp1
    have a2 : PlsAt i H4 (vs.eraseIdx d1) (ps.eraseIdx d1) := hp4.erase
    have pe1 := (perm_erase hp1).map (lvs i)
    have e5 : Exb p H (upd H4 la (.lst (vs.eraseIdx d1))) := (e3.trans e4).mut hla
    have hs5 := hs4.upd (o := .lst (vs.eraseIdx d1)) nlp nls
    have k5 : ∀ a xs, H4 a = some (.tup xs) → upd H4 la (.lst (vs.eraseIdx d1)) a = some (.tup xs) := fun a xs h => by rw [upd_ne (ne_of h hl4 (by intro z; cases z))]; exact h
    have hlen2 : (vs.eraseIdx d1).length + 1 = vs.length := by rw [List.length_eraseIdx, if_pos hd1]; omega
    generalize hws : vs.eraseIdx d1 = ws at *
    generalize hqs : ps.eraseIdx d1 = qs at *
    -- second
    refine q_raw ⟨_, rfl, .inl ⟨rfl, _, sq_of upd_same⟩, ?_⟩
    refine q_next (m := ws.length) (ev_var rfl) (ev_lenL (ev_var rfl) upd_same) hs5 (by omega) (by omega) fun d2 H6 hd2 e6 hs6 => ?_
    have hl6 := e6 _ _ nlp upd_same
    have b1 : PlAt i H6 v1 p1 := a1.keep fun a xs h => e6.tup hs5 (k5 a xs h)
    have b2 : PlsAt i H6 ws qs := a2.keep fun a xs h => e6.tup hs5 (k5 a xs h)
    obtain ⟨v2, hv2'⟩ : ∃ v2, ws[d2]? = some v2 := ⟨_, List.getElem?_eq_getElem hd2⟩
    obtain ⟨p2, hp2⟩ : ∃ p2, qs[d2]? = some p2 := ⟨_, List.getElem?_eq_getElem (by rw [← b2.1]; exact hd2)⟩
    refine ⟨la, ws, d2, d2, v2, rfl, rfl, hl6, by omega, by omega, seq_ix hd2, hv2', ?_⟩
    have c1 : PlAt i H6 v2 p2 := b2.2 d2 v2 p2 hv2' hp2
    have c2 : PlsAt i H6 (ws.eraseIdx d2) (qs.eraseIdx d2) := b2.erase
    have pe2 := (perm_erase hp2).map (lvs i)
    have e7 : Exb p H (upd H6 la (.lst (ws.eraseIdx d2))) := (e5.trans e6).mut hla
    have hs7 := hs6.upd (o := .lst (ws.eraseIdx d2)) nlp nls
    have k7 : ∀ a xs, H6 a = some (.tup xs) → upd H6 la (.lst (ws.eraseIdx d2)) a = some (.tup xs) := fun a xs h => by rw [upd_ne (ne_of h hl6 (by intro z; cases z))]; exact h
    have hlen3 : (ws.eraseIdx d2).length + 1 = ws.length := by rw [List.length_eraseIdx, if_pos hd2]; omega
    generalize hws2 : ws.eraseIdx d2 = ws2 at *
    generalize hqs2 : qs.eraseIdx d2 = qs2 at *
    have pall : (lvs i p1 ++ (lvs i p2 ++ (qs2.map (lvs i)).flatten)).Perm (List.range m) := by
      refine List.Perm.trans ?_ pm3
      refine List.Perm.trans ?_ pe1.flatten
      simp only [List.map_cons, List.flatten_cons]
      refine List.Perm.append_left _ ?_
      have := pe2.flatten
      simpa only [List.map_cons, List.flatten_cons] using this
    -- joined
    refine ⟨_, rfl, .inl ⟨rfl, _, sq_of upd_same⟩, ?_⟩
    refine ⟨(by show 2 ≤ sizeLine; rw [sizeLine_eq]; decide), fun pw hpw => ?_⟩
    have npw := hs7.nne hpw
    refine q_next (m := 2) (ev_var rfl) ev_c (hs7.mono (Ex.new hpw)) (by decide) (by decide) fun d3 H8 hd3 e8 hs8 => ?_
    have e78 : Exb p (upd H6 la (.lst ws2)) H8 := (Ex.b (Ex.new hpw)).trans e8
    obtain ⟨wd, hwd⟩ : ∃ wd : Str, [V.str "then", V.str "beside"][d3]? = some (V.str wd) := by
      rcases Nat.lt_or_ge d3 1 with h | h
      · have : d3 = 0 := by omega
        subst this
        exact ⟨_, rfl⟩
      · have : d3 = 1 := by omega
        subst this
        exact ⟨_, rfl⟩
    refine ⟨pw, _, d3, .str wd, rfl, rfl, sq_of (e8 _ _ npw upd_same), atI_nat hwd, ?_⟩
    have kk : ∀ a xs, H6 a = some (.tup xs) → H8 a = some (.tup xs) := fun a xs h => e78.tup hs7 (k7 a xs h)
    refine ⟨_, rfl, _, rfl, wd, v1, v2, i, p1, p2, rfl, b1.keep kk, c1.keep kk, ?_, fun v' p' H9 e9 hp9 hl9 => ?_⟩
    · have := pall.length_eq
      simp only [List.length_append, List.length_range] at this
      omega
    have hl8 := e78 _ _ nlp upd_same
    refine ⟨la, ws2, v', rfl, rfl, e9 _ _ hl8, by rw [sizeLine_eq]; omega, ?_⟩
    have hla9 := e9 _ _ hl8
    have d2' : PlsAt (i + 1) H9 ws2 qs2 := ((c2.keep fun a xs h => e9 _ _ (kk a xs h)).up (Nat.le_succ i)).1
    have d2l : qs2.map (lvs (i + 1)) = qs2.map (lvs i) := (c2.up (Nat.le_succ i)).2
    have k10 : ∀ a xs, H9 a = some (.tup xs) → upd H9 la (.lst (ws2 ++ [v'])) a = some (.tup xs) := fun a xs h => by rw [upd_ne (ne_of h hla9 (by intro z; cases z))]; exact h
    refine ⟨_, _, _, ws2 ++ [v'], qs2 ++ [p'], rfl, (((e7.trans e78).trans (Ex.b e9)).mut hla), (hs8.mono e9).upd nlp nls, upd_same, (d2'.keep k10).append (.cons (hp9.keep k10) .nil), ?_, ?_⟩
    · rw [List.map_append, List.flatten_append, d2l]
      simp only [List.map_cons, List.map_nil, List.flatten_cons, List.flatten_nil, List.append_nil, hl9]
      refine List.perm_append_comm.trans ?_
      rw [List.append_assoc]
      exact pall
    · rw [List.length_append, List.length_singleton]
      omega
  · rintro σ' H3 ⟨x, y, z, vs, ps, rfl, e3, hs3, hl3, hp3, pm3, hlen⟩
    have e : ((m : Int) - 1).toNat = m - 1 := by omega
    rw [e] at hp3 pm3 hlen
    obtain ⟨v, rfl⟩ : ∃ v, vs = [v] := by
      match vs, hlen with
      | [v], _ => exact ⟨v, rfl⟩
      | [], h => simp at h; omega
      | a :: b :: r, h => simp at h; omega
    obtain ⟨pl, rfl⟩ : ∃ pl, ps = [pl] := by
      have := hp3.1
      match ps, this with
      | [v], _ => exact ⟨v, rfl⟩
    have hp5 := (hp3.2 0 v pl rfl rfl).up (show m - 1 ≤ 5 by omega)
    refine s_ret (ev_ixLV (k := 0) (ev_var rfl) rfl ev_c hl3 rfl) fun H4 e4 => q v pl H4 (e3.trans (Ex.b e4)) (hs3.mono e4) (hp5.1.mono e4) ?_
    rw [hp5.2]
    simpa using pm3
end K15
set_option Elab.async false
set_option linter.all false
set_option maxRecDepth 100000
/-! K15: the law's tasks, relation, table -/
namespace K15
open PySem PySem.Spec PyProof.Rows L2 Evl
variable {P : Program} {w : World} {K : PySem.W.Frag} {mg : Str → Option Value} {base : Heap} {F : Nat → FuncData}
def spTasks (m : Nat) : Sp := fun vs H Q _ => ∃ v d p, vs = [v] ∧ d < m ∧ PlAt d H v p ∧ (lvs d p).length ≤ 6 ∧ ∀ r l H', H r = none → Ex H H' → H' r = some (.lst (natsV l)) → l.Perm (lvs d p) → Q (.ref r) H'
theorem sc_law_tasks : FnScope ["_law_plan_here", "_law_found", "_law_piece"] ["_law_plan_here"] (defScope s_law_tasks) := ⟨rfl, rfl, rfl, by decide +kernel, rfl, by decide +kernel, by decide +kernel⟩
theorem law_tasks_step {m : Nat} (T : Tx K w mg F) (G_law_tasks : FnOk P w K mg base CX0 m (He.ga K "_law_tasks") (F 39) ["_law_plan_here"] (spTasks m)) : FnOk P w K mg base CX0 (m+1) (He.ga K "_law_tasks") (F 39) ["_law_plan_here"] (spTasks (m + 1)) := by
  refine T.d_law_tasks.ok sc_law_tasks (fun vs H Q E h => ?_) (fun cdv A outer s H vs Q E hr h => ⟨_, PSs.nox (pss_cons (ps_if (pt_not (pt_val (pe_callB (cIsi (K := K) rfl) (by rfl) T.z_isinstance (by decide +kernel) (pa_cons (pv 0) (pa_cons (pe_bltn (v := .ty "tuple") (u := .type "tuple") (by rfl) T.z_tuple (by decide +kernel) rfl) pa_nil))))) (pss_one (ps_ret (pe_lst (pa_cons (pv 0) pa_nil)))) pss_nil)
      (pss_cons (ps_set (i := 1) sc_law_tasks.nd rfl (Or.inl rfl) (pe_lst pa_nil))
      (pss_cons (ps_for PassesOwn.never rfl (piT (K := K) rfl (pe_ix (ixT (K := K) rfl) (pv 0) pe_int (fun _ _ => rfl))) (pg_name (i := 2) sc_law_tasks.nd rfl (Or.inl rfl)) (pss_one (ps_set (i := 1) sc_law_tasks.nd rfl (Or.inl rfl) (pe_op op_cat (pv 1) (pe_call G_law_tasks hr rfl T.m_law_tasks T.d_law_tasks.kp T.b_law_tasks .nil pass0 (pa_cons (pv 2) pa_nil))))))
      (pss_one (ps_ret (pe_callB (cSortI (K := K) rfl) (by rfl) T.z_sorted (by decide +kernel) (pa_cons (pv 1) pa_nil))))))), ?_⟩)
  · obtain ⟨v, d, p, rfl, _⟩ := h
    rfl
  obtain ⟨v, d, p, rfl, hd, hp, h6, q⟩ := h
  rcases hp.cases with ⟨k, rfl, rfl⟩ | ⟨d', wd, ps, a, b, ws, rfl, rfl, rfl, ha, hb, hq, hqn⟩
  · refine q_when (et_not (et_test (isi_int_tup (ev_var rfl)))) (fun _ H1 e1 => ?_) fun hx => by cases hx
    exact s_retL (xs := natsV [k]) (el_lst (ea_cons (ev_var rfl) ea_nil) (by show 1 ≤ 100000; decide)) fun p H2 hp0 e2 h2 => q p [k] H2 (fresh_back e1 hp0) (e1.trans e2) h2 (by rw [lvs_leaf])
  refine q_when (et_not (et_test (isi_tup (ev_var rfl) ha))) (fun hx => by cases hx) fun _ H1 e1 => ?_
  refine q_asgL (xs := []) (el_lst ea_nil (by show 0 ≤ 100000; decide)) fun f0 H2 hf0 e2 h2 => ?_
  have hex := e1.trans e2
  refine q_forT (xs := ws) (ev_ixTV (k := 1) (ev_var rfl) rfl ev_c (hex _ _ ha) rfl) (st_of (hex _ _ hb)) (fun i σ' H' => ∃ fa x fd, σ' = [some (.ref a), some (.ref fa), x] ∧ Ex H H' ∧ H' fa = some (.lst (natsV fd)) ∧ fd.Perm ((ps.take i).map (lvs d')).flatten)
    (fun H3 e3 => ⟨f0, none, [], rfl, hex.trans e3, e3 _ _ h2, .refl _⟩) (fun i σ' H' _ ⟨_, _, _, _, e, _⟩ => st_of (e _ _ hb)) ?_ ?_
  · rintro i x σ' H3 hx ⟨fa, x2, fd, rfl, e3, hf3, pm⟩
    obtain ⟨hi, hxe⟩ := List.getElem?_eq_some_iff.mp hx
    have hi' : i < ps.length := by rw [← hq.1]; exact hi
    have hpi : ps[i]? = some ps[i] := List.getElem?_eq_getElem hi'
    have hm : ps[i] ∈ ps := List.getElem_mem hi'
    have hpl := hq.2 i x _ hx hpi
    have h6' : ((ps.map (lvs d')).flatten).length ≤ 6 := h6
    have hlen : (lvs d' ps[i]).length ≤ 6 := Nat.le_trans (flat_len (List.mem_map_of_mem hm)) h6'
    have htk : ((ps.take (i + 1)).map (lvs d')).flatten = ((ps.take i).map (lvs d')).flatten ++ lvs d' ps[i] := by
      rw [List.take_succ_eq_append_getElem hi', List.map_append, List.flatten_append, List.map_cons, List.map_nil, List.flatten_cons, List.flatten_nil, List.append_nil]
    have htl : ((ps.take (i + 1)).map (lvs d')).flatten.length ≤ 6 := by
      have e : (ps.map (lvs d')).flatten = ((ps.take (i + 1)).map (lvs d')).flatten ++ ((ps.drop (i + 1)).map (lvs d')).flatten := by
        rw [← List.flatten_append, ← List.map_append, List.take_append_drop]
      rw [e, List.length_append] at h6'
      omega
    refine s_raw ⟨_, rfl, ?_⟩
    refine c_call (vs := [x]) (ea_cons (ev_var rfl) ea_nil) fun H4 e4 => ?_
    refine ⟨x, d', ps[i], rfl, by omega, hpl.mono (e3.trans e4), hlen, fun r l H5 hr5 e5 h5 pl => ?_⟩
    have pall : (fd ++ l).Perm ((ps.take (i + 1)).map (lvs d')).flatten := by
      rw [htk]; exact pm.append pl
    refine ⟨fa, r, _, _, rfl, rfl, e5 _ _ (e4 _ _ hf3), h5, ?_, fun t ht => ?_⟩
    · have := pall.length_eq
      rw [List.length_append] at this
      rw [natsV_len, natsV_len, sizeLine_eq]; omega
    · refine ⟨t, _, fd ++ l, rfl, (e3.trans (e4.trans e5)).trans (Ex.new ht), by rw [upd_same]; simp [natsV], pall⟩
  · rintro σ' H3 ⟨fa, x, fd, rfl, e3, hf3, pm⟩
    rw [hq.1, List.take_length] at pm
    refine r_cb1 ⟨_, rfl, fa, fd.map fun k : Nat => (k : Int), rfl, by rw [← natsV_map]; exact sq_of hf3, fun ns' r pn _ hr => ?_⟩
    obtain ⟨l, pl, rfl⟩ := perm_nats pn
    exact q r l _ (fresh_back e3 hr) (e3.trans (Ex.new hr)) (by rw [upd_same, natsV_map]) (pl.trans pm)
theorem ok_law_tasks (T : Tx K w mg F) : ∀ m : Nat, FnOk P w K mg base CX0 m (He.ga K "_law_tasks") (F 39) ["_law_plan_here"] (spTasks m)
  | 0 => none_ok fun vs H Q E ⟨v, d, p, _, h, _⟩ => by omega
  | m + 1 => law_tasks_step T (ok_law_tasks T m)
/-- the relation of two leaves -/
def idx (d x : Nat) (ps : List Pl) : Nat := ps.findIdx fun p => decide (x ∈ lvs d p)
def relF : Nat → Pl → Nat → Nat → R
  | _, .leaf _, _, _ => .beside
  | 0, .node _ _, _, _ => .beside
  | d + 1, .node wd ps, x, y => if idx d x ps = idx d y ps then (match ps[idx d x ps]? with | some p => relF d p x y | none => .beside) else if wd = "beside" then .beside else if idx d x ps < idx d y ps then .before else .after
theorem mem_flat {d x : Nat} {ps : List Pl} (h : x ∈ (ps.map (lvs d)).flatten) : ∃ p ∈ ps, x ∈ lvs d p := by
  obtain ⟨l, hl, hx⟩ := List.mem_flatten.mp h
  obtain ⟨p, hp, rfl⟩ := List.mem_map.mp hl
  exact ⟨p, hp, hx⟩
theorem idx_lt {d x : Nat} {ps : List Pl} (h : x ∈ (ps.map (lvs d)).flatten) : idx d x ps < ps.length := by
  obtain ⟨p, hp, hx⟩ := mem_flat h
  exact List.findIdx_lt_length_of_exists ⟨p, hp, decide_eq_true hx⟩
theorem idx_mem {d x : Nat} {ps : List Pl} (h : x ∈ (ps.map (lvs d)).flatten) : x ∈ lvs d (ps[idx d x ps]'(idx_lt h)) := by
  have := List.findIdx_getElem (xs := ps) (p := fun p => decide (x ∈ lvs d p)) (w := idx_lt h)
  exact of_decide_eq_true this
theorem idx_uni {d x : Nat} : ∀ {ps : List Pl}, ((ps.map (lvs d)).flatten).Nodup → ∀ (i : Nat) (p : Pl), ps[i]? = some p → x ∈ lvs d p → i = idx d x ps
  | [], _, i, p, h, _ => by simp at h
  | q :: ps, nd, i, p, h, hx => by
    rw [List.map_cons, List.flatten_cons, List.nodup_append] at nd
    cases i with
    | zero =>
      have : q = p := by simpa using h
      subst this
      unfold idx
      rw [List.findIdx_cons, decide_eq_true hx]
      rfl
    | succ i =>
      have h' : ps[i]? = some p := by simpa using h
      have hi := idx_uni nd.2.1 i p h' hx
      have hm : x ∈ (ps.map (lvs d)).flatten := List.mem_flatten.mpr ⟨_, List.mem_map_of_mem (List.mem_of_getElem? h'), hx⟩
      have hn : x ∉ lvs d q := fun hq => nd.2.2 x hq x hm rfl
      unfold idx
      rw [List.findIdx_cons, decide_eq_false hn]
      show i + 1 = ps.findIdx _ + 1
      rw [hi]
      rfl
theorem flat_nodup {α : Type} {l : List (List α)} {g : List α} (h : l.flatten.Nodup) (hg : g ∈ l) : g.Nodup := h.sublist (List.sublist_flatten_of_mem hg)
theorem relF_ok : ∀ (d : Nat) (p : Pl) (x y : Nat), (lvs d p).Nodup → x ∈ lvs d p → y ∈ lvs d p → x ≠ y → relF d p x y ≠ .same ∧ relF d p y x = (relF d p x y).opp
  | d, .leaf k, x, y, _, hx, hy, hne => by
    rw [lvs_leaf] at hx hy
    have h1 : x = k := by simpa using hx
    have h2 : y = k := by simpa using hy
    exact absurd (h1.trans h2.symm) hne
  | 0, .node wd ps, x, y, _, hx, _, _ => nomatch hx
  | d + 1, .node wd ps, x, y, nd, hx, hy, hne => by
    have hx' : x ∈ (ps.map (lvs d)).flatten := hx
    have hy' : y ∈ (ps.map (lvs d)).flatten := hy
    have nd' : ((ps.map (lvs d)).flatten).Nodup := nd
    show (if idx d x ps = idx d y ps then _ else _) ≠ R.same ∧ (if idx d y ps = idx d x ps then _ else _) = R.opp (if idx d x ps = idx d y ps then _ else _)
    by_cases hi : idx d x ps = idx d y ps
    · rw [if_pos hi, if_pos hi.symm]
      have e1 : ps[idx d x ps]? = some (ps[idx d x ps]'(idx_lt hx')) := List.getElem?_eq_getElem (idx_lt hx')
      have e2 : ps[idx d y ps]? = some (ps[idx d x ps]'(idx_lt hx')) := by rw [← hi]; exact e1
      rw [e1, e2]
      have hm1 := idx_mem hx'
      have hm2 := idx_mem hy'
      have hm2' : y ∈ lvs d (ps[idx d x ps]'(idx_lt hx')) := by
        have := e2
        rw [List.getElem?_eq_getElem (idx_lt hy')] at this
        rw [Option.some.inj this] at hm2
        exact hm2
      exact relF_ok d _ x y (flat_nodup nd' (List.mem_map_of_mem (List.getElem_mem _))) hm1 hm2' hne
    · rw [if_neg hi, if_neg (Ne.symm hi)]
      by_cases hw : wd = "beside"
      · rw [if_pos hw, if_pos hw]
        exact ⟨by decide, rfl⟩
      · rw [if_neg hw, if_neg hw]
        by_cases hlt : idx d x ps < idx d y ps
        · rw [if_pos hlt, if_neg (by omega)]
          exact ⟨by decide, rfl⟩
        · rw [if_neg hlt, if_pos (by omega)]
          exact ⟨by decide, rfl⟩
end K15
set_option Elab.async false
set_option linter.all false
set_option maxRecDepth 100000
/-! K15: the law's relation -/
namespace K15
open PySem PySem.Spec PyProof.Rows L2 Evl
section
variable {X : Cx}
/-- [i] < [j] -/
def rLtL1 (K : PySem.W.Frag) : R2 := fun x y H Q => ∃ (a b : Addr) (i j : Int), x = .ref a ∧ y = .ref b ∧ SqL K H a [.int i] ∧ SqL K H b [.int j] ∧ Q (.bl (decide (i < j))) H
theorem oLtL1' (hu : X.A.units + 64 < cLine) : OpR X (compareOp .Lt) (rLtL1 X.K) := by
  intro pins s σ H x y v u Q I rx ry h
  obtain ⟨a, b, i, j, rfl, rfl, ha, hb, q⟩ := h
  obtain ⟨as, r1⟩ := Dp.reads I _ _ v (Dp.lst ha (.cons (.int i) .nil)) rx
  obtain ⟨bs, r2⟩ := Dp.reads I _ _ u (Dp.lst hb (.cons (.int j) .nil)) ry
  have e : PySem.W.DatumOrd.lt [i] [j] = decide (i < j) := by
    show (if i = j then PySem.W.listLt ([] : List Int) [] else decide (i < j)) = _
    by_cases hij : i = j
    · subst hij
      rw [if_pos rfl, decide_eq_false (Int.lt_irrefl i)]
      rfl
    · rw [if_neg hij]
  refine PySem.W.lt_datum (α := List Int) (x := [i]) (y := [j]) ⟨as, r1⟩ ⟨bs, r2⟩ ?_ ?_
  · show X.A.units + 1 < cLine
    omega
  · rw [e]
    exact ⟨.bl _, H, I, rfl, q⟩
theorem oLtL1 {K : PySem.W.Frag} (h : X.K = K) (hu : X.A.units + 64 < cLine) : OpR X (compareOp .Lt) (rLtL1 K) := h ▸ oLtL1' hu
end
section
variable {K : PySem.W.Frag} {σ : L2.St} {H H' : Hp} {ta tb tc te : TE} {a b : Addr}
theorem rv_ltL {i j : Nat} (ha : H a = some (.lst (natsV [i]))) (hb : H b = some (.lst (natsV [j]))) : RV (rLtL1 K) (.ref a) (.ref b) H (.bl (decide (i < j))) := fun H1 e1 Q q => ⟨a, b, i, j, rfl, rfl, sq_of (e1 _ _ ha), sq_of (e1 _ _ hb), by
  have e : decide ((i : Int) < (j : Int)) = decide (i < j) := by
    apply decide_eq_decide.mpr
    omega
  rw [e]
  exact q H1 (Ex.refl _)⟩
theorem rv_eqL {i j : Nat} (ha : H a = some (.lst (natsV [i]))) (hb : H b = some (.lst (natsV [j]))) : RV (rEqD K) (.ref a) (.ref b) H (.bl (decide (i = j))) := fun H1 e1 Q q => ⟨.list [.int i], .list [.int j], .lst (sq_of (e1 _ _ ha)) (.cons (.int i) .nil), .lst (sq_of (e1 _ _ hb)) (.cons (.int j) .nil), rfl, rfl, by
  have e : PyData.eqv (.list [.int i]) (.list [.int j]) = decide (i = j) := by
    have h : PyData.eqv (.list [.int i]) (.list [.int j]) = decide (([(i : Int)] : List Int) = [(j : Int)]) := PySem.W.Datum.eqv (α := List Int) [(i : Int)] [(j : Int)]
    rw [h]
    apply decide_eq_decide.mpr
    constructor
    · intro z
      injection z with z
      omega
    · intro z
      rw [z]
  rw [e]
  exact q H1 (Ex.refl _)⟩
end
/-- the places found so far -/
def cnt (j n : Nat) : List Nat := (List.range n).filter fun t => decide (t = j)
theorem cnt_zero {j : Nat} : cnt j 0 = [] := rfl
theorem cnt_yes {j n : Nat} (h : n = j) : cnt j (n + 1) = cnt j n ++ [n] := by
  unfold cnt
  rw [List.range_succ, List.filter_append, List.filter_cons, if_pos (by simpa using h), List.filter_nil]
theorem cnt_no {j n : Nat} (h : n ≠ j) : cnt j (n + 1) = cnt j n := by
  unfold cnt
  rw [List.range_succ, List.filter_append, List.filter_cons, if_neg (by simpa using h), List.filter_nil, List.append_nil]
theorem cnt_le {j : Nat} : ∀ n, n ≤ j → cnt j n = []
  | 0, _ => rfl
  | n + 1, h => by rw [cnt_no (by omega), cnt_le n (by omega)]
theorem cnt_all {j : Nat} : ∀ n, j < n → cnt j n = [j]
  | n + 1, h => by
    by_cases e : n = j
    · rw [cnt_yes e, cnt_le n (by omega), e]
      rfl
    · rw [cnt_no e, cnt_all n (by omega)]
theorem cnt_len {j n : Nat} : (cnt j n).length ≤ n := by
  unfold cnt
  refine Nat.le_trans (List.length_filter_le _ _) ?_
  rw [List.length_range]
  exact Nat.le_refl _
variable {P : Program} {w : World} {K : PySem.W.Frag} {mg : Str → Option Value} {base : Heap} {F : Nat → FuncData}
def spRel (m : Nat) : Sp := fun vs H Q _ => ∃ v d p x y, vs = [v, vI x, vI y] ∧ d < m ∧ d < 6 ∧ PlAt d H v p ∧ (lvs d p).Nodup ∧ (lvs d p).length ≤ 6 ∧ x ∈ lvs d p ∧ y ∈ lvs d p ∧ x ≠ y ∧ ∀ H', Ex H H' → Q (vR (relF d p x y)) H'
theorem sc_law_relation : FnScope ["_law_plan_here", "_law_x", "_law_y", "_law_places", "_law_at", "_law_k"] ["_law_plan_here", "_law_x", "_law_y"] (defScope s_law_relation) := ⟨rfl, rfl, rfl, by decide +kernel, rfl, by decide +kernel, by decide +kernel⟩
theorem law_relation_step {m : Nat} (T : Tx K w mg F) (G_law_tasks : FnOk P w K mg base CX0 6 (He.ga K "_law_tasks") (F 39) ["_law_plan_here"] (spTasks 6)) (G_law_relation : FnOk P w K mg base CX0 (m+6) (He.ga K "_law_relation") (F 40) ["_law_plan_here", "_law_x", "_law_y"] (spRel m)) : FnOk P w K mg base CX0 (m+1+6) (He.ga K "_law_relation") (F 40) ["_law_plan_here", "_law_x", "_law_y"] (spRel (m + 1)) := by
  refine T.d_law_relation.ok sc_law_relation (fun vs H Q E h => ?_) (fun cdv A outer s H vs Q E hr h => ⟨_, PSs.nox (pss_cons (ps_set (i := 3) sc_law_relation.nd rfl (Or.inl rfl) (pe_lst (pa_cons (pe_lst pa_nil) (pa_cons (pe_lst pa_nil) pa_nil))))
      (pss_cons (ps_for PassesOwn.never rfl (pi_range1 (by rfl) T.z_range (pa_cons (pe_callB (cLen (K := K) rfl) (by rfl) T.z_len (by decide +kernel) (pa_cons (pe_ix (ixT (K := K) rfl) (pv 0) pe_int (fun _ _ => rfl)) pa_nil)) pa_nil)) (pg_name (i := 4) sc_law_relation.nd rfl (Or.inl rfl)) (pss_one (ps_for PassesOwn.never rfl (pi_range1 (by rfl) T.z_range (pa_cons pe_int pa_nil)) (pg_name (i := 5) sc_law_relation.nd rfl (Or.inl rfl)) (pss_one (ps_if (pt_cmpR (oIn (K := K) rfl) (pe_ix (ixL (K := K) rfl) (pe_lst (pa_cons (pv 1) (pa_cons (pv 2) pa_nil))) (pv 5) (fun _ _ => rfl)) (pe_call G_law_tasks (hr.mono (by omega)) rfl T.m_law_tasks T.d_law_tasks.kp T.b_law_tasks .nil pass0 (pa_cons (pe_ix (ixT (K := K) rfl) (pe_ix (ixT (K := K) rfl) (pv 0) pe_int (fun _ _ => rfl)) (pv 4) (fun _ _ => rfl)) pa_nil)) (by rfl)) (pss_one (ps_expr (peBm (K := K) rfl PySem.F.plainAttrs_list PySem.F.slot_list_append PySem.F.type_list_append mt_append (pe_ix (ixL (K := K) rfl) (pv 3) (pv 5) (fun _ _ => rfl)) (pa_cons (pv 4) pa_nil)))) pss_nil)))))
      (pss_cons (ps_if (pt_cmpR (oEqD (K := K) rfl hr.units) (pe_ix (ixL (K := K) rfl) (pv 3) pe_int (fun _ _ => rfl)) (pe_ix (ixL (K := K) rfl) (pv 3) pe_int (fun _ _ => rfl)) (nomark _)) (pss_one (ps_ret (pe_call G_law_relation hr rfl T.m_law_relation T.d_law_relation.kp T.b_law_relation .nil pass0 (pa_cons (pe_ix (ixT (K := K) rfl) (pe_ix (ixT (K := K) rfl) (pv 0) pe_int (fun _ _ => rfl)) (pe_ix (ixL (K := K) rfl) (pe_ix (ixL (K := K) rfl) (pv 3) pe_int (fun _ _ => rfl)) pe_int (fun _ _ => rfl)) (fun _ _ => rfl)) (pa_cons (pv 1) (pa_cons (pv 2) pa_nil)))))) pss_nil)
      (pss_cons (ps_if (pt_cmpR op_eq (pe_ix (ixT (K := K) rfl) (pv 0) pe_int (fun _ _ => rfl)) pe_str (nomark _)) (pss_one (ps_ret pe_str)) pss_nil)
      (pss_one (ps_ret (pe_ix (ixL (K := K) rfl) (pe_lst (pa_cons pe_str (pa_cons pe_str pa_nil))) (pe_callTy call_int1 (by rfl) T.z_int (by decide +kernel) (pa_cons (pe_cmpR (oLtL1 (K:=K) rfl hr.units) (pe_ix (ixL (K := K) rfl) (pv 3) pe_int (fun _ _ => rfl)) (pe_ix (ixL (K := K) rfl) (pv 3) pe_int (fun _ _ => rfl)) (nomark _)) pa_nil)) (fun _ _ => rfl)))))))), ?_⟩)
  · obtain ⟨v, d, p, x, y, rfl, _⟩ := h
    rfl
  obtain ⟨v, d, p, x, y, rfl, hd, hd6, hp, nd, h6, hx, hy, hne, q⟩ := h
  rcases hp.cases with ⟨k, rfl, rfl⟩ | ⟨d', wd, ps, a, b, ws, rfl, rfl, rfl, ha, hb, hq, hqn⟩
  · rw [lvs_leaf] at hx hy
    have h1 : x = k := by simpa using hx
    have h2 : y = k := by simpa using hy
    exact absurd (h1.trans h2.symm) hne
  have hx' : x ∈ (ps.map (lvs d')).flatten := hx
  have hy' : y ∈ (ps.map (lvs d')).flatten := hy
  have nd' : ((ps.map (lvs d')).flatten).Nodup := nd
  have h6' : ((ps.map (lvs d')).flatten).length ≤ 6 := h6
  have hix := idx_lt hx'
  have hiy := idx_lt hy'
  have hpl := hq.len
  have memx : ∀ z, z ∈ (ps.map (lvs d')).flatten → ∀ i (hi : i < ps.length), decide (z ∈ lvs d' ps[i]) = decide (i = idx d' z ps) := fun z hz i hi => by
    apply decide_eq_decide.mpr
    constructor
    · exact fun h => idx_uni nd' i _ (List.getElem?_eq_getElem hi) h
    · intro h
      subst h
      exact idx_mem hz
  refine q_raw ⟨(by show 0 ≤ sizeLine; rw [sizeLine_eq]; decide), fun a0 ha0 => ⟨(by show 0 ≤ sizeLine; rw [sizeLine_eq]; decide), fun a1 ha1 => ⟨(by show 2 ≤ sizeLine; rw [sizeLine_eq]; decide), fun pl hpl0 => ?_⟩⟩⟩
  have n01 : a0 ≠ a1 := by
    rintro rfl
    rw [upd_same] at ha1; cases ha1
  have n0p : a0 ≠ pl := by
    rintro rfl
    rw [upd_ne n01, upd_same] at hpl0; cases hpl0
  have n1p : a1 ≠ pl := by
    rintro rfl
    rw [upd_same] at hpl0; cases hpl0
  have f1 : H a1 = none := fresh_back (Ex.new ha0) ha1
  have e0 := (Ex.new (o := .lst []) ha0).trans ((Ex.new (o := .lst []) ha1).trans (Ex.new (o := .lst [.ref a0, .ref a1]) hpl0))
  refine q_forR1 (n := (ws.length : Int)) (ea_cons (ev_lenT (ev_ixTV (k := 1) (ev_var rfl) rfl ev_c (e0 _ _ ha) rfl) (e0 _ _ hb)) ea_nil) ⟨by omega, by have := hq.1; omega⟩
    (fun i σ' H' => ∃ x4 x5, σ' = [some (.ref a), some (vI x), some (vI y), some (.ref pl), x4, x5] ∧ Ex H H' ∧ H' pl = some (.lst [.ref a0, .ref a1]) ∧ H' a0 = some (.lst (natsV (cnt (idx d' x ps) i))) ∧ H' a1 = some (.lst (natsV (cnt (idx d' y ps) i))))
    (fun H3 e3 => ⟨none, none, rfl, e0.trans e3, e3 _ _ upd_same, e3 _ _ (by rw [upd_ne n0p, upd_ne n01, upd_same]; rfl), e3 _ _ (by rw [upd_ne n1p, upd_same]; rfl)⟩) ?_ ?_
  · rintro i σ' H3 hi ⟨x4, x5, rfl, e3, hp3, h03, h13⟩
    have hi1 : i < ws.length := by omega
    have hi2 : i < ps.length := by have := hq.1; omega
    have hlx := @cnt_len (idx d' x ps) i
    have hly := @cnt_len (idx d' y ps) i
    refine s_forR1 (n := 2) (ea_cons ev_c ea_nil) ⟨by decide, by decide⟩
      (fun k σ' H' => ∃ x5, σ' = [some (.ref a), some (vI x), some (vI y), some (.ref pl), some (vI i), x5] ∧ Ex H H' ∧ H' pl = some (.lst [.ref a0, .ref a1]) ∧ H' a0 = some (.lst (natsV (cnt (idx d' x ps) (if 0 < k then i + 1 else i)))) ∧ H' a1 = some (.lst (natsV (cnt (idx d' y ps) (if 1 < k then i + 1 else i)))))
      (fun H4 e4 => ⟨x5, rfl, e3.trans e4, e4 _ _ hp3, e4 _ _ h03, e4 _ _ h13⟩) ?_ ?_
    · rintro k σ' H4 hk ⟨x5', rfl, e4, hp4, h04, h14⟩
      have hk2 : k < 2 := by omega
      -- the test
      have body : ∀ (z : Nat) (az : Addr) (_ : [vI x, vI y][k]? = some (vI z)) (_ : [V.ref a0, V.ref a1][k]? = some (.ref az)) (_ : z ∈ (ps.map (lvs d')).flatten) (_ : H4 az = some (.lst (natsV (cnt (idx d' z ps) i)))) (_ : H az = none)
          (N : L2.St → Hp → Prop) (D : Ends) (_ : D.nx = N), (∀ H5, Ex H4 H5 → i ≠ idx d' z ps → N [some (.ref a), some (vI x), some (vI y), some (.ref pl), some (vI i), some (vI k)] H5) →
          (∀ H5, Ex H4 H5 → i = idx d' z ps → N [some (.ref a), some (vI x), some (vI y), some (.ref pl), some (vI i), some (vI k)] (upd H5 az (.lst (natsV (cnt (idx d' z ps) (i + 1)))))) →
          tIfS (tTest (tOp (rIn K false) (tOp (rIxL K) (tLst (tCons (tVar 1) (tCons (tVar 2) tNil))) (tVar 5)) (tCall (spTasks 6) [] E0 (tCons (tOp (rIxT K) (tOp (rIxT K) (tVar 0) (tC (.int 1))) (tVar 4)) tNil))))
            (tDrop (tBM K "list" rAppend (tOp (rIxL K) (tVar 3) (tVar 5)) (tCons (tVar 4) tNil))) tNext D [some (.ref a), some (vI x), some (vI y), some (.ref pl), some (vI i), some (vI k)] H4 := by
        intro z az hz haz hzm haz4 hazn N D hN hno hyes
        refine s_when (b := decide (i = idx d' z ps)) (fun H5 e5 Q5 q5 => ?_) (fun hb5 H5 e5 => ?_) (fun hb5 H5 e5 => ?_)
        · refine ⟨_, rfl, _, rfl, (by show 2 ≤ sizeLine; rw [sizeLine_eq]; decide), fun pz hpz => ⟨_, rfl, pz, _, k, vI z, rfl, rfl, sq_of upd_same, atI_nat hz, ?_⟩⟩
          have e6 := Ex.new (o := .lst [vI x, vI y]) hpz
          have e46 := e4.trans (e5.trans e6)
          have hw1 : ws[i]? = some ws[i] := List.getElem?_eq_getElem hi1
          refine c_call (vs := [ws[i]]) (ea_cons (ev_ixTV (k := i) (ev_ixTV (k := 1) (ev_var rfl) rfl ev_c (e46 _ _ ha) rfl) rfl (ev_var rfl) (e46 _ _ hb) hw1) ea_nil) fun H7 e7 => ?_
          refine ⟨ws[i], d', ps[i], rfl, by omega, (hq.2 i _ _ hw1 (List.getElem?_eq_getElem hi2)).mono (e46.trans e7), Nat.le_trans (flat_len (List.mem_map_of_mem (List.getElem_mem hi2))) h6', fun r l H8 hr8 e8 h8 pm => ?_⟩
          refine rv_isL (sq_of h8) rfl (flat_nats _) H8 (Ex.refl _) _ fun H9 e9 => ⟨_, rfl, ?_⟩
          rw [in_nats]
          have e : decide (z ∈ l) = decide (i = idx d' z ps) := by
            rw [← memx z hzm i hi2]
            exact decide_eq_decide.mpr pm.mem_iff
          rw [e]
          exact q5 H9 (e6.trans (e7.trans (e8.trans e9)))
        · have hb6 := of_decide_eq_true hb5
          have hlz := @cnt_len (idx d' z ps) i
          refine s_app (e5 _ _ haz4) (ev_ixLV (k := k) (ev_var rfl) rfl (ev_var rfl) (e5 _ _ hp4) haz) (ev_var rfl) (by rw [natsV_len]; omega) fun H6 e6 => ?_
          have := hyes H6 (e5.trans e6) hb6
          rw [cnt_yes hb6] at this
          rw [hN]
          have e : natsV (cnt (idx d' z ps) i ++ [i]) = natsV (cnt (idx d' z ps) i) ++ [vI i] := by simp [natsV]
          rw [e] at this
          exact this
        · rw [hN]
          exact hno H5 e5 (of_decide_eq_false hb5)
      rcases Nat.lt_or_ge k 1 with h | h
      · have : k = 0 := by omega
        subst this
        refine body x a0 rfl rfl hx' h04 ha0 _ _ rfl (fun H5 e5 hn => ?_) (fun H5 e5 hn => ?_)
        · exact ⟨_, rfl, e4.trans e5, e5 _ _ hp4, by rw [e5 _ _ h04]; show some (HO.lst (natsV (cnt (idx d' x ps) i))) = some (HO.lst (natsV (cnt (idx d' x ps) (i + 1)))); rw [cnt_no hn], e5 _ _ h14⟩
        · exact ⟨_, rfl, Ex.mut (e4.trans e5) ha0, by rw [upd_ne n0p.symm]; exact e5 _ _ hp4, upd_same, by rw [upd_ne n01.symm]; exact e5 _ _ h14⟩
      · have : k = 1 := by omega
        subst this
        refine body y a1 rfl rfl hy' h14 f1 _ _ rfl (fun H5 e5 hn => ?_) (fun H5 e5 hn => ?_)
        · exact ⟨_, rfl, e4.trans e5, e5 _ _ hp4, e5 _ _ h04, by rw [e5 _ _ h14]; show some (HO.lst (natsV (cnt (idx d' y ps) i))) = some (HO.lst (natsV (cnt (idx d' y ps) (i + 1)))); rw [cnt_no hn]⟩
        · exact ⟨_, rfl, Ex.mut (e4.trans e5) f1, by rw [upd_ne n1p.symm]; exact e5 _ _ hp4, by rw [upd_ne n01]; exact e5 _ _ h04, upd_same⟩
    · rintro σ' H4 ⟨x5', rfl, e4, hp4, h04, h14⟩
      exact ⟨_, _, rfl, e4, hp4, h04, h14⟩
  · rintro σ' H3 ⟨x4, x5, rfl, e3, hp3, h03, h13⟩
    have el : ((ws.length : Int)).toNat = ps.length := by have := hq.1; omega
    rw [el, cnt_all _ hix] at h03
    rw [el, cnt_all _ hiy] at h13
    have rl : relF (d' + 1) (.node wd ps) x y = if idx d' x ps = idx d' y ps then (match ps[idx d' x ps]? with | some p => relF d' p x y | none => .beside) else if wd = "beside" then .beside else if idx d' x ps < idx d' y ps then .before else .after := rfl
    refine q_when (et_test (ev_op (ev_ixLV (k := 0) (ev_var rfl) rfl ev_c hp3 rfl) (ev_ixLV (k := 1) (ev_var rfl) rfl ev_c hp3 rfl) (rv_eqL h03 h13))) (fun hb4 H4 e4 => ?_) fun hb4 H4 e4 => ?_
    · have hb5 := of_decide_eq_true hb4
      have e34 := e3.trans e4
      have hw1 : ws[idx d' x ps]? = some (ws[idx d' x ps]'(by rw [hq.1]; exact hix)) := List.getElem?_eq_getElem (by rw [hq.1]; exact hix)
      have hp1 : ps[idx d' x ps]? = some (ps[idx d' x ps]'hix) := List.getElem?_eq_getElem hix
      refine c_call (vs := [ws[idx d' x ps]'(by rw [hq.1]; exact hix), vI x, vI y]) (ea_cons (ev_ixTV (k := idx d' x ps) (ev_ixTV (k := 1) (ev_var rfl) rfl ev_c (e34 _ _ ha) rfl) rfl (ev_ixNL (c := [idx d' x ps]) (k := 0) (ev_ixLV (k := 0) (ev_var rfl) rfl ev_c (e4 _ _ hp3) rfl) rfl ev_c (e4 _ _ h03) (by simp)) (e34 _ _ hb) hw1) (ea_cons (ev_var rfl) (ea_cons (ev_var rfl) ea_nil))) fun H5 e5 => ?_
      have hm2 := idx_mem hy'
      have hm2' : y ∈ lvs d' (ps[idx d' x ps]'hix) := by
        have e2 : ps[idx d' y ps]? = some (ps[idx d' x ps]'hix) := by rw [← hb5]; exact hp1
        have := e2
        rw [List.getElem?_eq_getElem hiy] at this
        rw [Option.some.inj this] at hm2
        exact hm2
      have hmm : lvs d' (ps[idx d' x ps]'hix) ∈ ps.map (lvs d') := List.mem_map_of_mem (List.getElem_mem _)
      refine ⟨_, d', _, x, y, rfl, by omega, by omega, (hq.2 _ _ _ hw1 hp1).mono (e34.trans e5), flat_nodup nd' hmm, Nat.le_trans (flat_len hmm) h6', idx_mem hx', hm2', hne, fun H6 e6 => ?_⟩
      have := q H6 (e34.trans (e5.trans e6))
      rw [rl, if_pos hb5, hp1] at this
      exact this
    · have hb5 := of_decide_eq_false hb4
      rw [rl, if_neg hb5] at q
      refine q_when (et_test (ev_eqS (ev_ixTV (k := 0) (ev_var rfl) rfl ev_c ((e3.trans e4) _ _ ha) rfl) ev_c)) (fun hb6 H5 e5 => ?_) fun hb6 H5 e5 => ?_
      · have hw : wd = "beside" := by
          have := of_decide_eq_true hb6
          injection this
        rw [if_pos hw] at q
        exact s_ret ev_c fun H6 e6 => q H6 (e3.trans (e4.trans (e5.trans e6)))
      · have hw : wd ≠ "beside" := fun z => of_decide_eq_false hb6 (by rw [z])
        rw [if_neg hw] at q
        have e45 := e4.trans e5
        refine s_ret (v := vR (if idx d' x ps < idx d' y ps then .before else .after)) (ev_opL1 (xs := [.str "after", .str "before"]) (y := .int (if decide (idx d' x ps < idx d' y ps) then 1 else 0)) (el_lst (ea_cons ev_c (ea_cons ev_c ea_nil)) (by show 2 ≤ 100000; decide)) (fun H6 e6 => ?_) fun p H6 hp6 e6 => ?_) fun H6 e6 => q H6 (e3.trans (e45.trans e6))
        · refine ev_cb (ea_cons (ev_op (ev_ixLV (k := 0) (ev_var rfl) rfl ev_c (e6 _ _ (e45 _ _ hp3)) rfl) (ev_ixLV (k := 1) (ev_var rfl) rfl ev_c (e6 _ _ (e45 _ _ hp3)) rfl) (rv_ltL (e6 _ _ (e45 _ _ h03)) (e6 _ _ (e45 _ _ h13)))) ea_nil) fun H7 e7 Q7 q7 => .inr ⟨_, rfl, q7 _ (Ex.refl _)⟩
        · by_cases hlt : idx d' x ps < idx d' y ps
          · rw [if_pos hlt, decide_eq_true hlt]
            exact rv_ixL (sq_of hp6) rfl
          · rw [if_neg hlt, decide_eq_false hlt]
            exact rv_ixL (sq_of hp6) rfl
theorem ok_law_relation (T : Tx K w mg F) (G_law_tasks : FnOk P w K mg base CX0 6 (He.ga K "_law_tasks") (F 39) ["_law_plan_here"] (spTasks 6)) : ∀ m : Nat, FnOk P w K mg base CX0 (m+6) (He.ga K "_law_relation") (F 40) ["_law_plan_here", "_law_x", "_law_y"] (spRel m)
  | 0 => none_ok fun vs H Q E ⟨v, d, p, x, y, _, h, _⟩ => by omega
  | m + 1 => law_relation_step T G_law_tasks (ok_law_relation T G_law_tasks m)
end K15
set_option Elab.async false
set_option linter.all false
set_option maxRecDepth 100000
/-! K15: the law's table of a plan -/
namespace K15
open PySem PySem.Spec PyProof.Rows L2 Evl
variable {P : Program} {w : World} {K : PySem.W.Frag} {mg : Str → Option Value} {base : Heap} {F : Nat → FuncData}
def tabF (p : Pl) (tl : List Nat) : Tb := fun i j => if at_ tl i = at_ tl j then .same else relF 5 p (at_ tl i) (at_ tl j)
theorem tabF_ok {p : Pl} {tl : List Nat} {m : Nat} (pm : tl.Perm (lvs 5 p)) (nd : tl.Nodup) (hl : tl.length = m) : TabOk m (tabF p tl) := by
  intro i j hi hj
  have mi : at_ tl i ∈ lvs 5 p := pm.mem_iff.mp (at_mem (by omega))
  have mj : at_ tl j ∈ lvs 5 p := pm.mem_iff.mp (at_mem (by omega))
  have ndl := pm.nodup_iff.mp nd
  have inj : at_ tl i = at_ tl j → i = j := fun e => by
    rw [at_eq (show i < tl.length by omega), at_eq (show j < tl.length by omega)] at e
    exact (List.getElem_inj nd).mp e
  unfold tabF
  by_cases e : at_ tl i = at_ tl j
  · rw [if_pos e, if_pos e.symm]
    exact ⟨⟨fun _ => inj e, fun _ => rfl⟩, rfl⟩
  · rw [if_neg e, if_neg (Ne.symm e)]
    obtain ⟨h1, h2⟩ := relF_ok 5 p _ _ ndl mi mj e
    exact ⟨⟨fun h => absurd h h1, fun h => absurd (by rw [h]) e⟩, h2⟩
theorem rowV_snoc {n : Nat} {f : Nat → R} : rowV (n + 1) f = rowV n f ++ [vR (f n)] := by
  unfold rowV
  rw [List.range_succ, List.map_append]
  rfl
/-- rows: tuples -/
def RowsAt (H : Hp) (m : Nat) (T : Tb) (rs : List Addr) : Prop := ∀ (t : Nat) (r : Addr), rs[t]? = some r → H r = some (.tup (rowV m (T t)))
theorem RowsAt.mono {H H' : Hp} {m : Nat} {T : Tb} {rs : List Addr} (h : RowsAt H m T rs) (e : Ex H H') : RowsAt H' m T rs := fun t r ht => e _ _ (h t r ht)
theorem RowsAt.updL {H : Hp} {m : Nat} {T : Tb} {rs : List Addr} {D : Addr} {xs ys : List V} (h : RowsAt H m T rs) (hD : H D = some (.lst xs)) : RowsAt (upd H D (.lst ys)) m T rs := fun t r ht => by
  rw [upd_ne (ne_of (h t r ht) hD (by intro z; cases z))]
  exact h t r ht
theorem RowsAt.snoc {H : Hp} {m : Nat} {T : Tb} {rs : List Addr} {r : Addr} (h : RowsAt H m T rs) (hr : H r = some (.tup (rowV m (T rs.length)))) : RowsAt H m T (rs ++ [r]) := fun t r' ht => by
  by_cases hl : t < rs.length
  · rw [List.getElem?_append_left hl] at ht
    exact h t r' ht
  · have ht' : t = rs.length := by
      have := (List.getElem?_eq_some_iff.mp ht).1
      simp at this
      omega
    subst ht'
    have : r = r' := by simpa using ht
    subst this
    exact hr
def spTable : Sp := fun vs H Q _ => ∃ v p m, vs = [v] ∧ PlAt 5 H v p ∧ (lvs 5 p).Perm (List.range m) ∧ m ≤ 6 ∧ ∀ v' T' H', Ex H H' → TabAt H' v' m T' → TabOk m T' → Q v' H'
theorem sc_law_table : FnScope ["_law_plan_here", "_law_tasks_here", "_law_rows", "_law_x", "_law_row", "_law_y"] ["_law_plan_here"] (defScope s_law_table) := ⟨rfl, rfl, rfl, by decide +kernel, rfl, by decide +kernel, by decide +kernel⟩
theorem ok_law_table (T : Tx K w mg F) (G_law_tasks : FnOk P w K mg base CX0 6 (He.ga K "_law_tasks") (F 39) ["_law_plan_here"] (spTasks 6)) (G_law_relation : FnOk P w K mg base CX0 12 (He.ga K "_law_relation") (F 40) ["_law_plan_here", "_law_x", "_law_y"] (spRel 6)) : FnOk P w K mg base CX0 13 (He.ga K "_law_table") (F 41) ["_law_plan_here"] spTable := by
  refine T.d_law_table.ok sc_law_table (fun vs H Q E h => ?_) (fun cdv A outer s H vs Q E hr h => ⟨_, PSs.nox (pss_cons (ps_set (i := 1) sc_law_table.nd rfl (Or.inl rfl) (pe_call G_law_tasks (hr.mono (by decide)) rfl T.m_law_tasks T.d_law_tasks.kp T.b_law_tasks .nil pass0 (pa_cons (pv 0) pa_nil)))
      (pss_cons (ps_set (i := 2) sc_law_table.nd rfl (Or.inl rfl) (pe_lst pa_nil))
      (pss_cons (ps_for PassesOwn.never rfl (piL (K := K) rfl (pv 1)) (pg_name (i := 3) sc_law_table.nd rfl (Or.inl rfl)) (pss_cons (ps_set (i := 4) sc_law_table.nd rfl (Or.inl rfl) (pe_lst pa_nil))
      (pss_cons (ps_for PassesOwn.never rfl (piL (K := K) rfl (pv 1)) (pg_name (i := 5) sc_law_table.nd rfl (Or.inl rfl)) (pss_one (ps_if (pt_cmpR op_eq (pv 3) (pv 5) (nomark _)) (pss_one (ps_expr (peBm (K := K) rfl PySem.F.plainAttrs_list PySem.F.slot_list_append PySem.F.type_list_append mt_append (pv 4) (pa_cons pe_str pa_nil)))) (pss_one (ps_expr (peBm (K := K) rfl PySem.F.plainAttrs_list PySem.F.slot_list_append PySem.F.type_list_append mt_append (pv 4) (pa_cons (pe_call G_law_relation (hr.mono (by decide)) rfl T.m_law_relation T.d_law_relation.kp T.b_law_relation .nil pass0 (pa_cons (pv 0) (pa_cons (pv 3) (pa_cons (pv 5) pa_nil)))) pa_nil)))))))
      (pss_one (ps_expr (peBm (K := K) rfl PySem.F.plainAttrs_list PySem.F.slot_list_append PySem.F.type_list_append mt_append (pv 2) (pa_cons (pe_callTy (cTupOf (K := K) rfl) (by rfl) T.z_tuple (by decide +kernel) (pa_cons (pv 4) pa_nil)) pa_nil)))))))
      (pss_one (ps_ret (pe_callTy (cTupOf (K := K) rfl) (by rfl) T.z_tuple (by decide +kernel) (pa_cons (pv 2) pa_nil))))))), ?_⟩)
  · obtain ⟨v, p, m, rfl, _⟩ := h
    rfl
  obtain ⟨v, p, m, rfl, hp, pmr, hm, q⟩ := h
  have hl6 : (lvs 5 p).length ≤ 6 := by rw [pmr.length_eq, List.length_range]; exact hm
  refine q_raw (c_call (vs := [v]) (ea_cons (ev_var rfl) ea_nil) fun H1 e1 => ⟨v, 5, p, rfl, by decide, hp.mono e1, hl6, fun la tl H2 hla e2 h2 pm => ?_⟩)
  have nd : tl.Nodup := (pm.trans pmr).nodup_iff.mpr List.nodup_range
  have hl : tl.length = m := by rw [(pm.trans pmr).length_eq, List.length_range]
  have ndl : (lvs 5 p).Nodup := pmr.nodup_iff.mpr List.nodup_range
  have hex := e1.trans e2
  refine q_asgL (xs := []) (el_lst ea_nil (by show 0 ≤ 100000; decide)) fun rw0 H3 hrw0 e3 h3 => ?_
  have frw : H rw0 = none := fresh_back hex hrw0
  have nlr : la ≠ rw0 := by
    rintro rfl
    rw [hrw0] at h2; cases h2
  have hex3 := hex.trans e3
  refine q_forLn (xs := natsV tl) (ev_var rfl) (sq_of (e3 _ _ h2)) (fun i σ' H' => ∃ x3 x4 x5 rs, σ' = [some v, some (.ref la), some (.ref rw0), x3, x4, x5] ∧ Ex H H' ∧ H' la = some (.lst (natsV tl)) ∧ H' rw0 = some (.lst (rs.map V.ref)) ∧ rs.length = i ∧ RowsAt H' m (tabF p tl) rs)
    (fun H4 e4 => ⟨none, none, none, [], rfl, hex3.trans e4, e4 _ _ (e3 _ _ h2), e4 _ _ h3, rfl, fun t r ht => by simp at ht⟩) (fun i σ' H' _ ⟨_, _, _, _, _, _, h, _⟩ => sq_of h) ?_ ?_
  · rintro i x σ' H4 hx ⟨x3, x4, x5, rs, rfl, e4, hl4, hr4, hrl, hrows⟩
    obtain ⟨hi, rfl⟩ := natsV_at hx
    refine q_asgL (xs := []) (el_lst ea_nil (by show 0 ≤ 100000; decide)) fun lr H5 hlr0 e5 h5 => ?_
    have flr : H lr = none := fresh_back e4 hlr0
    have nla : la ≠ lr := by
      rintro rfl
      rw [hlr0] at hl4; cases hl4
    have nrw : rw0 ≠ lr := by
      rintro rfl
      rw [hlr0] at hr4; cases hr4
    refine q_forLn (xs := natsV tl) (ev_var rfl) (sq_of (e5 _ _ hl4)) (fun j σ' H' => ∃ x5, σ' = [some v, some (.ref la), some (.ref rw0), some (vI (at_ tl i)), some (.ref lr), x5] ∧ Ex H H' ∧ H' la = some (.lst (natsV tl)) ∧ H' rw0 = some (.lst (rs.map V.ref)) ∧ RowsAt H' m (tabF p tl) rs ∧ H' lr = some (.lst (rowV j (tabF p tl i))))
      (fun H6 e6 => ⟨x5, rfl, e4.trans (e5.trans e6), e6 _ _ (e5 _ _ hl4), e6 _ _ (e5 _ _ hr4), hrows.mono (e5.trans e6), e6 _ _ h5⟩) (fun i σ' H' _ ⟨_, _, _, h, _⟩ => sq_of h) ?_ ?_
    · rintro j y σ' H6 hy ⟨x5', rfl, e6, hl6', hr6, hrows6, hlr6⟩
      obtain ⟨hj, rfl⟩ := natsV_at hy
      have fin : ∀ H7, Ex H6 H7 → ∃ x5', [some v, some (V.ref la), some (.ref rw0), some (vI (at_ tl i)), some (.ref lr), some (vI (at_ tl j))] = [some v, some (.ref la), some (.ref rw0), some (vI (at_ tl i)), some (.ref lr), x5'] ∧ Ex H (upd H7 lr (.lst (rowV j (tabF p tl i) ++ [vR (tabF p tl i j)]))) ∧
          upd H7 lr (.lst (rowV j (tabF p tl i) ++ [vR (tabF p tl i j)])) la = some (.lst (natsV tl)) ∧ upd H7 lr (.lst (rowV j (tabF p tl i) ++ [vR (tabF p tl i j)])) rw0 = some (.lst (rs.map V.ref)) ∧ RowsAt (upd H7 lr (.lst (rowV j (tabF p tl i) ++ [vR (tabF p tl i j)]))) m (tabF p tl) rs ∧
          upd H7 lr (.lst (rowV j (tabF p tl i) ++ [vR (tabF p tl i j)])) lr = some (.lst (rowV (j + 1) (tabF p tl i))) := fun H7 e7 =>
        ⟨_, rfl, Ex.mut (e6.trans e7) flr, by rw [upd_ne nla]; exact e7 _ _ hl6', by rw [upd_ne nrw]; exact e7 _ _ hr6, (hrows6.mono e7).updL (e7 _ _ hlr6), by rw [upd_same, rowV_snoc]⟩
      refine s_if (et_test (ev_eqI (ev_var rfl) (ev_var rfl))) (fun hb H7 e7 => ?_) fun hb H7 e7 => ?_
      · have he : at_ tl i = at_ tl j := by
          have := of_decide_eq_true hb
          injection this with this
          omega
        have ht : tabF p tl i j = .same := by unfold tabF; rw [if_pos he]
        refine s_app (e7 _ _ hlr6) (ev_var rfl) (v := vR (tabF p tl i j)) (by rw [ht]; exact ev_c) (by rw [rowV_len]; omega) fun H8 e8 => fin H8 (e7.trans e8)
      · have he : at_ tl i ≠ at_ tl j := fun z => of_decide_eq_false hb (by rw [z])
        have ht : tabF p tl i j = relF 5 p (at_ tl i) (at_ tl j) := by unfold tabF; rw [if_neg he]
        have mi : at_ tl i ∈ lvs 5 p := pm.mem_iff.mp (at_mem hi)
        have mj : at_ tl j ∈ lvs 5 p := pm.mem_iff.mp (at_mem hj)
        refine s_app (e7 _ _ hlr6) (ev_var rfl) (v := vR (tabF p tl i j)) (ev_call (vs := [v, vI (at_ tl i), vI (at_ tl j)]) (ea_cons (ev_var rfl) (ea_cons (ev_var rfl) (ea_cons (ev_var rfl) ea_nil))) fun H8 e8 Q8 q8 E8 => ⟨v, 5, p, _, _, rfl, by decide, by decide, hp.mono (e6.trans (e7.trans e8)), ndl, hl6, mi, mj, he, fun H9 e9 => by rw [← ht]; exact q8 H9 e9⟩) (by rw [rowV_len]; omega) fun H8 e8 => fin H8 (e7.trans e8)
    · rintro σ' H6 ⟨x5', rfl, e6, hl6', hr6, hrows6, hlr6⟩
      rw [natsV_len, hl] at hlr6
      refine ⟨_, rfl, .inl ⟨rfl, _, sq_of hr6⟩, ?_⟩
      refine ⟨_, rfl, lr, _, rfl, .inl ⟨sq_of hlr6, fun t ht => ?_⟩⟩
      have nrt : rw0 ≠ t := by
        rintro rfl
        rw [ht] at hr6; cases hr6
      have e7 := Ex.new (o := .tup (rowV m (tabF p tl i))) ht
      refine ⟨rw0, rs.map V.ref, .ref t, rfl, rfl, e7 _ _ hr6, by rw [List.length_map, sizeLine_eq]; omega, ?_⟩
      refine ⟨_, _, _, rs ++ [t], rfl, Ex.mut (e6.trans e7) frw, by rw [upd_ne nlr]; exact e7 _ _ hl6', by rw [upd_same]; simp, by simp [hrl], ((hrows6.mono e7).snoc (by rw [hrl]; exact upd_same)).updL (e7 _ _ hr6)⟩
  · rintro σ' H4 ⟨x3, x4, x5, rs, rfl, e4, hl4, hr4, hrl, hrows⟩
    rw [natsV_len, hl] at hrl
    refine r_cb1 ⟨_, rfl, rw0, _, rfl, .inl ⟨sq_of hr4, fun t ht => ?_⟩⟩
    have e5 := Ex.new (o := .tup (rs.map V.ref)) ht
    exact q _ _ _ (e4.trans e5) ⟨t, rs, rfl, upd_same, hrl, hrows.mono e5⟩ (tabF_ok pm nd hl)
end K15
set_option Elab.async false
set_option linter.all false
set_option maxRecDepth 100000
/-! K15: tables as lists of lists; the drawn table -/
namespace K15
open PySem PySem.Spec PyProof.Rows L2 Evl
section
variable {K : PySem.W.Frag} {σ : L2.St} {H H' H2 : Hp} {te tl : TE}
/-- a comprehension of new lists, told apart -/
def Lw (H : Hp) (g : Nat → List V) (D : Addr) (i : Nat) (H' : Hp) : Prop := H D = none ∧ Ex H H' ∧ ∃ ps : List Addr, H' D = some (.lst (ps.map V.ref)) ∧ ps.length = i ∧ ps.Nodup ∧ D ∉ ps ∧ ∀ (t : Nat) (p : Addr), ps[t]? = some p → H p = none ∧ H' p = some (.lst (g t))
theorem lw_start {g : Nat → List V} {D : Addr} (hD : H D = none) : Lw H g D 0 (upd H D (.lst [])) := ⟨hD, Ex.new hD, [], upd_same, rfl, by simp, by simp, fun t p h => by simp at h⟩
theorem lw_turn {g : Nat → List V} {D : Addr} {i : Nat} {σ2 : L2.St} (p : Lw H g D i H') (hi : i < 50000) (he : EvL te σ2 H (g i)) :
    tYes σ2 H' fun b H3 => if b = true then te σ2 H3 fun y H4 => ∃ acc, H4 D = some (.lst acc) ∧ acc.length < sizeLine ∧ Lw H g D (i + 1) (upd H4 D (.lst (acc ++ [y]))) else Lw H g D (i + 1) H3 := by
  obtain ⟨p1, p2, ps, p3, p4, p5, p6, p7⟩ := p
  refine et_yes (H := H') H' (Ex.refl _) _ fun H3 e3 => ?_
  rw [if_pos rfl]
  refine he H3 (p2.trans e3) _ fun q H4 hq e4 h4 => ?_
  have e34 := e3.trans e4
  have hqD : q ≠ D := by
    rintro rfl
    rw [e3 _ _ p3] at hq; cases hq
  have hqn : H q = none := fresh_back (p2.trans e3) hq
  have hqp : q ∉ ps := fun h => by
    obtain ⟨t, ht⟩ := List.getElem?_of_mem h
    have := e3 _ _ (p7 t q ht).2
    rw [hq] at this; cases this
  refine ⟨ps.map V.ref, e34 _ _ p3, by rw [List.length_map]; exact sz_lt (by omega), p1, Ex.mut (p2.trans e34) p1, ps ++ [q], by rw [upd_same]; simp, by simp [p4], ?_, ?_, fun t r ht => ?_⟩
  · rw [List.nodup_append]
    exact ⟨p5, by simp, fun a ha b hb e => by
      have : b = q := by simpa using hb
      exact hqp (by rw [← this, ← e]; exact ha)⟩
  · intro h
    rcases List.mem_append.mp h with h | h
    · exact p6 h
    · exact hqD (by simpa using h : D = q).symm
  · by_cases hl : t < ps.length
    · rw [List.getElem?_append_left hl] at ht
      obtain ⟨h1, h2⟩ := p7 t r ht
      have hrD : r ≠ D := by
        rintro rfl
        exact p6 (List.mem_of_getElem? ht)
      exact ⟨h1, by rw [upd_ne hrD]; exact e34 _ _ h2⟩
    · have ht' : t = ps.length := by
        have := (List.getElem?_eq_some_iff.mp ht).1
        simp at this
        omega
      subst ht'
      have : q = r := by simpa using ht
      subst this
      exact ⟨hqn, by rw [upd_ne hqD, p4]; exact h4⟩
/-- what such a comprehension gives -/
def LdQ (H1 : Hp) (n : Nat) (g : Nat → List V) (Q : VK) : Prop := ∀ D (ps : List Addr) H2, H1 D = none → Ex H1 H2 → H2 D = some (.lst (ps.map V.ref)) → ps.length = n → ps.Nodup → D ∉ ps → (∀ (t : Nat) (p : Addr), ps[t]? = some p → H1 p = none ∧ H2 p = some (.lst (g t))) → Q (.ref D) H2
theorem lcRd {ta : TA} {n : Nat} {j : Nat} {vs : List Nat} {Q : VK} (g : Nat → List V) (h : EvA ta σ H [.int (n : Int)]) (hz : n ≤ 40000) (hw : ∀ x, wipe ((wipe σ vs).set j (some x)) vs = wipe σ vs)
    (he : ∀ (i : Nat) H1, Ex H H1 → i < n → EvL te ((wipe σ vs).set j (some (vI i))) H1 (g i)) (q : LdQ H n g Q) : tLc (iRng1 ta) (gName j) tYes te vs σ H Q := h H (Ex.refl H) _ fun H1 e1 => ⟨(n : Int), rfl, by omega, by omega, fun Dl hD =>
  lc_range (lo := 0) (n := ((n : Int)).toNat) (Lw H1 g Dl) (lw_start hD) (fun i H' hi p => by
      have e0 : (0 : Int) + (i : Int) = (i : Int) := Int.zero_add _
      have hi' : i < n := by simpa using hi
      show wipe ((wipe σ vs).set j (some (.int ((0 : Int) + (i : Int))))) vs = wipe σ vs ∧ tYes ((wipe σ vs).set j (some (.int ((0 : Int) + (i : Int))))) H' fun b H3 => if b = true then te ((wipe σ vs).set j (some (.int ((0 : Int) + (i : Int))))) H3 fun y H4 => ∃ acc, H4 Dl = some (.lst acc) ∧ acc.length < sizeLine ∧ Lw H1 g Dl (i + 1) (upd H4 Dl (.lst (acc ++ [y]))) else Lw H1 g Dl (i + 1) H3
      rw [e0]
      exact ⟨hw _, lw_turn p (by omega) (he i H1 e1 hi')⟩)
    (fun H' ⟨_, p2, ps, p3, p4, p5, p6, p7⟩ => q Dl ps H' (fresh_back e1 hD) (e1.trans p2) p3 (by simpa using p4) p5 p6 fun t p ht => ⟨fresh_back e1 (p7 t p ht).1, (p7 t p ht).2⟩)⟩
theorem lcTd {a : Addr} {xs : List V} {j : Nat} {vs : List Nat} {Q : VK} (g : Nat → List V) (h : Ev tl σ H (.ref a)) (hx : SqT K H a xs) (hz : xs.length ≤ 40000) (hw : ∀ x, wipe ((wipe σ vs).set j (some x)) vs = wipe σ vs)
    (he : ∀ (i : Nat) (x : V) H1, Ex H H1 → xs[i]? = some x → EvL te ((wipe σ vs).set j (some x)) H1 (g i)) (q : LdQ H xs.length g Q) : tLc (iTup K tl) (gName j) tYes te vs σ H Q := h H (Ex.refl H) _ fun H1 e1 => ⟨a, rfl, ⟨xs, ex_t e1 hx⟩, fun Dl hD =>
  lc_tup (xs := xs) (Lw H1 g Dl) (lw_start hD) (fun i H' _ p => ex_t (e1.trans p.2.1) hx) (fun i x H' hi p => ⟨hw x, lw_turn p (by have := (List.getElem?_eq_some_iff.mp hi).1; omega) (he i x H1 e1 hi)⟩)
    (fun H' ⟨_, p2, ps, p3, p4, p5, p6, p7⟩ => q Dl ps H' (fresh_back e1 hD) (e1.trans p2) p3 p4 p5 p6 fun t p ht => ⟨fresh_back e1 (p7 t p ht).1, (p7 t p ht).2⟩)⟩
theorem lcLd {a : Addr} {xs : List V} {j : Nat} {vs : List Nat} {Q : VK} (g : Nat → List V) (h : Ev tl σ H (.ref a)) (hx : SqL K H a xs) (hz : xs.length ≤ 40000) (hw : ∀ x, wipe ((wipe σ vs).set j (some x)) vs = wipe σ vs)
    (he : ∀ (i : Nat) (x : V) H1, Ex H H1 → xs[i]? = some x → EvL te ((wipe σ vs).set j (some x)) H1 (g i)) (q : LdQ H xs.length g Q) : tLc (iList K tl) (gName j) tYes te vs σ H Q := h H (Ex.refl H) _ fun H1 e1 => ⟨a, rfl, ⟨xs, ex_l e1 hx⟩, fun Dl hD =>
  lc_list (xs := xs) (Lw H1 g Dl) (lw_start hD) (fun i H' _ p => ex_l (e1.trans p.2.1) hx) (fun i x H' hi p => ⟨hw x, lw_turn p (by have := (List.getElem?_eq_some_iff.mp hi).1; omega) (he i x H1 e1 hi)⟩)
    (fun H' ⟨_, p2, ps, p3, p4, p5, p6, p7⟩ => q Dl ps H' (fresh_back e1 hD) (e1.trans p2) p3 p4 p5 p6 fun t p ht => ⟨fresh_back e1 (p7 t p ht).1, (p7 t p ht).2⟩)⟩
end
/-- a table held as a list of lists, all new since H0 -/
structure Mat (H0 H : Hp) (rw : Addr) (rs : List Addr) (n : Nat) (T : Tb) : Prop where
  rows : H rw = some (.lst (rs.map V.ref))
  len : rs.length = n
  nd : rs.Nodup
  out : rw ∉ rs
  fw : H0 rw = none
  fr : ∀ r ∈ rs, H0 r = none
  at_ : ∀ (t : Nat) (r : Addr), rs[t]? = some r → H r = some (.lst (rowV n (T t)))
def setT (T : Tb) (x y : Nat) (r : R) : Tb := fun i j => if i = x then (if j = y then r else T i j) else T i j
theorem rowV_set {n y : Nat} {f : Nat → R} {r : R} : (rowV n f).set y (vR r) = rowV n fun j => if j = y then r else f j := by
  apply List.ext_getElem?
  intro i
  unfold rowV
  rw [List.getElem?_set]
  by_cases hy : y = i
  · subst hy
    rw [if_pos rfl]
    by_cases hl : y < n
    · simp [hl]
    · simp [hl]
  · rw [if_neg hy]
    by_cases hl : i < n
    · have : ¬ i = y := fun z => hy z.symm
      simp [hl, this]
    · simp [hl]
theorem Mat.keep {H0 H H' : Hp} {rw : Addr} {rs : List Addr} {n : Nat} {T : Tb} (m : Mat H0 H rw rs n T) (k : ∀ a o, H0 a = none → H a = some o → H' a = some o) : Mat H0 H' rw rs n T :=
  ⟨k _ _ m.fw m.rows, m.len, m.nd, m.out, m.fw, m.fr, fun t r ht => k _ _ (m.fr r (List.mem_of_getElem? ht)) (m.at_ t r ht)⟩
theorem Mat.mono {H0 H H' : Hp} {rw : Addr} {rs : List Addr} {n : Nat} {T : Tb} (m : Mat H0 H rw rs n T) (e : Ex H H') : Mat H0 H' rw rs n T := m.keep fun a o _ h => e a o h
theorem Mat.exb {H0 H H' : Hp} {rw p s : Addr} {rs : List Addr} {n : Nat} {T : Tb} (m : Mat H0 H rw rs n T) (st : Stm H0 p s) (e : Exb p H H') : Mat H0 H' rw rs n T := m.keep fun a o h0 h => e a o (st.nne h0) h
theorem Mat.get {H0 H : Hp} {rw : Addr} {rs : List Addr} {n : Nat} {T : Tb} (m : Mat H0 H rw rs n T) {x : Nat} (hx : x < n) : ∃ r, rs[x]? = some r ∧ r ∈ rs ∧ H r = some (.lst (rowV n (T x))) ∧ (rs.map V.ref)[x]? = some (.ref r) := by
  have hl : x < rs.length := by rw [m.len]; exact hx
  have h := List.getElem?_eq_getElem hl
  exact ⟨_, h, List.getElem_mem hl, m.at_ x _ h, by simp [hl]⟩
theorem Mat.set {H0 H : Hp} {rw r : Addr} {rs : List Addr} {n x y : Nat} {T : Tb} {rl : R} (m : Mat H0 H rw rs n T) (hr : rs[x]? = some r) : Mat H0 (upd H r (.lst ((rowV n (T x)).set y (vR rl)))) rw rs n (setT T x y rl) := by
  have hm := List.mem_of_getElem? hr
  refine ⟨?_, m.len, m.nd, m.out, m.fw, m.fr, fun t r' ht => ?_⟩
  · rw [upd_ne (fun e => m.out (by rw [e]; exact hm))]
    exact m.rows
  · by_cases hx : t = x
    · subst hx
      rw [hr] at ht
      cases ht
      rw [upd_same, rowV_set]
      unfold setT
      simp only [if_true]
    · have hne : r' ≠ r := by
        rintro rfl
        have h1 := List.getElem?_eq_some_iff.mp ht
        have h2 := List.getElem?_eq_some_iff.mp hr
        obtain ⟨l1, g1⟩ := h1
        obtain ⟨l2, g2⟩ := h2
        exact hx ((List.getElem_inj m.nd).mp (g1.trans g2.symm))
      rw [upd_ne hne, m.at_ t r' ht]
      unfold setT
      simp only [if_neg hx]
/-- a table under way -/
def Good (n : Nat) (D : Nat → Nat → Prop) (T : Tb) : Prop := ∀ i j, i < n → j < n → T j i = (T i j).opp ∧ T i i = .same ∧ (i ≠ j → D i j → T i j ≠ .same)
theorem Good.weak {n : Nat} {D D' : Nat → Nat → Prop} {T : Tb} (g : Good n D T) (h : ∀ i j, i < n → j < n → i ≠ j → D' i j → D i j) : Good n D' T := fun i j hi hj => ⟨(g i j hi hj).1, (g i j hi hj).2.1, fun hn hd => (g i j hi hj).2.2 hn (h i j hi hj hn hd)⟩
theorem opp_opp (r : R) : r.opp.opp = r := by cases r <;> rfl
theorem opp_same {r : R} (h : r ≠ .same) : r.opp ≠ .same := by cases r <;> first | exact absurd rfl h | exact fun z => by cases z
theorem Good.set {n x y : Nat} {D : Nat → Nat → Prop} {T : Tb} {r : R} (g : Good n D T) (hne : x ≠ y) (hr : r ≠ .same) : Good n (fun i j => D i j ∨ (i = x ∧ j = y) ∨ (i = y ∧ j = x)) (setT (setT T x y r) y x r.opp) := by
  have so := opp_same hr
  have val : ∀ i j, setT (setT T x y r) y x r.opp i j = if i = y ∧ j = x then r.opp else if i = x ∧ j = y then r else T i j := by
    intro i j
    unfold setT
    by_cases h1 : i = y
    · rw [if_pos h1]
      by_cases h2 : j = x
      · rw [if_pos h2, if_pos ⟨h1, h2⟩]
      · have h3 : ¬ i = x := fun z => hne (z.symm.trans h1)
        rw [if_neg h2, if_neg h3, if_neg (fun z => h2 z.2), if_neg (fun z => h3 z.1)]
    · rw [if_neg h1]
      have h0 : ¬ (i = y ∧ j = x) := fun z => h1 z.1
      rw [if_neg h0]
      by_cases h3 : i = x
      · rw [if_pos h3]
        by_cases h4 : j = y
        · rw [if_pos h4, if_pos ⟨h3, h4⟩]
        · rw [if_neg h4, if_neg (fun z => h4 z.2)]
      · rw [if_neg h3, if_neg (fun z => h3 z.1)]
  intro i j hi hj
  obtain ⟨g1, g2, g3⟩ := g i j hi hj
  rw [val i j, val j i, val i i]
  have dg : (if i = y ∧ i = x then r.opp else if i = x ∧ i = y then r else T i i) = .same := by
    rw [if_neg (fun z => hne (z.2.symm.trans z.1)), if_neg (fun z => hne (z.1.symm.trans z.2)), g2]
  by_cases a : i = y ∧ j = x
  · rw [if_pos a, if_neg (fun z => hne (z.2.symm.trans a.1)), if_pos ⟨a.2, a.1⟩, opp_opp]
    exact ⟨rfl, dg, fun _ _ => so⟩
  · rw [if_neg a]
    by_cases b : i = x ∧ j = y
    · rw [if_pos b, if_pos ⟨b.2, b.1⟩]
      exact ⟨rfl, dg, fun _ _ => hr⟩
    · rw [if_neg b, if_neg (fun z => b ⟨z.2, z.1⟩), if_neg (fun z => a ⟨z.2, z.1⟩)]
      refine ⟨g1, dg, fun hn hd => g3 hn ?_⟩
      rcases hd with hd | hd | hd
      · exact hd
      · exact absurd hd b
      · exact absurd hd a
theorem tabOk_of {n : Nat} {D : Nat → Nat → Prop} {T : Tb} (g : Good n D T) (h : ∀ i j, i < n → j < n → i ≠ j → D i j) : TabOk n T := fun i j hi hj => by
  obtain ⟨g1, g2, g3⟩ := g i j hi hj
  refine ⟨⟨fun e => Classical.byContradiction fun hn => g3 hn (h i j hi hj hn) e, fun e => ?_⟩, g1⟩
  subst e
  exact g2
theorem good_of {n : Nat} {T : Tb} (h : TabOk n T) : Good n (fun _ _ => True) T := fun i j hi hj => ⟨(h i j hi hj).2, (h i i hi hi).1.mpr rfl, fun hn _ e => hn ((h i j hi hj).1.mp e)⟩
theorem tri {d : Nat} (h : d < 3) : ∃ r, [V.str "before", V.str "beside", V.str "after"][d]? = some (vR r) ∧ r ≠ .same := by
  match d, h with
  | 0, _ => exact ⟨.before, rfl, by decide⟩
  | 1, _ => exact ⟨.beside, rfl, by decide⟩
  | 2, _ => exact ⟨.after, rfl, by decide⟩
variable {P : Program} {w : World} {K : PySem.W.Frag} {mg : Str → Option Value} {base : Heap} {F : Nat → FuncData}
def spOppL : Sp := fun vs H Q _ => ∃ r, vs = [vR r] ∧ RetV (vR r.opp) H Q
theorem sc_law_opposite : FnScope ["_law_relation_here"] ["_law_relation_here"] (defScope s_law_opposite) := ⟨rfl, rfl, rfl, by decide +kernel, rfl, by decide +kernel, by decide +kernel⟩
theorem ok_law_opposite (T : Tx K w mg F) : FnOk P w K mg base CX0 1 (He.ga K "_law_opposite") (F 43) ["_law_relation_here"] spOppL := by
  refine T.d_law_opposite.ok sc_law_opposite (fun vs H Q E h => ?_) (fun cdv A outer s H vs Q E hr h => ⟨_, PSs.nox (pss_one (ps_ret (pe_dget2 (hu_of hr) (pe_disp (pps_cons pe_str pe_str (pps_cons pe_str pe_str pps_nil)) (by rfl) (by rfl) (fun z => by cases z) (by decide)) (pv 0) (pv 0) ⟨rfl,rfl,rfl,rfl⟩))), ?_⟩)
  · obtain ⟨r, rfl, _⟩ := h
    rfl
  obtain ⟨r, rfl, q⟩ := h
  refine r_raw fun p hp => ⟨upd_same, [(Sum.inr "before", .str "after"), (Sum.inr "after", .str "before")], rfl, by decide, p, rfl, .inl ⟨_, .inl upd_same⟩, _, rfl, _, rfl, _, DGet.k (k := Sum.inr (tk r)) upd_same, ?_⟩
  have e : ((valV (mergeK [] [((Sum.inr "before" : Key), V.str "after"), (Sum.inr "after", V.str "before")]) (Sum.inr (tk r))).getD (vR r)) = vR r.opp := by cases r <;> rfl
  rw [e]
  exact q _ ((Ex.new hp).mut hp)
end K15
set_option Elab.async false
set_option linter.all false
set_option maxRecDepth 100000
/-! K15: the drawn table, some table -/
namespace K15
open PySem PySem.Spec PyProof.Rows L2 Evl
/-- rows[x][y] = r; rows[y][x] = opposite(r) -/
theorem put2 {K : PySem.W.Frag} {σ : L2.St} {H0 H : Hp} {D : Ends} {E : XK} {ir ix iy iw x y n : Nat} {rw p s : Addr} {rs : List Addr} {T : Tb} {r : R} (hw : σ[iw]? = some (some (.ref rw))) (hx : σ[ix]? = some (some (vI x))) (hy : σ[iy]? = some (some (vI y))) (hr : σ[ir]? = some (some (vR r)))
    (m : Mat H0 H rw rs n T) (lx : x < n) (ly : y < n) (hne : x ≠ y) (st0 : Stm H0 p s) (e0 : Exb p H0 H) (st : Stm H p s) (k : ∀ H', Exb p H0 H' → Stm H' p s → Mat H0 H' rw rs n (setT (setT T x y r) y x r.opp) → D.nx σ H') :
    tSeq (tAsg (tVar ir) (gSub (tOp (rIxL K) (tVar iw) (tVar ix)) (tVar iy) rSetL)) (tAsg (tCall spOppL [] E (tCons (tVar ir) tNil)) (gSub (tOp (rIxL K) (tVar iw) (tVar iy)) (tVar ix) rSetL)) D σ H := by
  obtain ⟨rx, gx, mx, hx1, hx2⟩ := m.get lx
  refine q_setL hx1 (ev_var hr) (ev_ixLV (k := x) (ev_var hw) rfl (ev_var hx) m.rows hx2) (ev_var hy) (by rw [rowV_len]; exact ly) fun H1 e1 => ?_
  have m1 : Mat H0 (upd H1 rx (.lst ((rowV n (T x)).set y (vR r)))) rw rs n (setT T x y r) := (m.mono e1).set gx
  have st1 : Stm (upd H1 rx (.lst ((rowV n (T x)).set y (vR r)))) p s := (st.mono e1).upd (st0.nne (m.fr _ mx)) (st0.nns (m.fr _ mx))
  have e01 : Exb p H0 (upd H1 rx (.lst ((rowV n (T x)).set y (vR r)))) := (e0.trans (Ex.b e1)).mut (m.fr _ mx)
  obtain ⟨ry, gy, my, hy1, hy2⟩ := m1.get ly
  refine s_setL (v := vR r.opp) hy1 (ev_call (vs := [vR r]) (ea_cons (ev_var hr) ea_nil) fun H2 e2 Q2 q2 E2 => ⟨r, rfl, fun H3 e3 => q2 H3 e3⟩) (ev_ixLV (k := y) (ev_var hw) rfl (ev_var hy) m1.rows hy2) (ev_var hx) (by rw [rowV_len]; exact lx) fun H2 e2 => ?_
  exact k _ ((e01.trans (Ex.b e2)).mut (m.fr _ my)) ((st1.mono e2).upd (st0.nne (m.fr _ my)) (st0.nns (m.fr _ my))) ((m1.mono e2).set gy)
variable {P : Program} {w : World} {K : PySem.W.Frag} {mg : Str → Option Value} {base : Heap} {F : Nat → FuncData}
def spDrawn : Sp := fun vs H Q _ => ∃ (p s : Addr) (n : Nat), vs = [.ref p, vI n] ∧ Stm H p s ∧ n ≤ 6 ∧ ∀ rw rs T H', Exb p H H' → Stm H' p s → Mat H H' rw rs n T → TabOk n T → Q (.ref rw) H'
theorem sc_law_drawn_table : FnScope ["_law_stream_here", "_law_size", "_law_rows", "_law_kind", "_law_x", "_law_y", "_law_relation_here", "_law_row"] ["_law_stream_here", "_law_size"] (defScope s_law_drawn_table) := ⟨rfl, rfl, rfl, by decide +kernel, rfl, by decide +kernel, by decide +kernel⟩
theorem ok_law_drawn_table (T : Tx K w mg F) (G_law_next : FnOk P w K mg base CX0 1 (He.ga K "_law_next") (F 33) ["_law_stream_here", "_law_many"] spNext) (G_law_opposite : FnOk P w K mg base CX0 1 (He.ga K "_law_opposite") (F 43) ["_law_relation_here"] spOppL) : FnOk P w K mg base CX0 2 (He.ga K "_law_drawn_table") (F 44) ["_law_stream_here", "_law_size"] spDrawn := by
  refine T.d_law_drawn_table.ok sc_law_drawn_table (fun vs H Q E h => ?_) (fun cdv A outer s H vs Q E hr h => ⟨_, PSs.nox (pss_cons (ps_setLc (i := 2) (own := [("_law_x", 4)]) (g := gName 4) rfl sc_law_drawn_table.nd rfl rfl (sw_true rfl rfl rfl (by decide +kernel)) (pi_range1 (by rfl) T.z_range (pa_cons (pv 1) pa_nil)) (blkOk_by (by kernel_rfl)) (fun _ _ _ _ _ => pg_name (i := 4) sc_law_drawn_table.nd rfl (Or.inl rfl)) (fun _ _ _ _ _ => pts_nil) (fun _ _ _ _ _ => (pe_lc (own := [("_law_y", 5)]) (g := gName 5) rfl sc_law_drawn_table.nd (pi_range1 (by rfl) T.z_range (pa_cons (pv 1) pa_nil)) (blkOk_by (by kernel_rfl)) (fun _ _ _ _ _ => pg_name (i := 5) sc_law_drawn_table.nd rfl (Or.inl rfl)) (fun _ _ _ _ _ => pts_nil) (fun _ _ _ _ _ => pe_str))))
      (pss_cons (ps_set (i := 3) sc_law_drawn_table.nd rfl (Or.inl rfl) (pe_call G_law_next (hr.mono (by decide)) rfl T.m_law_next T.d_law_next.kp T.b_law_next .nil pass0 (pa_cons (pv 0) (pa_cons pe_int pa_nil))))
      (pss_cons (ps_for PassesOwn.never rfl (pi_range1 (by rfl) T.z_range (pa_cons (pv 1) pa_nil)) (pg_name (i := 4) sc_law_drawn_table.nd rfl (Or.inl rfl)) (pss_one (ps_for PassesOwn.never rfl (pi_range2 (by rfl) T.z_range (pa_cons (pe_op op_add (pv 4) pe_int) (pa_cons (pv 1) pa_nil))) (pg_name (i := 5) sc_law_drawn_table.nd rfl (Or.inl rfl)) (pss_cons (ps_set (i := 6) sc_law_drawn_table.nd rfl (Or.inl rfl) (pe_ix (ixL (K := K) rfl) (pe_lst (pa_cons pe_str (pa_cons pe_str (pa_cons pe_str pa_nil)))) (pe_ix (ixL (K := K) rfl) (pe_lst (pa_cons (pe_call G_law_next (hr.mono (by decide)) rfl T.m_law_next T.d_law_next.kp T.b_law_next .nil pass0 (pa_cons (pv 0) (pa_cons pe_int pa_nil))) (pa_cons (pe_call G_law_next (hr.mono (by decide)) rfl T.m_law_next T.d_law_next.kp T.b_law_next .nil pass0 (pa_cons (pv 0) (pa_cons pe_int pa_nil))) (pa_cons pe_int pa_nil)))) (pv 3) (fun _ _ => rfl)) (fun _ _ => rfl)))
      (pss_cons (ps_asg (pv 6) (pg_sub (pe_ix (ixL (K := K) rfl) (pv 2) (pv 4) (fun _ _ => rfl)) (pv 5) set_list))
      (pss_one (ps_asg (pe_call G_law_opposite (hr.mono (by decide)) rfl T.m_law_opposite T.d_law_opposite.kp T.b_law_opposite .nil pass0 (pa_cons (pv 6) pa_nil)) (pg_sub (pe_ix (ixL (K := K) rfl) (pv 2) (pv 5) (fun _ _ => rfl)) (pv 4) set_list))))))))
      (pss_one (ps_ret (pe_lc (own := [("_law_row", 7)]) (g := gName 7) rfl sc_law_drawn_table.nd (piL (K := K) rfl (pv 2)) (blkOk_by (by kernel_rfl)) (fun _ _ _ _ _ => pg_name (i := 7) sc_law_drawn_table.nd rfl (Or.inl rfl)) (fun _ _ _ _ _ => pts_nil) (fun _ _ _ _ _ => (pe_callTy (cListOf (K := K) rfl) (by rfl) T.z_list (by decide +kernel) (pa_cons (pv 7) pa_nil))))))))), ?_⟩)
  · obtain ⟨p, s, n, rfl, _⟩ := h
    rfl
  obtain ⟨p, s, n, rfl, hs, hn, q⟩ := h
  refine q_raw (lcRd (fun _ => rowV n (fun _ => .same)) (ea_cons (ev_var rfl) ea_nil) (by omega) (fun _ => rfl) (fun i H1 e1 hi H2 e2 Q2 q2 => lcR (fun _ => true) (fun _ _ v _ => v = vR .same) (ea_cons (ev_var rfl) ea_nil) (by omega) (fun _ => rfl) (fun _ _ => stays_val (g := fun _ => vR .same))
    (fun i H3 e3 hi => et_yes) (fun i D H3 zs e3 _ _ hi _ => Ev.p ev_c) (fun D ys H3 hD e3 h3 gv => q2 D H3 hD e3 ?_)) fun rw rs H1 hrw e1 h1 hl nd hout hps => ?_)
  · rw [filter_all] at gv
    rw [h3, gv.eq (g := fun _ => vR .same) fun _ _ h => h]
    rfl
  have m0 : Mat H H1 rw rs n (fun _ _ => .same) := ⟨h1, hl, nd, hout, hrw, fun r hr => by
    obtain ⟨t, ht⟩ := List.getElem?_of_mem hr
    exact (hps t r ht).1, fun t r ht => (hps t r ht).2⟩
  refine q_raw (q_next (m := 3) (ev_var rfl) ev_c (hs.mono e1) (by decide) (by decide) fun kd H2 hkd e2 hs2 => ?_)
  have m2 := m0.exb hs e2
  refine q_forR1 (n := (n : Int)) (ea_cons (ev_var rfl) ea_nil) ⟨by omega, by omega⟩ (fun x σ' H' => ∃ x4 x5 x6 T1, σ' = [some (.ref p), some (vI n), some (.ref rw), some (vI kd), x4, x5, x6, none] ∧ Exb p H H' ∧ Stm H' p s ∧ Mat H H' rw rs n T1 ∧ Good n (fun i j => i < x ∨ j < x) T1)
    (fun H3 e3 => ⟨none, none, none, _, rfl, ((Ex.b e1).trans e2).trans (Ex.b e3), hs2.mono e3, m2.mono e3, fun i j hi hj => ⟨rfl, rfl, fun _ h => by omega⟩⟩) ?_ ?_
  · rintro x σ' H3 hx ⟨x4, x5, x6, T1, rfl, e3, hs3, m3, g3⟩
    have hx' : x < n := by omega
    refine s_forR2 (lo := (x : Int) + 1) (n := (n : Int)) (ea_cons (ev_addI (ev_var rfl) ev_c) (ea_cons (ev_var rfl) ea_nil)) ⟨by omega, by omega, by omega, by omega⟩
      (fun k σ' H' => ∃ x5 x6 T1, σ' = [some (.ref p), some (vI n), some (.ref rw), some (vI kd), some (vI x), x5, x6, none] ∧ Exb p H H' ∧ Stm H' p s ∧ Mat H H' rw rs n T1 ∧ Good n (fun i j => i < x ∨ j < x ∨ (i = x ∧ j < x + 1 + k) ∨ (j = x ∧ i < x + 1 + k)) T1)
      (fun H4 e4 => ⟨x5, x6, T1, rfl, e3.trans (Ex.b e4), hs3.mono e4, m3.mono e4, g3.weak fun i j _ _ hn hd => by omega⟩) ?_ ?_
    · rintro k σ' H4 hk ⟨x5', x6', T2, rfl, e4, hs4, m4, g4⟩
      have hy' : x + 1 + k < n := by omega
      have ey : ((x : Int) + 1 + (k : Int)) = ((x + 1 + k : Nat) : Int) := by omega
      rw [ey]
      refine q_raw ⟨(by show 3 ≤ sizeLine; rw [sizeLine_eq]; decide), fun pw hpw => ?_⟩
      have npw := hs4.nne hpw
      refine q_next (m := 3) (ev_var rfl) ev_c (hs4.mono (Ex.new hpw)) (by decide) (by decide) fun d1 H5 hd1 e5 hs5 => ?_
      refine q_next (m := 2) (ev_var rfl) ev_c hs5 (by decide) (by decide) fun d2 H6 hd2 e6 hs6 => ?_
      refine ⟨(by show 3 ≤ sizeLine; rw [sizeLine_eq]; decide), fun pz hpz => ?_⟩
      obtain ⟨d, hd, hd3⟩ : ∃ d : Nat, [vI d1, vI d2, V.int 0][kd]? = some (vI d) ∧ d < 3 := by
        match kd, hkd with
        | 0, _ => exact ⟨d1, rfl, hd1⟩
        | 1, _ => exact ⟨d2, rfl, by omega⟩
        | 2, _ => exact ⟨0, rfl, by decide⟩
      obtain ⟨r, hr, hrn⟩ := tri hd3
      have e56 : Exb p (upd H4 pw (.lst [.str "before", .str "beside", .str "after"])) (upd H6 pz (.lst [vI d1, vI d2, .int 0])) := (e5.trans e6).trans (Ex.b (Ex.new hpz))
      have e46 : Exb p H (upd H6 pz (.lst [vI d1, vI d2, .int 0])) := e4.trans ((Ex.b (Ex.new hpw)).trans e56)
      have m6 : Mat H (upd H6 pz (.lst [vI d1, vI d2, .int 0])) rw rs n T2 := (m4.mono (Ex.new hpw)).exb hs e56
      refine ⟨_, rfl, pz, _, kd, vI d, rfl, rfl, sq_of upd_same, atI_nat hd, pw, _, d, vR r, rfl, rfl, sq_of (e56 _ _ npw upd_same), atI_nat hr, ?_⟩
      refine put2 (x := x) (y := x + 1 + k) (r := r) rfl rfl rfl rfl m6 hx' hy' (by omega) hs e46 (hs6.mono (Ex.new hpz)) fun H7 e7 hs7 m7 => ?_
      exact ⟨_, _, _, rfl, e7, hs7, m7, (g4.set (by omega) hrn).weak fun i j _ _ hn hd => by omega⟩
    · rintro σ' H4 ⟨x5', x6', T2, rfl, e4, hs4, m4, g4⟩
      exact ⟨_, _, _, T2, rfl, e4, hs4, m4, g4.weak fun i j _ _ hn hd => by omega⟩
  · rintro σ' H3 ⟨x4, x5, x6, T1, rfl, e3, hs3, m3, g3⟩
    have en : ((n : Int)).toNat = n := by omega
    rw [en] at g3
    refine r_raw (lcLd (fun i => rowV n (T1 i)) (ev_var rfl) (sq_of m3.rows) (by rw [List.length_map, m3.len]; omega) (fun _ => rfl) (fun i x H4 e4 hx => ?_) fun rw2 rs2 H4 hrw2 e4 h4 hl2 nd2 hout2 hps2 => ?_)
    · rw [List.getElem?_map] at hx
      obtain ⟨a, ha, rfl⟩ := Option.map_eq_some_iff.mp hx
      exact el_cb (ea_cons (ev_var rfl) ea_nil) fun H5 e5 Q5 q5 => ⟨a, _, rfl, .inl (sq_of (e5 _ _ (e4 _ _ (m3.at_ i a ha)))), fun l hl => q5 l _ hl (Ex.new hl) upd_same⟩
    · rw [List.length_map, m3.len] at hl2
      exact q rw2 rs2 T1 H4 (e3.trans (Ex.b e4)) (hs3.mono e4) ⟨h4, hl2, nd2, hout2, Exb.back e3 hs3 hrw2, fun r hr => by
        obtain ⟨t, ht⟩ := List.getElem?_of_mem hr
        exact Exb.back e3 hs3 (hps2 t r ht).1, fun t r ht => (hps2 t r ht).2⟩ (tabOk_of g3 fun i j hi hj _ => .inl hi)
end K15
set_option Elab.async false
set_option linter.all false
set_option maxRecDepth 100000
/-! K15: some table -/
namespace K15
open PySem PySem.Spec PyProof.Rows L2 Evl
section
variable {K : PySem.W.Frag} {σ : L2.St} {H H' : Hp} {tl : TE} {t : TT} {tu tz : TS} {D : Ends} {g : TG} {ta : TA} {te : TE} {vs : List Nat} {Q : VK}
theorem q_ifR {P : L2.St → Hp → Prop} (h : (∀ σ' H', P σ' H' → tz D σ' H') → t σ H fun b H1 => if b = true then tu { D with nx := tz D } σ H1 else tz D σ H1) (k : ∀ σ' H', P σ' H' → tz D σ' H') : tSeq (tIfS t tu tNext) tz D σ H := h k
theorem lc_swapT (h : tl σ H fun x H1 => tLc (iTup K (tC x)) g t te vs σ H1 Q) : tLc (iTup K tl) g t te vs σ H Q := h
theorem for_swapR (h : ta σ H fun xs H1 => tFor (iRng1 fun _ H Q => Q xs H) g tu D σ H1) : tFor (iRng1 ta) g tu D σ H := h
theorem ea_raw {xs : List V} : EvA (fun _ H Q => Q xs H) σ H xs := fun H1 _ Q q => q H1 (Ex.refl H1)
theorem Mat.base {H0 H1 H : Hp} {rw : Addr} {rs : List Addr} {n : Nat} {T : Tb} (m : Mat H1 H rw rs n T) (h : ∀ a, H1 a = none → H0 a = none) : Mat H0 H rw rs n T := ⟨m.rows, m.len, m.nd, m.out, h _ m.fw, fun r hr => h _ (m.fr r hr), m.at_⟩
theorem c_one {sp : Sp} {E : XK} (h : te σ H fun x H1 => sp ([x] ++ []) H1 Q E) : tCall sp [] E (tCons te tNil) σ H Q := h
theorem s_whenM {P : L2.St → Hp → Prop} {b : Bool} (h : EvT t σ H b) (h1 : b = true → ∀ H1, Ex H H1 → tu D σ H1) (h2 : b = false → ∀ H1, Ex H H1 → D.nx σ H1) : tIfS t tu tNext D σ H := s_when h h1 h2
end
variable {P : Program} {w : World} {K : PySem.W.Frag} {mg : Str → Option Value} {base : Heap} {F : Nat → FuncData}
def spSomeTab : Sp := fun vs H Q _ => ∃ (p s : Addr) (n : Nat), vs = [.ref p, vI n] ∧ Stm H p s ∧ 1 ≤ n ∧ n ≤ 6 ∧ ∀ v T H', Exb p H H' → Stm H' p s → TabAt H' v n T → TabOk n T → Q v H'
theorem sc_law_some_table : FnScope ["_law_stream_here", "_law_size", "_law_rows", "_law_row", "_law_turn", "_law_x", "_law_y", "_law_relation_here"] ["_law_stream_here", "_law_size"] (defScope s_law_some_table) := ⟨rfl, rfl, rfl, by decide +kernel, rfl, by decide +kernel, by decide +kernel⟩
theorem ok_law_some_table (T : Tx K w mg F) (G_law_next : FnOk P w K mg base CX0 1 (He.ga K "_law_next") (F 33) ["_law_stream_here", "_law_many"] spNext) (G_law_opposite : FnOk P w K mg base CX0 1 (He.ga K "_law_opposite") (F 43) ["_law_relation_here"] spOppL) (G_law_drawn_table : FnOk P w K mg base CX0 2 (He.ga K "_law_drawn_table") (F 44) ["_law_stream_here", "_law_size"] spDrawn) (G_law_plan : FnOk P w K mg base CX0 3 (He.ga K "_law_plan") (F 38) ["_law_stream_here", "_law_size"] spLPlan) (G_law_table : FnOk P w K mg base CX0 13 (He.ga K "_law_table") (F 41) ["_law_plan_here"] spTable) : FnOk P w K mg base CX0 14 (He.ga K "_law_some_table") (F 45) ["_law_stream_here", "_law_size"] spSomeTab := by
  refine T.d_law_some_table.ok sc_law_some_table (fun vs H Q E h => ?_) (fun cdv A outer s H vs Q E hr h => ⟨_, PSs.nox (pss_cons (ps_set (i := 2) sc_law_some_table.nd rfl (Or.inl rfl) (pe_call G_law_drawn_table (hr.mono (by decide)) rfl T.m_law_drawn_table T.d_law_drawn_table.kp T.b_law_drawn_table .nil pass0 (pa_cons (pv 0) (pa_cons (pv 1) pa_nil))))
      (pss_cons (ps_if (pt_cmpR op_gt (pe_call G_law_next (hr.mono (by decide)) rfl T.m_law_next T.d_law_next.kp T.b_law_next .nil pass0 (pa_cons (pv 0) (pa_cons pe_int pa_nil))) pe_int (nomark _)) (pss_cons (ps_setLc (i := 2) (own := [("_law_row", 3)]) (g := gName 3) rfl sc_law_some_table.nd rfl rfl (sw_true rfl rfl rfl (by decide +kernel)) (piT (K := K) rfl (pe_call G_law_table (hr.mono (by decide)) rfl T.m_law_table T.d_law_table.kp T.b_law_table .nil pass0 (pa_cons (pe_call G_law_plan (hr.mono (by decide)) rfl T.m_law_plan T.d_law_plan.kp T.b_law_plan .nil pass0 (pa_cons (pv 0) (pa_cons (pv 1) pa_nil))) pa_nil))) (blkOk_by (by kernel_rfl)) (fun _ _ _ _ _ => pg_name (i := 3) sc_law_some_table.nd rfl (Or.inl rfl)) (fun _ _ _ _ _ => pts_nil) (fun _ _ _ _ _ => (pe_callTy (cListOf (K := K) rfl) (by rfl) T.z_list (by decide +kernel) (pa_cons (pv 3) pa_nil))))
      (pss_one (ps_for PassesOwn.never rfl (pi_range1 (by rfl) T.z_range (pa_cons (pe_call G_law_next (hr.mono (by decide)) rfl T.m_law_next T.d_law_next.kp T.b_law_next .nil pass0 (pa_cons (pv 0) (pa_cons pe_int pa_nil))) pa_nil)) (pg_name (i := 4) sc_law_some_table.nd rfl (Or.inl rfl)) (pss_cons (ps_set (i := 5) sc_law_some_table.nd rfl (Or.inl rfl) (pe_call G_law_next (hr.mono (by decide)) rfl T.m_law_next T.d_law_next.kp T.b_law_next .nil pass0 (pa_cons (pv 0) (pa_cons (pv 1) pa_nil))))
      (pss_cons (ps_set (i := 6) sc_law_some_table.nd rfl (Or.inl rfl) (pe_call G_law_next (hr.mono (by decide)) rfl T.m_law_next T.d_law_next.kp T.b_law_next .nil pass0 (pa_cons (pv 0) (pa_cons (pv 1) pa_nil))))
      (pss_one (ps_if (pt_cmpR op_ne (pv 5) (pv 6) (nomark _)) (pss_cons (ps_set (i := 7) sc_law_some_table.nd rfl (Or.inl rfl) (pe_ix (ixL (K := K) rfl) (pe_lst (pa_cons pe_str (pa_cons pe_str (pa_cons pe_str pa_nil)))) (pe_call G_law_next (hr.mono (by decide)) rfl T.m_law_next T.d_law_next.kp T.b_law_next .nil pass0 (pa_cons (pv 0) (pa_cons pe_int pa_nil))) (fun _ _ => rfl)))
      (pss_cons (ps_asg (pv 7) (pg_sub (pe_ix (ixL (K := K) rfl) (pv 2) (pv 5) (fun _ _ => rfl)) (pv 6) set_list))
      (pss_one (ps_asg (pe_call G_law_opposite (hr.mono (by decide)) rfl T.m_law_opposite T.d_law_opposite.kp T.b_law_opposite .nil pass0 (pa_cons (pv 7) pa_nil)) (pg_sub (pe_ix (ixL (K := K) rfl) (pv 2) (pv 6) (fun _ _ => rfl)) (pv 5) set_list))))) pss_nil))))))) pss_nil)
      (pss_one (ps_ret (pe_callTy (cTupOf (K := K) rfl) (by rfl) T.z_tuple (by decide +kernel) (pa_cons (pe_lc (own := [("_law_row", 3)]) (g := gName 3) rfl sc_law_some_table.nd (piL (K := K) rfl (pv 2)) (blkOk_by (by kernel_rfl)) (fun _ _ _ _ _ => pg_name (i := 3) sc_law_some_table.nd rfl (Or.inl rfl)) (fun _ _ _ _ _ => pts_nil) (fun _ _ _ _ _ => (pe_callTy (cTupOf (K := K) rfl) (by rfl) T.z_tuple (by decide +kernel) (pa_cons (pv 3) pa_nil)))) pa_nil)))))), ?_⟩)
  · obtain ⟨p, s, n, rfl, _⟩ := h
    rfl
  obtain ⟨p, s, n, rfl, hs, hn1, hn, q⟩ := h
  refine q_raw (c_call (vs := [.ref p, vI n]) (ea_cons (ev_var rfl) (ea_cons (ev_var rfl) ea_nil)) fun H1 e1 => ⟨p, s, n, rfl, hs.mono e1, hn, fun rw0 rs0 T0 H2 e2 hs2 m2 ok2 => ?_⟩)
  have m2' : Mat H H2 rw0 rs0 n T0 := m2.base fun a h => fresh_back e1 h
  refine q_ifR (P := fun σ' H' => ∃ x3 x4 x5 x6 x7 rw rs T1, σ' = [some (.ref p), some (vI n), some (.ref rw), x3, x4, x5, x6, x7] ∧ Exb p H H' ∧ Stm H' p s ∧ Mat H H' rw rs n T1 ∧ TabOk n T1) (fun rest => ?_) ?_
  · refine q_next (m := 3) (ev_var rfl) ev_c hs2 (by decide) (by decide) fun d H3 hd e3 hs3 => ⟨_, _, rfl, rfl, _, rfl, ?_⟩
    have e03 := ((Ex.b e1).trans e2).trans e3
    by_cases hd0 : (decide ((0 : Int) < (d : Int))) = true
    · refine ch_t hd0 ?_
      refine q_raw (lc_swapT (K := K) (c_one (c_call (vs := [.ref p, vI n]) (ea_cons (ev_var rfl) (ea_cons (ev_var rfl) ea_nil)) fun H4 e4 => ⟨p, s, n, rfl, hs3.mono e4, hn1, hn, fun v pl H5 e5 hs5 hpl pm => ?_⟩)))
      refine ⟨v, pl, n, rfl, hpl, pm, hn, fun v' T' H6 e6 ht hok => ?_⟩
      obtain ⟨a, rs, rfl, ha, hrl, hrs⟩ := id ht
      have hs6 := hs5.mono e6
      have e06 : Exb p H H6 := ((e03.trans (Ex.b e4)).trans e5).trans (Ex.b e6)
      refine lcTd (K := K) (tl := tC (.ref a)) (fun i => rowV n (T' i)) ev_c (st_of ha) (by rw [List.length_map, hrl]; omega) (fun _ => rfl) (fun i x H7 e7 hx => ?_) fun rw1 rs1 H7 hrw1 e7 h7 hl7 nd7 hout7 hps7 => ?_
      · rw [List.getElem?_map] at hx
        obtain ⟨r, hr1, rfl⟩ := Option.map_eq_some_iff.mp hx
        exact el_cb (ea_cons (ev_var rfl) ea_nil) fun H8 e8 Q8 q8 => ⟨r, _, rfl, .inr (st_of (e8 _ _ (e7 _ _ (hrs i r hr1)))), fun l hl => q8 l _ hl (Ex.new hl) upd_same⟩
      rw [List.length_map, hrl] at hl7
      have m7 : Mat H H7 rw1 rs1 n T' := ⟨h7, hl7, nd7, hout7, Exb.back e06 hs6 hrw1, fun r hr => by
        obtain ⟨t, ht⟩ := List.getElem?_of_mem hr
        exact Exb.back e06 hs6 (hps7 t r ht).1, fun t r ht => (hps7 t r ht).2⟩
      have hs7 := hs6.mono e7
      have e07 := e06.trans (Ex.b e7)
      refine for_swapR (q_next (m := 3) (ev_var rfl) ev_c hs7 (by decide) (by decide) fun tn H8 htn e8 hs8 => ?_)
      have m8 := m7.exb hs e8
      refine s_forR1 (n := (tn : Int)) ea_raw ⟨by omega, by omega⟩ (fun i σ' H' => ∃ x4 x5 x6 x7 T1, σ' = [some (.ref p), some (vI n), some (.ref rw1), none, x4, x5, x6, x7] ∧ Exb p H H' ∧ Stm H' p s ∧ Mat H H' rw1 rs1 n T1 ∧ TabOk n T1)
        (fun H9 e9 => ⟨none, none, none, none, T', rfl, (e07.trans e8).trans (Ex.b e9), hs8.mono e9, m8.mono e9, hok⟩) ?_ ?_
      · rintro i σ' H9 hi ⟨x4, x5, x6, x7, T1, rfl, e9, hs9, m9, ok9⟩
        refine q_raw (q_next (m := n) (ev_var rfl) (ev_var rfl) hs9 (by omega) (by omega) fun x H10 hx e10 hs10 => ?_)
        refine q_raw (q_next (m := n) (ev_var rfl) (ev_var rfl) hs10 (by omega) (by omega) fun y H11 hy e11 hs11 => ?_)
        have e011 := (e9.trans e10).trans e11
        have m11 := (m9.exb hs e10).exb hs e11
        refine s_when (et_test (ev_neI (ev_var rfl) (ev_var rfl))) (fun hb H12 e12 => ?_) fun hb H12 e12 => ⟨_, _, _, _, T1, rfl, e011.trans (Ex.b e12), hs11.mono e12, m11.mono e12, ok9⟩
        have hne : x ≠ y := fun z => by
          subst z
          simp at hb
        have hs12 := hs11.mono e12
        refine q_raw ⟨(by show 3 ≤ sizeLine; rw [sizeLine_eq]; decide), fun pw hpw => ?_⟩
        have npw := hs12.nne hpw
        refine q_next (m := 3) (ev_var rfl) ev_c (hs12.mono (Ex.new hpw)) (by decide) (by decide) fun d2 H13 hd2 e13 hs13 => ?_
        obtain ⟨r, hr, hrn⟩ := tri hd2
        refine ⟨pw, _, d2, vR r, rfl, rfl, sq_of (e13 _ _ npw upd_same), atI_nat hr, ?_⟩
        have m13 := ((m11.mono e12).mono (Ex.new (o := .lst [.str "before", .str "beside", .str "after"]) hpw)).exb hs e13
        have e013 : Exb p H H13 := ((e011.trans (Ex.b e12)).trans (Ex.b (Ex.new hpw))).trans e13
        refine put2 (x := x) (y := y) (r := r) rfl rfl rfl rfl m13 hx hy hne hs e013 hs13 fun H14 e14 hs14 m14 => ?_
        exact ⟨_, _, _, _, _, rfl, e14, hs14, m14, tabOk_of ((good_of ok9).set hne hrn) fun i j _ _ _ => .inl trivial⟩
      · rintro σ' H9 ⟨x4, x5, x6, x7, T1, rfl, e9, hs9, m9, ok9⟩
        exact rest _ _ ⟨_, _, _, _, _, rw1, rs1, T1, rfl, e9, hs9, m9, ok9⟩
    · refine ch_f hd0 ?_
      exact rest _ _ ⟨_, _, _, _, _, rw0, rs0, T0, rfl, e03, hs3, m2'.exb hs e3, ok2⟩
  · rintro σ' H3 ⟨x3, x4, x5, x6, x7, rw, rs, T1, rfl, e3, hs3, m3, ok3⟩
    refine r_cb1 (lcL (fun _ => true) (IsTupP fun i => rowV n (T1 i)) (ev_var rfl) (sq_of m3.rows) (by rw [List.length_map, m3.len]; omega) (fun _ => rfl) (fun _ _ => stays_tup) (fun _ _ _ _ _ => et_yes)
      (fun i x D H4 zs e4 _ _ hx _ H5 e5 Q5 q5 => ?_) (fun D ys H4 hD e4 h4 gv => ?_))
    · rw [List.getElem?_map] at hx
      obtain ⟨r, hr1, rfl⟩ := Option.map_eq_some_iff.mp hx
      exact e_cb1 ⟨_, rfl, r, _, rfl, .inl ⟨sq_of (e5 _ _ (e4 _ _ (m3.at_ i r hr1))), fun l hl => q5 _ _ (Ex.new hl) ⟨l, rfl, upd_same⟩⟩⟩
    · rw [List.length_map, m3.len, filter_all] at gv
      exact ⟨D, ys, rfl, .inl ⟨sq_of h4, fun l hl => q _ _ _ (e3.trans (Ex.b (e4.trans (Ex.new hl)))) (hs3.mono (e4.trans (Ex.new hl))) (tab_of upd_same (giv_upd gv hl)) ok3⟩⟩
end K15
set_option Elab.async false
set_option linter.all false
set_option maxRecDepth 100000
/-! K15: the law's choices -/
namespace K15
open PySem PySem.Spec PyProof.Rows L2 Evl
theorem at_last {row : List Nat} (h : row ≠ []) : atI (natsV row) (-1) = some (vI (row.getLastD 0)) := by
  have hl : 0 < row.length := List.length_pos_iff.mpr h
  have e : ixN (natsV row).length (-1) = some (row.length - 1) := by
    rw [natsV_len]
    unfold ixN
    rw [if_neg (by omega), if_pos (by omega)]
    congr 1
    omega
  unfold atI
  rw [e]
  show (natsV row)[row.length - 1]? = _
  have e2 : row[row.length - 1]? = some (row.getLastD 0) := by
    rw [List.getElem?_eq_getElem (by omega), List.getLastD_eq_getLast?, ← List.getLast_eq_getElem h, List.getLast?_eq_some_getLast h]
    rfl
  exact natsV_get e2
/-- tuples of numbers, listed -/
def CsAt (H : Hp) (cs : List Addr) (L : List (List Nat)) : Prop := cs.length = L.length ∧ ∀ (i : Nat) (a : Addr) (c : List Nat), cs[i]? = some a → L[i]? = some c → H a = some (.tup (natsV c))
theorem CsAt.mono {H H' : Hp} {cs : List Addr} {L : List (List Nat)} (h : CsAt H cs L) (e : Ex H H') : CsAt H' cs L := ⟨h.1, fun i a c ha hc => e _ _ (h.2 i a c ha hc)⟩
theorem CsAt.nil {H : Hp} : CsAt H [] [] := ⟨rfl, fun i a c h => by simp at h⟩
theorem CsAt.append {H : Hp} {cs ds : List Addr} {L M : List (List Nat)} (h : CsAt H cs L) (k : CsAt H ds M) : CsAt H (cs ++ ds) (L ++ M) := ⟨by rw [List.length_append, List.length_append, h.1, k.1], fun i a c ha hc => by
  by_cases hi : i < cs.length
  · rw [List.getElem?_append_left hi] at ha
    rw [List.getElem?_append_left (by rw [← h.1]; exact hi)] at hc
    exact h.2 i a c ha hc
  · rw [List.getElem?_append_right (by omega)] at ha
    rw [List.getElem?_append_right (by rw [← h.1]; omega), ← h.1] at hc
    exact k.2 _ a c ha hc⟩
theorem cs_of {H : Hp} {g : Nat → List Nat} {D : Addr} {is : List Nat} {ys : List V} (h : Giv (IsTupP (fun i => natsV (g i)) D) H is ys) : ∃ cs : List Addr, ys = cs.map V.ref ∧ CsAt H cs (is.map g) := by
  induction h with
  | nil => exact ⟨[], rfl, .nil⟩
  | snoc _ p ih =>
    obtain ⟨cs, rfl, h⟩ := ih
    obtain ⟨a, rfl, ha⟩ := p
    refine ⟨cs ++ [a], by simp, ?_⟩
    rw [List.map_append]
    refine h.append ⟨rfl, fun i b c hb hc => ?_⟩
    cases i with
    | zero =>
      have e1 : a = b := by simpa using hb
      have e2 := Option.some.inj (show some (g _) = some c from by simpa using hc)
      subst e1
      rw [← e2]
      exact ha
    | succ i => simp at hb
theorem some_small : ∀ n, n ≤ 6 → ∀ m, m ≤ 4 → (someL n m).length ≤ 100 := by decide +kernel
def someG (n : Nat) (row : List Nat) : List (List Nat) := ((List.range n).filter fun one => decide (row = []) || decide (row.getLastD 0 < one)).map fun one => row ++ [one]
theorem someL_succ {n m : Nat} : someL n (m + 1) = (someL n m).flatMap (someG n) := rfl
theorem rowlen {n : Nat} : ∀ {t : Nat} {row : List Nat}, row ∈ someL n t → row.length ≤ t
  | 0, row, h => by
    have : row = [] := by simpa [someL] using h
    rw [this]; simp
  | t + 1, row, h => by
    rw [someL_succ] at h
    obtain ⟨r, hr, h⟩ := List.mem_flatMap.mp h
    obtain ⟨one, _, rfl⟩ := List.mem_map.mp h
    have := rowlen hr
    rw [List.length_append, List.length_singleton]
    omega
variable {P : Program} {w : World} {K : PySem.W.Frag} {mg : Str → Option Value} {base : Heap} {F : Nat → FuncData}
def spSome : Sp := fun vs H Q _ => ∃ n m, vs = [vI n, vI m] ∧ n ≤ 6 ∧ m ≤ 4 ∧ ∀ r cs H', H r = none → Ex H H' → H' r = some (.lst (cs.map V.ref)) → CsAt H' cs (someL n m) → Q (.ref r) H'
theorem sc_law_some : FnScope ["_law_size", "_law_many", "_law_rows", "_law_turn", "_law_longer", "_law_row", "_law_one"] ["_law_size", "_law_many"] (defScope s_law_some) := ⟨rfl, rfl, rfl, by decide +kernel, rfl, by decide +kernel, by decide +kernel⟩
theorem ok_law_some (T : Tx K w mg F) : FnOk P w K mg base CX0 1 (He.ga K "_law_some") (F 46) ["_law_size", "_law_many"] spSome := by
  refine T.d_law_some.ok sc_law_some (fun vs H Q E h => ?_) (fun cdv A outer s H vs Q E hr h => ⟨_, PSs.nox (pss_cons (ps_set (i := 2) sc_law_some.nd rfl (Or.inl rfl) (pe_lst (pa_cons (pe_tup pa_nil) pa_nil)))
      (pss_cons (ps_for PassesOwn.never rfl (pi_range1 (by rfl) T.z_range (pa_cons (pv 1) pa_nil)) (pg_name (i := 3) sc_law_some.nd rfl (Or.inl rfl)) (pss_cons (ps_set (i := 4) sc_law_some.nd rfl (Or.inl rfl) (pe_lst pa_nil))
      (pss_cons (ps_for PassesOwn.never rfl (piL (K := K) rfl (pv 2)) (pg_name (i := 5) sc_law_some.nd rfl (Or.inr rfl)) (pss_one (ps_set (i := 4) sc_law_some.nd rfl (Or.inl rfl) (pe_op op_cat (pv 4) (pe_lc (own := [("_law_one", 6)]) (g := gName 6) rfl sc_law_some.nd (pi_range1 (by rfl) T.z_range (pa_cons (pv 0) pa_nil)) (blkOk_by (by kernel_rfl)) (fun _ _ _ _ _ => pg_name (i := 6) sc_law_some.nd rfl (Or.inl rfl)) (fun _ _ _ _ _ => (pts_one (PW.pt (pw_or (pt_not (ptTru (K := K) rfl (pv 5) (by intro _; rfl))) (pw_or1 (pt_cmpR op_lt (pe_ix (ixT (K := K) rfl) (pv 5) (pe_un un_neg pe_int) (fun _ _ => rfl)) (pv 6) (nomark _))))))) (fun _ _ _ _ _ => (pe_op (oCatA (K := K) rfl) (pv 5) (pe_tup (pa_cons (pv 6) pa_nil)))))))))
      (pss_one (ps_set (i := 2) sc_law_some.nd rfl (Or.inl rfl) (pv 4))))))
      (pss_one (ps_ret (pv 2))))), ?_⟩)
  · obtain ⟨n, m, rfl, _⟩ := h
    rfl
  obtain ⟨n, m, rfl, hn, hm, q⟩ := h
  refine q_raw ⟨(by show 0 ≤ sizeLine; rw [sizeLine_eq]; decide), fun t0 ht0 => ⟨(by show 1 ≤ sizeLine; rw [sizeLine_eq]; decide), fun rw0 hrw0 => ?_⟩⟩
  have e0 := (Ex.new (o := .tup []) ht0).trans (Ex.new (o := .lst [.ref t0]) hrw0)
  have frw : H rw0 = none := fresh_back (Ex.new ht0) hrw0
  have n0 : t0 ≠ rw0 := by
    rintro rfl
    rw [upd_same] at hrw0; cases hrw0
  refine q_forR1 (n := (m : Int)) (ea_cons (ev_var rfl) ea_nil) ⟨by omega, by omega⟩ (fun t σ' H' => ∃ rw cs x3 x4 x5, σ' = [some (vI n), some (vI m), some (.ref rw), x3, x4, x5, none] ∧ H rw = none ∧ Ex H H' ∧ H' rw = some (.lst (cs.map V.ref)) ∧ CsAt H' cs (someL n t))
    (fun H1 e1 => ⟨rw0, [t0], none, none, none, rfl, frw, e0.trans e1, e1 _ _ upd_same, rfl, fun i a c ha hc => ?_⟩) ?_ ?_
  · cases i with
    | zero =>
      have e2 : t0 = a := by simpa using ha
      have e3 : [] = c := by simpa [someL] using hc
      subst e2; subst e3
      exact e1 _ _ (by rw [upd_ne n0, upd_same]; rfl)
    | succ i => simp at ha
  · rintro t σ' H1 ht ⟨rw, cs, x3, x4, x5, rfl, hrw, e1, h1, c1⟩
    have ht4 : t + 1 ≤ 4 := by omega
    have sm1 := some_small n hn (t + 1) ht4
    have sm0 := some_small n hn t (by omega)
    refine q_asgL (xs := []) (el_lst ea_nil (by show 0 ≤ 100000; decide)) fun lg0 H2 hlg0 e2 h2 => ?_
    have flg : H lg0 = none := fresh_back e1 hlg0
    refine q_forLn (xs := cs.map V.ref) (ev_var rfl) (sq_of (e2 _ _ h1)) (fun i σ' H' => ∃ lg ds x5, σ' = [some (vI n), some (vI m), some (.ref rw), some (vI t), some (.ref lg), x5, none] ∧ H lg = none ∧ Ex H H' ∧ H' rw = some (.lst (cs.map V.ref)) ∧ CsAt H' cs (someL n t) ∧ H' lg = some (.lst (ds.map V.ref)) ∧ CsAt H' ds (((someL n t).take i).flatMap (someG n)))
      (fun H3 e3 => ⟨lg0, [], x5, rfl, flg, e1.trans (e2.trans e3), e3 _ _ (e2 _ _ h1), c1.mono (e2.trans e3), e3 _ _ h2, .nil⟩) (fun i σ' H' _ ⟨_, _, _, _, _, _, h, _⟩ => sq_of h) ?_ ?_
    · rintro i x σ' H3 hx ⟨lg, ds, x5', rfl, hlg, e3, h3, c3, hl3, d3⟩
      rw [List.getElem?_map] at hx
      obtain ⟨a, ha, rfl⟩ := Option.map_eq_some_iff.mp hx
      have hi : i < (someL n t).length := by rw [← c3.1]; exact (List.getElem?_eq_some_iff.mp ha).1
      have hrow := c3.2 i a _ ha (List.getElem?_eq_getElem hi)
      generalize hr : (someL n t)[i] = row at hrow
      have htk : ((someL n t).take (i + 1)).flatMap (someG n) = ((someL n t).take i).flatMap (someG n) ++ someG n row := by
        rw [List.take_succ_eq_append_getElem hi, List.flatMap_append, hr]
        simp
      have hsz : (((someL n t).take (i + 1)).flatMap (someG n)).length ≤ 100 := by
        have e : (someL n t).flatMap (someG n) = ((someL n t).take (i + 1)).flatMap (someG n) ++ ((someL n t).drop (i + 1)).flatMap (someG n) := by
          rw [← List.flatMap_append, List.take_append_drop]
        rw [someL_succ, e, List.length_append] at sm1
        omega
      refine s_raw ⟨_, rfl, ?_⟩
      refine lcR (fun i => decide (row = []) || decide (row.getLastD 0 < i)) (IsTupP fun i => natsV (row ++ [i])) (ea_cons (ev_var rfl) ea_nil) (by omega) (fun _ => rfl) (fun _ _ => stays_tup) (fun k H4 e4 hk => ?_)
        (fun k D H4 zs e4 _ _ hk _ H5 e5 Q5 q5 => ?_) (fun D ys H4 hD e4 h4 gv => ?_)
      · have h4 := e4 _ _ hrow
        refine et_is (et_or (b := decide (row.getLastD 0 < k)) (et_not (et_truT (ev_var rfl) h4)) fun hz => ?_) ?_
        · have hrn : row ≠ [] := by
            rintro rfl
            simp [natsV] at hz
          refine et_is (et_test (ev_ltI (ev_op (ev_var rfl) (ev_un ev_c ru_neg) (rv_ixT (st_of h4) (at_last hrn))) (ev_var rfl))) ?_
          apply decide_eq_decide.mpr
          omega
        · cases row with
          | nil => rfl
          | cons b r => rfl
      · have h5 := e5 _ _ (e4 _ _ hrow)
        refine ⟨_, rfl, _, rfl, (by show 1 ≤ sizeLine; rw [sizeLine_eq]; decide), fun b hb => ?_⟩
        have h6 := (Ex.new (o := .tup [vI k]) hb) _ _ h5
        have hrl : row.length ≤ 100 := by
          have := cs.length
          exact Nat.le_trans (rowlen (t := t) (List.mem_of_getElem? (by rw [List.getElem?_eq_getElem hi, hr]))) (by omega)
        refine ⟨a, b, natsV row, [vI k], rfl, rfl, st_of h6, st_of upd_same, by rw [natsV_len, sizeLine_eq]; simp; omega, fun hz => ?_, fun _ hz => by simp at hz, fun hz _ p hp => ?_⟩
        · have : row = [] := by
            cases row with
            | nil => rfl
            | cons b r => simp [natsV] at hz
          subst this
          exact q5 _ _ (Ex.new hb) ⟨b, rfl, upd_same⟩
        · exact q5 _ _ ((Ex.new hb).trans (Ex.new hp)) ⟨p, rfl, by rw [upd_same]; simp [natsV]⟩
      · obtain ⟨es, rfl, ces⟩ := cs_of (g := fun i => row ++ [i]) gv
        have call := (d3.mono e4).append ces
        have hlen := call.1
        have hG : ((List.range n).filter fun i => decide (row = []) || decide (row.getLastD 0 < i)).map (fun i => row ++ [i]) = someG n row := rfl
        rw [hG, ← htk] at call
        have hlen2 := call.1
        rw [List.length_append] at hlen2
        refine ⟨lg, D, ds.map V.ref, es.map V.ref, rfl, rfl, e4 _ _ hl3, h4, by rw [List.length_map, List.length_map, sizeLine_eq]; omega, fun p hp => ?_⟩
        have e5 := Ex.new (o := .lst (ds.map V.ref ++ es.map V.ref)) hp
        exact ⟨p, ds ++ es, _, rfl, fresh_back (e3.trans e4) hp, e3.trans (e4.trans e5), e5 _ _ (e4 _ _ h3), c3.mono (e4.trans e5), by rw [upd_same]; simp, call.mono e5⟩
    · rintro σ' H3 ⟨lg, ds, x5', rfl, hlg, e3, h3, c3, hl3, d3⟩
      have : (someL n t).take (cs.map V.ref).length = someL n t := by rw [List.length_map, c3.1, List.take_length]
      rw [this, ← someL_succ] at d3
      refine s_asg (ev_var rfl) fun H4 e4 => ⟨lg, ds, _, _, _, rfl, hlg, e3.trans e4, e4 _ _ hl3, d3.mono e4⟩
  · rintro σ' H1 ⟨rw, cs, x3, x4, x5, rfl, hrw, e1, h1, c1⟩
    have em : ((m : Int)).toNat = m := by omega
    rw [em] at c1
    exact s_ret (ev_var rfl) fun H2 e2 => q rw cs H2 hrw (e1.trans e2) (e2 _ _ h1) (c1.mono e2)
end K15
set_option Elab.async false
set_option linter.all false
set_option maxRecDepth 100000
/-! K15: the law -/
namespace K15
open PySem PySem.Spec PyProof.Rows L2 Evl
section
variable {K : PySem.W.Frag} {σ : L2.St} {H H' : Hp} {te tl : TE} {g : TG} {tu tz : TS} {D : Ends}
theorem q_forswapL (h : tl σ H fun x H1 => tSeq (tFor (iList K (tC x)) g tu) tz D σ H1) : tSeq (tFor (iList K tl) g tu) tz D σ H := h
theorem cut_head (x : V) (l : List V) : cutV (x :: l) none (some 1) = [x] := by
  unfold cutV
  have e : HT.sIx (x :: l).length (x :: l).length (some 1) = 1 := by
    have := HT.sIx_nat (x :: l).length (x :: l).length 1
    rw [List.length_cons] at this ⊢
    rw [show (some (1 : Int)) = some (((1 : Nat) : Int)) from rfl, this]
    omega
  rw [e]
  rfl
theorem eu_head {a : Addr} {x : V} {l : List V} (h : Ev te σ H (.ref a)) (ha : H a = some (.tup (x :: l))) (hl : l ≠ []) : EvU (tSl (rSlA K) te tNoPart (tPart (tC (.int 1)))) σ H [x] := fun H1 e Q q =>
  h H1 e _ fun H2 e2 => ⟨1, rfl, a, x :: l, rfl, st_of ((e.trans e2) _ _ ha), fun z => by
    have e1 : HT.sIx (x :: l).length (x :: l).length (some 1) = 1 := by
      have := HT.sIx_nat (x :: l).length (x :: l).length 1
      rw [List.length_cons] at this ⊢
      rw [show (some (1 : Int)) = some (((1 : Nat) : Int)) from rfl, this]
      omega
    rw [e1] at z
    have h0 : 0 < l.length := List.length_pos_iff.mpr hl
    have := z.2
    rw [List.length_cons] at this
    omega, fun _ p hp => by
    rw [cut_head]
    exact q p _ (fresh_back e2 hp) (e2.trans (Ex.new hp)) upd_same⟩
end
theorem part_ok {n m : Nat} {T : Tb} {c : List Nat} (ok : TabOk n T) (h : Chosen n m c) : TabOk m (partT T c) := fun i j hi hj => by
  obtain ⟨h1, h2⟩ := ok (at_ c i) (at_ c j) (h.into i hi) (h.into j hj)
  exact ⟨⟨fun e => h.inj i j hi hj (h1.mp e), fun e => h1.mpr (by rw [e])⟩, h2⟩
theorem flaw_up {n m : Nat} {T : Tb} {c fc : List Nat} {k : Bool} (h : Chosen n m c) (f : FlawIs m (partT T c) k fc) : FlawIs n T k (fc.map (at_ c)) := by
  obtain ⟨nd, lt, f⟩ := f
  refine ⟨nodup_map_inj h.inj lt nd, fun x hx => ?_, ?_⟩
  · obtain ⟨y, hy, rfl⟩ := List.mem_map.mp hx
    exact h.into y (lt y hy)
  · cases k with
    | true =>
      obtain ⟨a, b, d, rfl, f⟩ := f
      exact ⟨_, _, _, rfl, f⟩
    | false =>
      obtain ⟨a, b, d, e, rfl, f⟩ := f
      exact ⟨_, _, _, _, rfl, f⟩
/-- where x stands in l -/
def bk (l : List Nat) (x : Nat) : Nat := l.findIdx fun y => decide (y = x)
theorem bk_lt {l : List Nat} {x : Nat} (h : x ∈ l) : bk l x < l.length := List.findIdx_lt_length_of_exists ⟨x, h, by simp⟩
theorem bk_at {l : List Nat} {x : Nat} (h : x ∈ l) : l[bk l x]'(bk_lt h) = x := by
  have := List.findIdx_getElem (xs := l) (p := fun y => decide (y = x)) (w := bk_lt h)
  exact of_decide_eq_true this
theorem bk_of {l : List Nat} (nd : l.Nodup) {i : Nat} (hi : i < l.length) : bk l (at_ l i) = i := by
  have hm := at_mem hi
  have h1 := bk_at hm
  have h2 : l[bk l (at_ l i)]'(bk_lt hm) = l[i] := by rw [h1, at_eq hi]
  exact (List.getElem_inj nd).mp h2
theorem bk_first {l : List Nat} (nd : l.Nodup) {x : Nat} (h : x ∈ l) {j y : Nat} (hj : j < bk l x) (hy : l[j]? = some y) : y ≠ x := by
  rintro rfl
  obtain ⟨hl, e⟩ := List.getElem?_eq_some_iff.mp hy
  have := (List.getElem_inj nd).mp (e.trans (bk_at h).symm)
  omega
/-- a table seen in another order tells the same -/
theorem turn_ok {n : Nat} {T : Tb} {l : List Nat} (pm : l.Perm (List.range n)) (ok : TabOk n T) : TabOk n (fun i j => T (bk l i) (bk l j)) ∧ (NoFlaw n (fun i j => T (bk l i) (bk l j)) ↔ NoFlaw n T) := by
  have nd : l.Nodup := pm.nodup_iff.mpr List.nodup_range
  have hl : l.length = n := by rw [pm.length_eq, List.length_range]
  have mem : ∀ i, i < n → i ∈ l := fun i hi => pm.mem_iff.mpr (List.mem_range.mpr hi)
  have into : ∀ i, i < n → bk l i < n := fun i hi => by
    have := bk_lt (mem i hi)
    omega
  have inj : ∀ i j, i < n → j < n → bk l i = bk l j → i = j := fun i j hi hj e => by
    have h1 := bk_at (mem i hi)
    have h2 := bk_at (mem j hj)
    have h3 : l[bk l i]'(bk_lt (mem i hi)) = l[bk l j]'(bk_lt (mem j hj)) := by simp only [e]
    rw [← h1, ← h2, h3]
  refine ⟨fun i j hi hj => ?_, fun nf => ?_, fun nf => nf.comp into inj⟩
  · obtain ⟨h1, h2⟩ := ok _ _ (into i hi) (into j hj)
    exact ⟨⟨fun e => inj i j hi hj (h1.mp e), fun e => h1.mpr (by rw [e])⟩, h2⟩
  · have q := nf.comp (n := n) (f := at_ l) (fun i hi => by
      have := pm.mem_iff.mp (at_mem (c := l) (i := i) (by omega))
      exact List.mem_range.mp this) fun i j hi hj e => by
      rw [at_eq (show i < l.length by omega), at_eq (show j < l.length by omega)] at e
      exact (List.getElem_inj nd).mp e
    exact q.congr fun i j hi hj => by
      show T i j = T (bk l (at_ l i)) (bk l (at_ l j))
      rw [bk_of nd (by omega), bk_of nd (by omega)]
variable {P : Program} {w : World} {K : PySem.W.Frag} {mg : Str → Option Value} {base : Heap} {F : Nat → FuncData}
def spLaw (K : PySem.W.Frag) : Sp := fun vs H Q _ => ∃ (a : Addr) (ns : List Int), vs = [.ref a] ∧ SqL K H a (ns.map V.int) ∧ ∀ H', Q (.bl true) H'
theorem sc_law : FnScope ["_law_script", "_law_stream_here", "_law_size", "_law_table_here", "_law_good", "_law_chosen", "_law_told", "_law_one", "_law_order", "_law_back", "_law_other", "_law_x", "_law_y"] ["_law_script"] (defScope s_law) := ⟨rfl, rfl, rfl, by decide +kernel, rfl, by decide +kernel, by decide +kernel⟩
theorem ok_law (T : Tx K w mg F) (G_law_stream : FnOk P w K mg base CX0 1 (He.ga K "_law_stream") (F 32) ["_law_script"] (spStream (K:=K))) (G_law_next : FnOk P w K mg base CX0 1 (He.ga K "_law_next") (F 33) ["_law_stream_here", "_law_many"] spNext) (G_law_some_table : FnOk P w K mg base CX0 14 (He.ga K "_law_some_table") (F 45) ["_law_stream_here", "_law_size"] spSomeTab) (G_law_some : FnOk P w K mg base CX0 1 (He.ga K "_law_some") (F 46) ["_law_size", "_law_many"] spSome) (G_part : FnOk P w K mg base CX0 4 (He.ga K "part") (F 18) ["table", "chosen"] spPart) (G_flaw : FnOk P w K mg base CX0 4 (He.ga K "flaw") (F 23) ["table"] spFlaw) (G_shows_flaw : FnOk P w K mg base CX0 4 (He.ga K "shows_flaw") (F 25) ["table", "value"] spShows) (G_plan_of : FnOk P w K mg base CX0 20 (He.ga K "plan_of") (F 30) ["table"] spPlan) (G_law_shuffled : FnOk P w K mg base CX0 2 (He.ga K "_law_shuffled") (F 36) ["_law_stream_here", "_law_many"] spShuf) : FnOk P w K mg base CX0 21 (He.ga K "law") (F 47) ["_law_script"] (spLaw K) := by
  refine T.d_law.ok sc_law (fun vs H Q E h => ?_) (fun cdv A outer s H vs Q E hr h => ⟨_, PSs.nox (pss_cons (ps_set (i := 1) sc_law.nd rfl (Or.inl rfl) (pe_call G_law_stream (hr.mono (by decide)) rfl T.m_law_stream T.d_law_stream.kp T.b_law_stream .nil pass0 (pa_cons (pv 0) pa_nil)))
      (pss_cons (ps_set (i := 2) sc_law.nd rfl (Or.inr rfl) (pe_op op_add pe_int (pe_call G_law_next (hr.mono (by decide)) rfl T.m_law_next T.d_law_next.kp T.b_law_next .nil pass0 (pa_cons (pv 1) (pa_cons pe_int pa_nil)))))
      (pss_cons (ps_set (i := 3) sc_law.nd rfl (Or.inr rfl) (pe_call G_law_some_table (hr.mono (by decide)) rfl T.m_law_some_table T.d_law_some_table.kp T.b_law_some_table .nil pass0 (pa_cons (pv 1) (pa_cons (pv 2) pa_nil))))
      (pss_cons (ps_set (i := 4) sc_law.nd rfl (Or.inl rfl) pe_bl)
      (pss_cons (ps_for PassesOwn.never rfl (piL (K := K) rfl (pe_op op_cat (pe_call G_law_some (hr.mono (by decide)) rfl T.m_law_some T.d_law_some.kp T.b_law_some .nil pass0 (pa_cons (pv 2) (pa_cons pe_int pa_nil))) (pe_call G_law_some (hr.mono (by decide)) rfl T.m_law_some T.d_law_some.kp T.b_law_some .nil pass0 (pa_cons (pv 2) (pa_cons pe_int pa_nil))))) (pg_name (i := 5) sc_law.nd rfl (Or.inr rfl)) (pss_cons (ps_set (i := 6) sc_law.nd rfl (Or.inl rfl) (pe_call G_flaw (hr.mono (by decide)) rfl T.m_flaw T.d_flaw.kp T.b_flaw .nil pass0 (pa_cons (pe_call G_part (hr.mono (by decide)) rfl T.m_part T.d_part.kp T.b_part .nil pass0 (pa_cons (pv 3) (pa_cons (pv 5) pa_nil))) pa_nil)))
      (pss_one (ps_if (pt_cmpR op_notN (pv 6) pe_non (nomark _)) (pss_cons (ps_set (i := 4) sc_law.nd rfl (Or.inl rfl) pe_bl)
      (pss_one (ps_if (pt_cmpR op_notBl (pe_call G_shows_flaw (hr.mono (by decide)) rfl T.m_shows_flaw T.d_shows_flaw.kp T.b_shows_flaw .nil pass0 (pa_cons (pv 3) (pa_cons (pe_op (oCatA (K := K) rfl) (pe_slice (slTA (K := K) rfl) (pv 6) po_none (po_some pe_int)) (pe_callTy (cTupOf (K := K) rfl) (by rfl) T.z_tuple (by decide +kernel) (pa_cons (pe_lc (own := [("_law_one", 7)]) (g := gName 7) rfl sc_law.nd (piT (K := K) rfl (pe_slice (slTA (K := K) rfl) (pv 6) (po_some pe_int) po_none)) (blkOk_by (by kernel_rfl)) (fun _ _ _ _ _ => pg_name (i := 7) sc_law.nd rfl (Or.inl rfl)) (fun _ _ _ _ _ => pts_nil) (fun _ _ _ _ _ => (pe_ix (ixT (K := K) rfl) (pv 5) (pv 7) (fun _ _ => rfl)))) pa_nil))) pa_nil))) pe_bl (nomark _)) (pss_one (ps_ret pe_bl)) pss_nil))) pss_nil))))
      (pss_cons (ps_if (pt_cmpR op_ne (pe_cmpR op_notN (pe_call G_plan_of (hr.mono (by decide)) rfl T.m_plan_of T.d_plan_of.kp T.b_plan_of .nil pass0 (pa_cons (pv 3) pa_nil)) pe_non (nomark _)) (pv 4) (nomark _)) (pss_one (ps_ret pe_bl)) pss_nil)
      (pss_cons (ps_set (i := 8) sc_law.nd rfl (Or.inr rfl) (pe_call G_law_shuffled (hr.mono (by decide)) rfl T.m_law_shuffled T.d_law_shuffled.kp T.b_law_shuffled .nil pass0 (pa_cons (pv 1) (pa_cons (pv 2) pa_nil))))
      (pss_cons (ps_set (i := 9) sc_law.nd rfl (Or.inr rfl) (pe_lc (own := [("_law_one", 7)]) (g := gName 7) rfl sc_law.nd (pi_range1 (by rfl) T.z_range (pa_cons (pv 2) pa_nil)) (blkOk_by (by kernel_rfl)) (fun _ _ _ _ _ => pg_name (i := 7) sc_law.nd rfl (Or.inl rfl)) (fun _ _ _ _ _ => pts_nil) (fun _ _ _ _ _ => (peBm (K := K) rfl PySem.F.plainAttrs_list PySem.F.slot_list_index PySem.F.type_list_index (mIndex (K := K) rfl) (pv 8) (pa_cons (pv 7) pa_nil)))))
      (pss_cons (ps_set (i := 10) sc_law.nd rfl (Or.inl rfl) (pe_callTy (cTupOf (K := K) rfl) (by rfl) T.z_tuple (by decide +kernel) (pa_cons (pe_lc (own := [("_law_x", 11)]) (g := gName 11) rfl sc_law.nd (pi_range1 (by rfl) T.z_range (pa_cons (pv 2) pa_nil)) (blkOk_by (by kernel_rfl)) (fun _ _ _ _ _ => pg_name (i := 11) sc_law.nd rfl (Or.inr rfl)) (fun _ _ _ _ _ => pts_nil) (fun _ _ _ _ _ => (pe_callTy (cTupOf (K := K) rfl) (by rfl) T.z_tuple (by decide +kernel) (pa_cons (pe_lc (own := [("_law_y", 12)]) (g := gName 12) rfl sc_law.nd (pi_range1 (by rfl) T.z_range (pa_cons (pv 2) pa_nil)) (blkOk_by (by kernel_rfl)) (fun _ _ _ _ _ => pg_name (i := 12) sc_law.nd rfl (Or.inl rfl)) (fun _ _ _ _ _ => pts_nil) (fun _ _ _ _ _ => (pe_ix (ixT (K := K) rfl) (pe_ix (ixT (K := K) rfl) (pv 3) (pe_ix (ixL (K := K) rfl) (pv 9) (pv 11) (fun _ _ => rfl)) (fun _ _ => rfl)) (pe_ix (ixL (K := K) rfl) (pv 9) (pv 12) (fun _ _ => rfl)) (fun _ _ => rfl)))) pa_nil)))) pa_nil)))
      (pss_one (ps_ret (pe_cmpR op_eq (pe_cmpR op_notN (pe_call G_plan_of (hr.mono (by decide)) rfl T.m_plan_of T.d_plan_of.kp T.b_plan_of .nil pass0 (pa_cons (pv 10) pa_nil)) pe_non (nomark _)) (pv 4) (nomark _))))))))))))), ?_⟩)
  · obtain ⟨a, ns, rfl, _⟩ := h
    rfl
  obtain ⟨a, ns, rfl, hS, q⟩ := h
  refine q_raw (c_call (vs := [.ref a]) (ea_cons (ev_var rfl) ea_nil) fun H1 e1 => ⟨a, ns, rfl, ex_l e1 hS, fun p s H2 hp e2 hs2 => ?_⟩)
  refine q_raw (q_next (m := 6) (ev_var rfl) ev_c hs2 (by decide) (by decide) fun d H3 hd e3 hs3 => ⟨_, _, rfl, rfl, ?_⟩)
  have en : V.int ((1 : Int) + (d : Int)) = vI (1 + d) := by
    show V.int _ = V.int ((1 + d : Nat) : Int)
    congr 1
  dsimp only
  rw [en]
  have hn1 : 1 ≤ 1 + d := by omega
  have hn : 1 + d ≤ 6 := by omega
  generalize 1 + d = n at hn1 hn
  clear en
  refine q_raw (c_call (vs := [.ref p, vI n]) (ea_cons (ev_var rfl) (ea_cons (ev_var rfl) ea_nil)) fun H4 e4 => ⟨p, s, n, rfl, hs3.mono e4, hn1, hn, fun v T' H5 e5 hs5 hT5 hok => ?_⟩)
  refine q_asg ev_c fun H6 e6 => ?_
  have hs6 := hs5.mono e6
  have hT6 := hT5.mono e6
  clear e5 e4 e3 hs3 hs2 e2 hp e1 hd
  refine q_forswapL (c_call (vs := [vI n, vI 3]) (ea_cons (ev_var rfl) (ea_cons ev_c ea_nil)) fun H7 e7 => ⟨n, 3, rfl, hn, by decide, fun r1 c1 H8 hr1 e8 h8 k1 => ?_⟩)
  refine c_call (vs := [vI n, vI 4]) (ea_cons (ev_var rfl) (ea_cons ev_c ea_nil)) fun H9 e9 => ⟨n, 4, rfl, hn, by decide, fun r2 c2 H10 hr2 e10 h10 k2 => ?_⟩
  have hl1 := some_small n hn 3 (by decide)
  have hl2 := some_small n hn 4 (by decide)
  have hc1 := k1.1
  have hc2 := k2.1
  refine ⟨r1, r2, _, _, rfl, rfl, e10 _ _ (e9 _ _ h8), h10, by rw [List.length_map, List.length_map, sizeLine_eq]; omega, fun rl hrl => ?_⟩
  have e611 := e7.trans (e8.trans (e9.trans (e10.trans (Ex.new (o := .lst (c1.map V.ref ++ c2.map V.ref)) hrl))))
  have kk : CsAt (upd H10 rl (.lst (c1.map V.ref ++ c2.map V.ref))) (c1 ++ c2) (someL n 3 ++ someL n 4) := ((k1.mono (e9.trans e10)).append k2).mono (Ex.new hrl)
  have hrl' : upd H10 rl (.lst (c1.map V.ref ++ c2.map V.ref)) rl = some (.lst ((c1 ++ c2).map V.ref)) := by rw [upd_same, List.map_append]
  generalize upd H10 rl (.lst (c1.map V.ref ++ c2.map V.ref)) = H11 at e611 kk hrl'
  have hs11 := hs6.mono e611
  have hT11 := hT6.mono e611
  clear e611 hrl h10 k2 e10 hr2 e9 h8 k1 e8 hr1 e7 hT6 hs6 e6 hT5 hs5
  refine q_forLn (xs := (c1 ++ c2).map V.ref) ev_c (sq_of hrl') (fun i σ' H' => ∃ (b : Bool) (x5 x6 : Option V), σ' = [some (.ref a), some (.ref p), some (vI n), some v, some (.bl b), x5, x6, none, none, none, none, none, none] ∧ Ex H11 H' ∧ (b = true ↔ ∀ (j : Nat) (c : List Nat), j < i → (someL n 3 ++ someL n 4)[j]? = some c → NoFlaw c.length (partT T' c)))
    (fun H12 e12 => ⟨true, none, none, rfl, e12, fun _ j c hj => by omega, fun _ => rfl⟩) (fun i σ' H' _ ⟨_, _, _, _, e, _⟩ => sq_of (e _ _ hrl')) ?_ ?_
  · rintro i x σ' H12 hx ⟨b, x5, x6, rfl, e12, hb⟩
    rw [List.getElem?_map] at hx
    obtain ⟨ca, ha, rfl⟩ := Option.map_eq_some_iff.mp hx
    have hi : i < (someL n 3 ++ someL n 4).length := by rw [← kk.1]; exact (List.getElem?_eq_some_iff.mp ha).1
    have hci := List.getElem?_eq_getElem hi
    have hrow := kk.2 i ca _ ha hci
    generalize (someL n 3 ++ someL n 4)[i] = c at hci hrow
    obtain ⟨m, hm34, hch⟩ := chosen34 hn c (List.mem_of_getElem? hci)
    have hlen := hch.len
    have hpk := part_ok hok hch
    have hmm : 1 ≤ m ∧ m ≤ 6 := by omega
    refine q_raw (c_one (c_call (vs := [v, .ref ca]) (ea_cons (ev_var rfl) (ea_cons (ev_var rfl) ea_nil)) fun H13 e13 => ⟨v, ca, n, T', c, m, rfl, hT11.mono (e12.trans e13), hok, hn1, by omega, (e12.trans e13) _ _ hrow, hch, hmm.1, by omega, fun rp H14 e14 ht14 => ?_⟩))
    have e1214 := e12.trans (e13.trans e14)
    refine ⟨rp, m, partT T' c, rfl, ht14, hpk, hmm.1, hmm.2, fun nf H15 e15 => ?_, fun k fc pt H15 hf e15 hpt => ?_⟩
    · have hh : ¬ ((!decide (V.non = V.non)) = true) := by simp
      refine ⟨_, rfl, rfl, _, rfl, ?_⟩
      refine ch_f hh ?_
      refine ⟨b, _, _, rfl, e1214.trans e15, ?_⟩
      rw [hb]
      constructor
      · intro h j c' hj hc'
        by_cases hji : j = i
        · subst hji
          rw [hci] at hc'; cases hc'
          rw [hlen]; exact nf
        · exact h j c' (by omega) hc'
      · exact fun h j c' hj hc' => h j c' (by omega) hc'
    · have hh : (!decide (V.ref pt = V.non)) = true := by simp
      refine ⟨_, rfl, rfl, _, rfl, ?_⟩
      refine ch_t hh ?_
      refine q_asg ev_c fun H16 e16 => ?_
      have e16' := e1214.trans (e15.trans e16)
      have hpt16 := e16 _ _ hpt
      have hfl := hf.len
      have hfc : fc ≠ [] := by
        rintro rfl
        cases k <;> simp at hfl
      have hf5 : fc.length ≤ 4 := by rw [hfl]; split <;> omega
      have hfu := flaw_up hch hf
      obtain ⟨_, hfm, _⟩ := id hf
      refine ⟨_, rfl, ?_⟩
      refine eu_head (ev_var rfl) hpt16 (fun z => hfc (by unfold natsV at z; exact List.map_eq_nil_iff.mp z)) H16 (Ex.refl _) _ fun q1 H17 hq1 e17 h17 => ?_
      refine e_cb1 (lc_swapT (K := K) (eu_tail (ev_var rfl) (e17 _ _ hpt16) H17 (Ex.refl _) _ fun q2 H18 hq2 e18 h18 => ?_))
      have e1618 := e17.trans e18
      refine lcT (K := K) (tl := tC (.ref q2)) (xs := natsV fc) (fun _ => true) (fun _ i v _ => v = vI (at_ c (at_ fc i))) ev_c (st_of h18) (by rw [natsV_len]; omega) (fun _ => rfl) (fun _ _ => stays_val (g := fun i => vI (at_ c (at_ fc i)))) (fun _ _ _ _ _ => et_yes)
        (fun j y D H19 zs e19 _ _ hy _ => ?_) (fun D ys H19 hD e19 h19 gv => ?_)
      · obtain ⟨hj, rfl⟩ := natsV_at hy
        exact Ev.p (ev_ixN (ev_var rfl) rfl (ev_var rfl) ((e16'.trans (e1618.trans e19)) _ _ hrow) (by rw [hlen]; exact hfm _ (at_mem hj)))
      · rw [natsV_len, filter_all] at gv
        have ey : ys = natsV (fc.map (at_ c)) := by
          rw [gv.eq (g := fun i => vI (at_ c (at_ fc i))) (fun _ _ h => h)]
          have q3 := filt_at fc fun _ => true
          have q4 : (List.range fc.length).map (fun i => at_ fc i) = fc := by
            apply List.ext_getElem?
            intro t
            by_cases ht : t < fc.length
            · simp [ht, at_]
            · rw [List.getElem?_eq_none (by simp; omega), List.getElem?_eq_none (by omega)]
          unfold natsV
          conv => rhs; rw [← q4]
          rw [List.map_map, List.map_map]
          rfl
        subst ey
        refine ⟨D, _, rfl, .inl ⟨sq_of h19, fun t ht => ?_⟩⟩
        have e20 := Ex.new (o := .tup (natsV (fc.map (at_ c)))) ht
        have hl3 : (natsV (fc.map (at_ c))).length = fc.length := by rw [natsV_len, List.length_map]
        refine ⟨q1, t, [.str (kS k)], natsV (fc.map (at_ c)), rfl, rfl, st_of (e20 _ _ (e19 _ _ (e18 _ _ h17))), st_of upd_same, by rw [hl3, sizeLine_eq]; simp; omega, (fun z => nomatch z), (fun _ z => ?_), fun _ _ pp hpp => ?_⟩
        · rw [z] at hl3
          exact absurd (List.eq_nil_of_length_eq_zero hl3.symm) hfc
        have e21 := e20.trans (Ex.new (o := .tup ([.str (kS k)] ++ natsV (fc.map (at_ c)))) hpp)
        have e1221 := e16'.trans (e1618.trans (e19.trans e21))
        refine ⟨v, pp, n, T', k, fc.map (at_ c), rfl, hT11.mono e1221, hok, hn1, by omega, upd_same, hfu, fun H22 e22 => ?_⟩
        have hh2 : ¬ ((!decide (true = true)) = true) := by simp
        refine ⟨true, true, rfl, rfl, _, rfl, ?_⟩
        refine ch_f hh2 ?_
        refine ⟨false, _, _, rfl, e1221.trans e22, ?_⟩
        constructor
        · intro z; cases z
        · intro h
          exact absurd (hlen ▸ h i c (by omega) hci) hf.no
  · rintro σ' H12 ⟨b, x5, x6, rfl, e12, hb⟩
    have hbn : b = true ↔ NoFlaw n T' := by
      rw [hb, parts_tell hn]
      constructor
      · intro h c hc
        obtain ⟨j, hj⟩ := List.getElem?_of_mem hc
        exact h j c (by rw [List.length_map, kk.1]; exact (List.getElem?_eq_some_iff.mp hj).1) hj
      · exact fun h j c _ hc => h c (List.mem_of_getElem? hc)
    have hs12 := hs11.mono e12
    have hT12 := hT11.mono e12
    refine q_ifR (P := fun σ' H' => σ' = [some (.ref a), some (.ref p), some (vI n), some v, some (.bl b), x5, x6, none, none, none, none, none, none] ∧ Ex H12 H') (fun rest => ?_) ?_
    · refine c_call (vs := [v]) (ea_cons (ev_var rfl) ea_nil) fun H13 e13 => ⟨v, n, T', rfl, hT12.mono e13, hok, hn1, hn, fun nf v' H14 e14 hv => ⟨rfl, _, rfl, rfl, _, rfl, ?_⟩, fun nf H14 e14 => ⟨rfl, _, rfl, rfl, _, rfl, ?_⟩⟩
      · have hb1 := hbn.mpr nf
        have hh : ¬ ((!decide (V.bl (!decide (v' = V.non)) = V.bl b)) = true) := by simp [hb1, hv]
        refine ch_f hh ?_
        exact rest _ _ ⟨rfl, e13.trans e14⟩
      · have hb1 : b = false := by
          cases b with
          | false => rfl
          | true => exact absurd (hbn.mp rfl) nf
        have hh : ¬ ((!decide (V.bl (!decide (V.non = V.non)) = V.bl b)) = true) := by simp [hb1]
        refine ch_f hh ?_
        exact rest _ _ ⟨rfl, e13.trans e14⟩
    · rintro σ' H13 ⟨rfl, e13⟩
      have hs13 := hs12.mono e13
      have hT13 := hT12.mono e13
      refine q_raw (c_call (vs := [.ref p, vI n]) (ea_cons (ev_var rfl) (ea_cons (ev_var rfl) ea_nil)) fun H14 e14 => ⟨p, s, n, rfl, hs13.mono e14, hn, fun ro l H15 hro e15 hs15 h15 pm => ?_⟩)
      have hT15 := e15.tab (hs13.mono e14) (hT13.mono e14)
      obtain ⟨ok2, nf2⟩ := turn_ok pm hok
      have nd : l.Nodup := pm.nodup_iff.mpr List.nodup_range
      have hl : l.length = n := by rw [pm.length_eq, List.length_range]
      have mem : ∀ i, i < n → i ∈ l := fun i hi => pm.mem_iff.mpr (List.mem_range.mpr hi)
      refine q_raw (lcR (fun _ => true) (fun _ i v _ => v = vI (bk l i)) (ea_cons (ev_var rfl) ea_nil) (by omega) (fun _ => rfl) (fun _ _ => stays_val (g := fun i => vI (bk l i))) (fun _ _ _ _ => et_yes) (fun i D H16 zs e16 _ _ hi _ H17 e17 Q17 q17 => ?_) (fun D ys H16 hD e16 h16 gv => ?_))
      · have h17 := e17 _ _ (e16 _ _ h15)
        have hbl := bk_lt (mem i hi)
        have hget : l[bk l i]? = some i := by rw [List.getElem?_eq_getElem hbl, bk_at (mem i hi)]
        refine ⟨_, rfl, .inl ⟨rfl, _, sq_of h17⟩, _, rfl, ro, natsV l, vI i, bk l i, vI i, rfl, rfl, sq_of h17, rfl, flat_nats _, natsV_get hget, ?_, fun t z' ht hz => ?_, q17 _ _ (Ex.refl _) rfl⟩
        · show ((i : Int) == (i : Int)) = true
          simp
        · obtain ⟨htl, rfl⟩ := natsV_at hz
          have := bk_first nd (mem i hi) ht (by rw [List.getElem?_eq_getElem htl, ← at_eq htl])
          show ((at_ l t : Int) == (i : Int)) = false
          rw [beq_eq_false_iff_ne]
          omega
      rw [filter_all] at gv
      have ey : ys = (List.range n).map fun i => vI (bk l i) := gv.eq (g := fun i => vI (bk l i)) fun _ _ h => h
      subst ey
      have hT16 := hT15.mono e16
      have evb : ∀ {te : TE} {σ0 : L2.St} {H0 : Hp} {j i : Nat}, Ex H16 H0 → i < n → σ0[9]? = some (some (V.ref D)) → Ev te σ0 H0 (vI i) → Ev (tOp (rIxL K) (tVar 9) te) σ0 H0 (vI (bk l i)) := fun {te σ0 H0 j i} e hi h9 hte => ev_ixLV (k := i) (ev_var h9) rfl hte (e _ _ h16) (by simp [hi])
      have blt : ∀ i, i < n → bk l i < n := fun i hi => by
        have := bk_lt (mem i hi)
        omega
      refine q_raw (e_cb1 (lcR (fun _ => true) (IsTupP fun i => rowV n fun j => T' (bk l i) (bk l j)) (ea_cons (ev_var rfl) ea_nil) (by omega) (fun _ => rfl) (fun _ _ => stays_tup) (fun _ _ _ _ => et_yes) (fun i D2 H17 zs e17 _ _ hi _ H18 e18 Q18 q18 => ?_) (fun D2 ys2 H17 hD2 e17 h17 g17 => ?_)))
      · refine e_cb1 (lcR (fun _ => true) (fun _ j v _ => v = vR (T' (bk l i) (bk l j))) (ea_cons (ev_var rfl) ea_nil) (by omega) (fun _ => rfl) (fun _ _ => stays_val (g := fun j => vR (T' (bk l i) (bk l j)))) (fun _ _ _ _ => et_yes) (fun j D3 H19 zs3 e19 _ _ hj _ => ?_) (fun D3 ys3 H19 hD3 e19 h19 g19 => ?_))
        · have e1619 := e17.trans (e18.trans e19)
          exact Ev.p (ev_tab (hT16.mono e1619) (blt i hi) (blt j hj) (ev_var rfl) (evb (j := 0) e1619 hi rfl (ev_var rfl)) (evb (j := 0) e1619 hj rfl (ev_var rfl)))
        · rw [filter_all] at g19
          have e : ys3 = rowV n fun j => T' (bk l i) (bk l j) := g19.eq (fun _ _ h => h)
          subst e
          exact ⟨D3, _, rfl, .inl ⟨sq_of h19, fun t ht => q18 _ _ (e19.trans (Ex.new ht)) ⟨t, rfl, upd_same⟩⟩⟩
      rw [filter_all] at g17
      refine ⟨D2, _, rfl, .inl ⟨sq_of h17, fun t ht => ?_⟩⟩
      have hT2 : TabAt (upd H17 t (.tup ys2)) (.ref t) n (fun i j => T' (bk l i) (bk l j)) := tab_of upd_same (giv_upd g17 ht)
      refine r_raw (c_call (vs := [.ref t]) (ea_cons (ev_var rfl) ea_nil) fun H18 e18 => ⟨.ref t, n, _, rfl, hT2.mono e18, ok2, hn1, hn, fun nf v' H19 e19 hv => ⟨rfl, _, rfl, rfl, ?_⟩, fun nf H19 e19 => ⟨rfl, _, rfl, rfl, ?_⟩⟩)
      · have hb1 := hbn.mpr (nf2.mp nf)
        have hh : decide (V.bl (!decide (v' = V.non)) = V.bl b) = true := by simp [hb1, hv]
        rw [hh]
        exact q _
      · have hb1 : b = false := by
          cases b with
          | false => rfl
          | true => exact absurd (nf2.mpr (hbn.mp rfl)) nf
        have hh : decide (V.bl (!decide (V.non = V.non)) = V.bl b) = true := by simp [hb1]
        rw [hh]
        exact q _
end K15
set_option Elab.async false
set_option linter.all false
set_option maxRecDepth 100000
/-! K15: all together -/
namespace K15
open PySem PySem.Spec PyProof.Rows L2
theorem tx_of {K : PySem.W.Frag} {w : World} {h : Heap} {mg : Str → Option Value} (X : K.In h) (G : h.Ns mainGlobals mg) (c : He.SaysX fa fn ts [] exK w h K) : ∃ F : Nat → FuncData, Tx K w mg F := by
  have cd := c.t.d
  obtain ⟨f5, F5⟩ := cd.def_ 0 (d := d_all_tasks) rfl
  obtain ⟨f6, F6⟩ := cd.def_ 1 (d := d_least_task) rfl
  obtain ⟨f7, F7⟩ := cd.def_ 2 (d := d_normal_of) rfl
  obtain ⟨f11, F11⟩ := cd.def_ 3 (d := d_is_integer) rfl
  obtain ⟨f12, F12⟩ := cd.def_ 4 (d := d_opposite) rfl
  obtain ⟨f13, F13⟩ := cd.def_ 5 (d := d_is_line) rfl
  obtain ⟨f14, F14⟩ := cd.def_ 6 (d := d_fits) rfl
  obtain ⟨f15, F15⟩ := cd.def_ 7 (d := d_check_table) rfl
  obtain ⟨f16, F16⟩ := cd.def_ 8 (d := d_is_chosen) rfl
  obtain ⟨f17, F17⟩ := cd.def_ 9 (d := d_part_in) rfl
  obtain ⟨f18, F18⟩ := cd.def_ 10 (d := d_part) rfl
  obtain ⟨f20, F20⟩ := cd.def_ 11 (d := d_is_gap) rfl
  obtain ⟨f21, F21⟩ := cd.def_ 12 (d := d_is_n) rfl
  obtain ⟨f22, F22⟩ := cd.def_ 13 (d := d_flaw_in) rfl
  obtain ⟨f23, F23⟩ := cd.def_ 14 (d := d_flaw) rfl
  obtain ⟨f24, F24⟩ := cd.def_ 15 (d := d_are_different) rfl
  obtain ⟨f25, F25⟩ := cd.def_ 16 (d := d_shows_flaw) rfl
  obtain ⟨f26, F26⟩ := cd.def_ 17 (d := d_reached) rfl
  obtain ⟨f27, F27⟩ := cd.def_ 18 (d := d_parts_by) rfl
  obtain ⟨f28, F28⟩ := cd.def_ 19 (d := d_built) rfl
  obtain ⟨f29, F29⟩ := cd.def_ 20 (d := d_plan_in) rfl
  obtain ⟨f30, F30⟩ := cd.def_ 21 (d := d_plan_of) rfl
  obtain ⟨f32, F32⟩ := cd.def_ 22 (d := d_law_stream) rfl
  obtain ⟨f33, F33⟩ := cd.def_ 23 (d := d_law_next) rfl
  obtain ⟨f36, F36⟩ := cd.def_ 24 (d := d_law_shuffled) rfl
  obtain ⟨f37, F37⟩ := cd.def_ 25 (d := d_law_joined) rfl
  obtain ⟨f38, F38⟩ := cd.def_ 26 (d := d_law_plan) rfl
  obtain ⟨f39, F39⟩ := cd.def_ 27 (d := d_law_tasks) rfl
  obtain ⟨f40, F40⟩ := cd.def_ 28 (d := d_law_relation) rfl
  obtain ⟨f41, F41⟩ := cd.def_ 29 (d := d_law_table) rfl
  obtain ⟨f43, F43⟩ := cd.def_ 30 (d := d_law_opposite) rfl
  obtain ⟨f44, F44⟩ := cd.def_ 31 (d := d_law_drawn_table) rfl
  obtain ⟨f45, F45⟩ := cd.def_ 32 (d := d_law_some_table) rfl
  obtain ⟨f46, F46⟩ := cd.def_ 33 (d := d_law_some) rfl
  obtain ⟨f47, F47⟩ := cd.def_ 34 (d := d_law) rfl
  have hm := Bool.and_eq_true_iff.mp c.more
  refine ⟨fun | 5 => f5 | 6 => f6 | 7 => f7 | 11 => f11 | 12 => f12 | 13 => f13 | 14 => f14 | 15 => f15 | 16 => f16 | 17 => f17 | 18 => f18 | 20 => f20 | 21 => f21 | 22 => f22 | 23 => f23 | 24 => f24 | 25 => f25 | 26 => f26 | 27 => f27 | 28 => f28 | 29 => f29 | 30 => f30 | 32 => f32 | 33 => f33 | 36 => f36 | 37 => f37 | 38 => f38 | 39 => f39 | 40 => f40 | 41 => f41 | 43 => f43 | 44 => f44 | 45 => f45 | 46 => f46 | 47 => f47 | _ => f5, ?_⟩
  exact {
    d_all_tasks := F5
    m_all_tasks := He.glo_ok X G (cd.fact 0 (f := .glo "all_tasks") rfl)
    d_least_task := F6
    m_least_task := He.glo_ok X G (cd.fact 1 (f := .glo "least_task") rfl)
    d_normal_of := F7
    m_normal_of := He.glo_ok X G (cd.fact 2 (f := .glo "normal_of") rfl)
    d_is_integer := F11
    m_is_integer := He.glo_ok X G (cd.fact 3 (f := .glo "is_integer") rfl)
    d_opposite := F12
    m_opposite := He.glo_ok X G (cd.fact 4 (f := .glo "opposite") rfl)
    d_is_line := F13
    m_is_line := He.glo_ok X G (cd.fact 5 (f := .glo "is_line") rfl)
    d_fits := F14
    m_fits := He.glo_ok X G (cd.fact 6 (f := .glo "fits") rfl)
    d_check_table := F15
    m_check_table := He.glo_ok X G (cd.fact 7 (f := .glo "check_table") rfl)
    d_is_chosen := F16
    m_is_chosen := He.glo_ok X G (cd.fact 8 (f := .glo "is_chosen") rfl)
    d_part_in := F17
    m_part_in := He.glo_ok X G (cd.fact 9 (f := .glo "part_in") rfl)
    d_part := F18
    m_part := He.glo_ok X G (cd.fact 10 (f := .glo "part") rfl)
    d_is_gap := F20
    m_is_gap := He.glo_ok X G (cd.fact 11 (f := .glo "is_gap") rfl)
    d_is_n := F21
    m_is_n := He.glo_ok X G (cd.fact 12 (f := .glo "is_n") rfl)
    d_flaw_in := F22
    m_flaw_in := He.glo_ok X G (cd.fact 13 (f := .glo "flaw_in") rfl)
    d_flaw := F23
    m_flaw := He.glo_ok X G (cd.fact 14 (f := .glo "flaw") rfl)
    d_are_different := F24
    m_are_different := He.glo_ok X G (cd.fact 15 (f := .glo "are_different") rfl)
    d_shows_flaw := F25
    m_shows_flaw := He.glo_ok X G (cd.fact 16 (f := .glo "shows_flaw") rfl)
    d_reached := F26
    m_reached := He.glo_ok X G (cd.fact 17 (f := .glo "reached") rfl)
    d_parts_by := F27
    m_parts_by := He.glo_ok X G (cd.fact 18 (f := .glo "parts_by") rfl)
    d_built := F28
    m_built := He.glo_ok X G (cd.fact 19 (f := .glo "built") rfl)
    d_plan_in := F29
    m_plan_in := He.glo_ok X G (cd.fact 20 (f := .glo "plan_in") rfl)
    d_plan_of := F30
    m_plan_of := He.glo_ok X G (cd.fact 21 (f := .glo "plan_of") rfl)
    d_law_stream := F32
    m_law_stream := He.glo_ok X G (cd.fact 22 (f := .glo "_law_stream") rfl)
    d_law_next := F33
    m_law_next := He.glo_ok X G (cd.fact 23 (f := .glo "_law_next") rfl)
    d_law_shuffled := F36
    m_law_shuffled := He.glo_ok X G (cd.fact 24 (f := .glo "_law_shuffled") rfl)
    d_law_joined := F37
    m_law_joined := He.glo_ok X G (cd.fact 25 (f := .glo "_law_joined") rfl)
    d_law_plan := F38
    m_law_plan := He.glo_ok X G (cd.fact 26 (f := .glo "_law_plan") rfl)
    d_law_tasks := F39
    m_law_tasks := He.glo_ok X G (cd.fact 27 (f := .glo "_law_tasks") rfl)
    d_law_relation := F40
    m_law_relation := He.glo_ok X G (cd.fact 28 (f := .glo "_law_relation") rfl)
    d_law_table := F41
    m_law_table := He.glo_ok X G (cd.fact 29 (f := .glo "_law_table") rfl)
    d_law_opposite := F43
    m_law_opposite := He.glo_ok X G (cd.fact 30 (f := .glo "_law_opposite") rfl)
    d_law_drawn_table := F44
    m_law_drawn_table := He.glo_ok X G (cd.fact 31 (f := .glo "_law_drawn_table") rfl)
    d_law_some_table := F45
    m_law_some_table := He.glo_ok X G (cd.fact 32 (f := .glo "_law_some_table") rfl)
    d_law_some := F46
    m_law_some := He.glo_ok X G (cd.fact 33 (f := .glo "_law_some") rfl)
    d_law := F47
    m_law := He.glo_ok X G (cd.fact 34 (f := .glo "law") rfl)
    z_isinstance := He.free_ok X G (cd.fact 35 (f := .free "isinstance") rfl)
    z_int := He.free_ok X G (cd.fact 36 (f := .free "int") rfl)
    z_bool := He.free_ok X G (cd.fact 37 (f := .free "bool") rfl)
    z_str := He.free_ok X G (cd.fact 38 (f := .free "str") rfl)
    z_tuple := He.free_ok X G (cd.fact 39 (f := .free "tuple") rfl)
    z_len := He.free_ok X G (cd.fact 40 (f := .free "len") rfl)
    z_range := He.free_ok X G (cd.fact 41 (f := .free "range") rfl)
    z_min := He.free_ok X G (cd.fact 42 (f := .free "min") rfl)
    z_sorted := He.free_ok X G (cd.fact 43 (f := .free "sorted") rfl)
    z_all := He.free_ok X G (cd.fact 44 (f := .free "all") rfl)
    z_list := He.free_ok X G (cd.fact 45 (f := .free "list") rfl)
    z_abs := He.free_ok X G (cd.fact 46 (f := .free "abs") rfl)
    mt := He.int_ok X G (cd.fact 47 (f := .int "MOST_TASKS" 7) rfl)
    m_OPPOSITES := He.glo_ok X G (cd.fact 48 (f := .glo "OPPOSITES") rfl)
    opd := c.t.tab 0 (t := (fun K => He.ga K "OPPOSITES", ["before", "beside", "after", "same"])) rfl
    opv := hm.2
    pm := PySem.W.mg_of X G (He.eqO_ok hm.1) }
theorem all_ok {P : Program} {w : World} {K : PySem.W.Frag} {mg : Str → Option Value} {base : Heap} {F : Nat → FuncData} (T : Tx K w mg F) : FnOk P w K mg base CX0 21 (He.ga K "law") (F 47) ["_law_script"] (spLaw K) := by
  have a1 := ok_is_gap (P := P) (base := base) T
  have a2 := ok_is_n (P := P) (base := base) T
  have a3 := ok_is_integer (P := P) (base := base) T
  have a4 := ok_opposite (P := P) (base := base) T
  have a5 := ok_is_line (P := P) (base := base) T
  have a6 := ok_fits T a5 a4
  have a7 := ok_check_table T a6
  have a8 := ok_is_chosen T a3
  have a9 := ok_part_in (P := P) (base := base) T
  have a10 := ok_part T a7 a8 a9
  have a11 := ok_are_different T a3
  have a12 := ok_shows_flaw T a7 a11 a1 a2
  have a13 := ok_flaw_in T a1 a2
  have a14 := ok_flaw T a7 a13
  have a15 := ok_reached (P := P) (base := base) T
  have a16 := ok_parts_by T a15
  have a17 := ok_all_tasks (P := P) (base := base) T 8
  have a18 := ok_least_task T a17
  have a19 := ok_normal_of T a18 6
  have a20 := ok_built T a16 6
  have a21 := ok_plan_in T a13 a20 a19
  have a22 := ok_plan_of T a7 a21
  have b1 := ok_law_stream (P := P) (base := base) T
  have b2 := ok_law_next (P := P) (base := base) T
  have b3 := ok_law_shuffled T b2
  have b4 := ok_law_joined (P := P) (base := base) T
  have b5 := ok_law_plan T b2 b3 b4
  have b6 := ok_law_tasks (P := P) (base := base) T 6
  have b7 := ok_law_relation T b6 6
  have b8 := ok_law_table T b6 b7
  have b9 := ok_law_opposite (P := P) (base := base) T
  have b10 := ok_law_drawn_table T b2 b9
  have b11 := ok_law_some_table T b2 b9 b10 b5 b8
  have b12 := ok_law_some (P := P) (base := base) T
  exact ok_law T b1 b2 b11 b12 a10 a14 a12 a22 b3
theorem facts {P : Program} {w : World} {K : PySem.W.Frag} {h : Heap} {mg : Str → Option Value} {f : Addr} (X : K.In h) (G : h.Ns mainGlobals mg) (hfa : mg ("law" : Str) = some (.ref f)) (c : He.SaysX fa fn ts [] exK w h K) :
    ∃ fd : FuncData, (∀ (s : Shared) (v : Value), BindsTo s fd ⟨[v], []⟩ [("_law_script", v)]) ∧ ∀ base : Heap, K.In base → base.Ns mainGlobals mg → FnOk P w K mg base CX0 21 f fd ["_law_script"] (spLaw K) := by
  obtain ⟨F, T⟩ := tx_of X G c
  have e := hfa.symm.trans T.m_law
  cases e
  have b := FunD.bindsA (ps := ["_law_script"]) T.d_law fun _ _ _ _ _ _ us hl => match us, hl with | [_], _ => rfl
  exact ⟨F 47, fun s v => b s [v] rfl, fun base _ _ => all_ok T⟩
end K15
open PySem PySem.W PySem.Calls PyProof.Rows
set_option maxHeartbeats 0 in
theorem PySem.Challenge.cw_thenbeside_k15_whole_small_parts_tell_holds : PySem.Challenge.rw_thenbeside_k15_whole_small_parts_tell.Holds := by
  w_on; o_law
  refine HandSHeadRun.head_imp (r := OpenLaw.row PySem.Challenge.rw_thenbeside_k15_whole_small_parts_tell) (q := view (OpenLaw.row PySem.Challenge.rw_thenbeside_k15_whole_small_parts_tell).prog [0, 47]) (H := K15.hk) (ob := K15.ob) (M := 20000) (loose := K15.names) (d := HandSHeadRun.topDef (OpenLaw.row PySem.Challenge.rw_thenbeside_k15_whole_small_parts_tell).prog 47) (kwd := []) K15.ob_eq
    K15.run (by kernel_rfl) (by kernel_rfl) (by kernel_rfl) (by rfl) (by first | assumption | decide +kernel) (by decide +kernel) ⟨rfl, rfl, rfl, rfl, rfl, by decide +kernel⟩ ?hw ?hc
  case hw => w_witness2
  case hc =>
    refine L2.walk_ofE (l := PySem.Challenge.rw_thenbeside_k15_whole_small_parts_tell) (n := 63) (k := 21) (x := "_law_script") (CX := L2.CX0) rfl (by decide) (by kernel_rfl) ⟨rfl, by decide, by decide⟩ ?F (fun _ _ _ _ z => z)
    intro w mg fa h Y G hmg0
    obtain ⟨K, KX, c⟩ := Y
    have hmg : mg ("law" : PySem.Str) = some (.ref fa) := by
      have e : (HandSHeadRun.topDef (OpenLaw.row PySem.Challenge.rw_thenbeside_k15_whole_small_parts_tell).prog 47).name = ("law" : PySem.Str) := by kernel_rfl
      rw [← e]
      exact hmg0
    obtain ⟨fd, hb, hF⟩ := K15.facts (P := (PySem.Challenge.rw_thenbeside_k15_whole_small_parts_tell).prog) (w := w) KX G hmg c
    exact ⟨K, fd, K15.spLaw K, KX, hb, fun H a ns hl _ hS => ⟨a, ns, rfl, hS, fun _ => rfl⟩, hF⟩
#print axioms PySem.Challenge.cw_thenbeside_k15_whole_small_parts_tell_holds
