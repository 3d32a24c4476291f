import PyProof.Rows.All
import Wide.All
import OpenK.AllK
import Wide.FinOn
import HandS.ForMost
import HandS.Evl
import HandS.Deep
import HandS.IsInst
import HandS.Zip
import HandS.Flow
import HandS.Conv
import HandS.Style
import HandS.TupAny
import HandS.NoneIn
import HandS.More
import HandS.SortOrd
import HandS.TupLe
import KE.GoesEnum
import KE.KDictDisplayH
import KE.KDictCopyH
import KE.KDictSum
import PySem.PyData
import HandS.DictComp
import HandS.Walk
import HandS.SortInts
import PySem.Challenge.RW_kepttogether_k59_whole_related_propertie
set_option Elab.async false
set_option linter.all false
set_option maxRecDepth 100000
set_option maxHeartbeats 5000000
/-! Immutable data (None, bools, ints, texts, tuples) at values; what evaluates to which data; statements and comprehensions by that. -/
namespace Kt
open PySem PySem.Spec PyProof.Rows L2
open Evl (Ex Ev EvT EvO)

/-! ### data at a value -/
mutual
inductive Dt (H : Hp) : V → PyData → Prop
  | non : Dt H .non .none
  | bl (b : Bool) : Dt H (.bl b) (.bool b)
  | int (i : Int) : Dt H (.int i) (.int i)
  | str (x : Str) : Dt H (.str x) (.str x)
  | tup {a : Addr} {xs : List V} {ds : List PyData} : H a = some (.tup xs) → DtAll H xs ds → Dt H (.ref a) (.tuple ds)
inductive DtAll (H : Hp) : List V → List PyData → Prop
  | nil : DtAll H [] []
  | cons {v : V} {vs : List V} {d : PyData} {ds : List PyData} : Dt H v d → DtAll H vs ds → DtAll H (v :: vs) (d :: ds)
end
/-- the tuples stay -/
def Tx (H H' : Hp) : Prop := ∀ a xs, H a = some (.tup xs) → H' a = some (.tup xs)
theorem Tx.refl (H : Hp) : Tx H H := fun _ _ h => h
theorem Tx.trans {H H1 H2 : Hp} (a : Tx H H1) (b : Tx H1 H2) : Tx H H2 := fun x xs h => b x xs (a x xs h)
theorem tx {H H' : Hp} (e : Ex H H') : Tx H H' := fun a xs h => e a _ h
/-- an object that is no tuple is changed -/
theorem Tx.upd {H : Hp} {p : Addr} {o u : HO} (h : H p = some u) (hn : ∀ xs, u ≠ .tup xs) : Tx H (upd H p o) := fun a xs e => by
  rw [upd_ne]
  · exact e
  · rintro rfl
    rw [h] at e
    exact hn xs (Option.some.inj e)
theorem Tx.new {H : Hp} {p : Addr} {o : HO} (h : H p = none) : Tx H (L2.upd H p o) := tx (Ex.new h)
mutual
theorem Dt.mono {H H' : Hp} (e : Tx H H') : ∀ {d : PyData} {v : V}, Dt H v d → Dt H' v d
  | _, _, .non => .non
  | _, _, .bl b => .bl b
  | _, _, .int i => .int i
  | _, _, .str x => .str x
  | _, _, .tup h hs => .tup (e _ _ h) (DtAll.mono e hs)
theorem DtAll.mono {H H' : Hp} (e : Tx H H') : ∀ {ds : List PyData} {vs : List V}, DtAll H vs ds → DtAll H' vs ds
  | _, _, .nil => .nil
  | _, _, .cons h hs => .cons (Dt.mono e h) (DtAll.mono e hs)
end
mutual
theorem Dt.dp {K : PySem.W.Frag} {H : Hp} : ∀ {d : PyData} {v : V}, Dt H v d → Dp K H v d
  | _, _, .non => .non
  | _, _, .bl b => .bl b
  | _, _, .int i => .int i
  | _, _, .str x => .str x
  | _, _, .tup h hs => .tup (SqT.of h) (DtAll.dp hs)
theorem DtAll.dp {K : PySem.W.Frag} {H : Hp} : ∀ {ds : List PyData} {vs : List V}, DtAll H vs ds → DpAll K H vs ds
  | _, _, .nil => .nil
  | _, _, .cons h hs => .cons (Dt.dp h) (DtAll.dp hs)
end
theorem DtAll.length {H : Hp} : ∀ {ds : List PyData} {vs : List V}, DtAll H vs ds → vs.length = ds.length
  | _, _, .nil => rfl
  | _, _, .cons _ hs => by simp [DtAll.length hs]
theorem DtAll.get {H : Hp} : ∀ {ds : List PyData} {vs : List V} {i : Nat} {d : PyData}, DtAll H vs ds → ds[i]? = some d → ∃ v, vs[i]? = some v ∧ Dt H v d
  | _, _, _, _, .nil, hn => by simp at hn
  | _, _, 0, _, .cons h _, e => ⟨_, rfl, by have := Option.some.inj e; subst this; exact h⟩
  | _, _, i + 1, d, .cons _ hs, e => by
    obtain ⟨v, h1, h2⟩ := DtAll.get (i := i) (d := d) hs (by simpa using e)
    exact ⟨v, by simpa using h1, h2⟩
theorem DtAll.getV {H : Hp} : ∀ {ds : List PyData} {vs : List V} {i : Nat} {v : V}, DtAll H vs ds → vs[i]? = some v → ∃ d, ds[i]? = some d ∧ Dt H v d
  | _, _, _, _, .nil, hn => by simp at hn
  | _, _, 0, _, .cons h _, e => ⟨_, rfl, by have := Option.some.inj e; subst this; exact h⟩
  | _, _, i + 1, d, .cons _ hs, e => by
    obtain ⟨v, h1, h2⟩ := DtAll.getV (i := i) hs (by simpa using e)
    exact ⟨v, by simpa using h1, h2⟩
theorem DtAll.append {H : Hp} : ∀ {ds es : List PyData} {vs ws : List V}, DtAll H vs ds → DtAll H ws es → DtAll H (vs ++ ws) (ds ++ es)
  | _, _, _, _, .nil, s => s
  | _, _, _, _, .cons h hs, s => .cons h (DtAll.append hs s)
theorem DtAll.drop {H : Hp} : ∀ {ds : List PyData} {vs : List V} (n : Nat), DtAll H vs ds → DtAll H (vs.drop n) (ds.drop n)
  | _, _, 0, h => h
  | _, _, _ + 1, .nil => .nil
  | _, _, n + 1, .cons _ hs => DtAll.drop n hs
theorem DtAll.take {H : Hp} : ∀ {ds : List PyData} {vs : List V} (n : Nat), DtAll H vs ds → DtAll H (vs.take n) (ds.take n)
  | _, _, 0, _ => .nil
  | _, _, _ + 1, .nil => .nil
  | _, _, n + 1, .cons h hs => .cons h (DtAll.take n hs)
theorem DtAll.reverse {H : Hp} {ds : List PyData} {vs : List V} (h : DtAll H vs ds) : DtAll H vs.reverse ds.reverse := by
  induction ds generalizing vs with
  | nil => cases h; exact .nil
  | cons d ds ih =>
    cases h with
    | cons h hs =>
      simp only [List.reverse_cons]
      exact (ih hs).append (.cons h .nil)
/-- the list of all is the one of each place -/
theorem DtAll.of_get {H : Hp} : ∀ {ds : List PyData} {vs : List V}, vs.length = ds.length → (∀ (i : Nat) (v : V) (d : PyData), vs[i]? = some v → ds[i]? = some d → Dt H v d) → DtAll H vs ds
  | [], [], _, _ => .nil
  | d :: ds, v :: vs, hl, h => .cons (h 0 v d rfl rfl) (DtAll.of_get (by simpa using hl) fun i v d e1 e2 => h (i + 1) v d (by simpa using e1) (by simpa using e2))
  | [], _ :: _, many, _ => by simp at many
  | _ :: _, [], many, _ => by simp at many

section
variable {H : Hp}
theorem Dt.int_inv {v : V} {i : Int} (h : Dt H v (.int i)) : v = .int i := by cases h; rfl
theorem Dt.str_inv {v : V} {x : Str} (h : Dt H v (.str x)) : v = .str x := by cases h; rfl
theorem Dt.bl_inv {v : V} {b : Bool} (h : Dt H v (.bool b)) : v = .bl b := by cases h; rfl
theorem Dt.non_inv {v : V} (h : Dt H v .none) : v = .non := by cases h; rfl
theorem Dt.tup_inv {v : V} {ds : List PyData} (h : Dt H v (.tuple ds)) : ∃ a xs, v = .ref a ∧ H a = some (.tup xs) ∧ DtAll H xs ds := by cases h with | tup h hs => exact ⟨_, _, rfl, h, hs⟩
theorem DtAll.ints {ns : List Int} : ∀ {vs : List V}, DtAll H vs (ns.map .int) → vs = ns.map V.int := by
  induction ns with
  | nil => intro vs h; cases h; rfl
  | cons n r ih => intro vs h; cases h with | cons h hs => rw [h.int_inv, ih hs]; rfl
theorem DtAll.bls {bs : List Bool} : ∀ {vs : List V}, DtAll H vs (bs.map .bool) → vs = bs.map V.bl := by
  induction bs with
  | nil => intro vs h; cases h; rfl
  | cons n r ih => intro vs h; cases h with | cons h hs => rw [h.bl_inv, ih hs]; rfl
theorem DtAll.of_ints : ∀ {ns : List Int}, DtAll H (ns.map V.int) (ns.map .int)
  | [] => .nil
  | _ :: _ => .cons (.int _) DtAll.of_ints
end

/-! ### what evaluates to which data -/
def EvD (te : TE) (σ : L2.St) (H : Hp) (d : PyData) : Prop := ∀ H1, Ex H H1 → ∀ Q : VK, (∀ v H2, Ex H1 H2 → Dt H2 v d → Q v H2) → te σ H1 Q
/-- some data of which P holds -/
def EvN (te : TE) (σ : L2.St) (H : Hp) (P : PyData → Prop) : Prop := ∀ H1, Ex H H1 → ∀ Q : VK, (∀ v d H2, P d → Ex H1 H2 → Dt H2 v d → Q v H2) → te σ H1 Q
/-- a new list -/
def EvS (te : TE) (σ : L2.St) (H : Hp) (ds : List PyData) : Prop := ∀ H1, Ex H H1 → ∀ Q : VK, (∀ p xs H2, H1 p = none → Ex H1 H2 → H2 p = some (.lst xs) → DtAll H2 xs ds → Q (.ref p) H2) → te σ H1 Q
def EvSN (te : TE) (σ : L2.St) (H : Hp) (P : List PyData → Prop) : Prop := ∀ H1, Ex H H1 → ∀ Q : VK, (∀ p xs ds H2, P ds → H1 p = none → Ex H1 H2 → H2 p = some (.lst xs) → DtAll H2 xs ds → Q (.ref p) H2) → te σ H1 Q
/-- arguments -/
def EvA (ta : TA) (σ : L2.St) (H : Hp) (ds : List PyData) : Prop := ∀ H1, Ex H H1 → ∀ Q : List V → Hp → Prop, (∀ vs H2, Ex H1 H2 → DtAll H2 vs ds → Q vs H2) → ta σ H1 Q
section
variable {K : PySem.W.Frag} {σ : L2.St} {H H' : Hp} {ta tb tc te tx : TE} {t u : TT} {d d1 d2 : PyData} {ds : List PyData} {x y z v : V}
theorem EvD.mono (e : Ex H H') (h : EvD te σ H d) : EvD te σ H' d := fun H1 a Q q => h H1 (e.trans a) Q q
theorem EvD.toN {P : PyData → Prop} (h : EvD te σ H d) (p : P d) : EvN te σ H P := fun H1 e Q q => h H1 e Q fun v H2 e2 hd => q v d H2 p e2 hd
theorem EvD.is (h : EvD te σ H d) (e : d = d1) : EvD te σ H d1 := e ▸ h
theorem EvS.toN {P : List PyData → Prop} (h : EvS te σ H ds) (p : P ds) : EvSN te σ H P := fun H1 e Q q => h H1 e Q fun a xs H2 hp e2 h2 hd => q a xs ds H2 p hp e2 h2 hd
theorem EvS.is {es : List PyData} (h : EvS te σ H ds) (e : ds = es) : EvS te σ H es := e ▸ h
theorem xvar {i : Nat} (h : σ[i]? = some (some v)) (hd : Dt H v d) : EvD (tVar i) σ H d := fun H1 e _ q => ⟨v, h, q v H1 (Ex.refl H1) (hd.mono (tx e))⟩
theorem xint {i : Int} : EvD (tC (.int i)) σ H (.int i) := fun H1 _ _ q => q _ H1 (Ex.refl H1) (.int i)
theorem xstr {s : Str} : EvD (tC (.str s)) σ H (.str s) := fun H1 _ _ q => q _ H1 (Ex.refl H1) (.str s)
theorem xbl {b : Bool} : EvD (tC (.bl b)) σ H (.bool b) := fun H1 _ _ q => q _ H1 (Ex.refl H1) (.bl b)
theorem xnon : EvD (tC .non) σ H .none := fun H1 _ _ q => q _ H1 (Ex.refl H1) .non
theorem xanil : EvA tNil σ H [] := fun H1 _ _ q => q [] H1 (Ex.refl H1) .nil
theorem xacons {tr : TA} (h : EvD ta σ H d) (hr : EvA tr σ H ds) : EvA (tCons ta tr) σ H (d :: ds) := fun H1 e _ q =>
  h H1 e _ fun v H2 e2 hv => hr H2 (e.trans e2) _ fun vs H3 e3 hvs => q (v :: vs) H3 (e2.trans e3) (.cons (hv.mono (tx e3)) hvs)
theorem xtup {ta : TA} (h : EvA ta σ H ds) (hl : ds.length ≤ 100000) : EvD (tTup ta) σ H (.tuple ds) := fun H1 e _ q =>
  h H1 e _ fun vs H2 e2 hv => ⟨Evl.sz_of (by rw [hv.length]; exact hl), fun p hp => q _ _ (e2.trans (Ex.new hp)) (.tup upd_same (hv.mono (tx (Ex.new hp))))⟩
theorem xlst {ta : TA} (h : EvA ta σ H ds) (hl : ds.length ≤ 100000) : EvS (tLst ta) σ H ds := fun H1 e _ q =>
  h H1 e _ fun vs H2 e2 hv => ⟨Evl.sz_of (by rw [hv.length]; exact hl), fun p hp => q p vs _ (Evl.fresh_back e2 hp) (e2.trans (Ex.new hp)) upd_same (hv.mono (tx (Ex.new hp)))⟩
/-- ints -/
theorem xI0 {g : Int → Int → V} {i j : Int} (ha : EvD ta σ H (.int i)) (hb : EvD tb σ H (.int j)) (hg : ∀ H2, Dt H2 (g i j) d) : EvD (tOp (rI0 g) ta tb) σ H d := fun H1 e _ q =>
  ha H1 e _ fun x H2 e2 hx => hb H2 (e.trans e2) _ fun y H3 e3 hy => ⟨i, j, hx.int_inv, hy.int_inv, q _ H3 (e2.trans e3) (hg H3)⟩
theorem xadd {i j : Int} (ha : EvD ta σ H (.int i)) (hb : EvD tb σ H (.int j)) : EvD (tOp (rI0 fun i j => .int (i + j)) ta tb) σ H (.int (i + j)) := xI0 ha hb fun _ => .int _
theorem xsub {i j : Int} (ha : EvD ta σ H (.int i)) (hb : EvD tb σ H (.int j)) : EvD (tOp (rI0 fun i j => .int (i - j)) ta tb) σ H (.int (i - j)) := xI0 ha hb fun _ => .int _
theorem xlt {i j : Int} (ha : EvD ta σ H (.int i)) (hb : EvD tb σ H (.int j)) : EvD (tOp (rI0 fun i j => .bl (decide (i < j))) ta tb) σ H (.bool (decide (i < j))) := xI0 ha hb fun _ => .bl _
theorem xgt {i j : Int} (ha : EvD ta σ H (.int i)) (hb : EvD tb σ H (.int j)) : EvD (tOp (rI0 fun i j => .bl (decide (j < i))) ta tb) σ H (.bool (decide (j < i))) := xI0 ha hb fun _ => .bl _
theorem xneg {i : Int} (ha : EvD ta σ H (.int i)) : EvD (tUn (rU fun i => .int (-i)) ta) σ H (.int (-i)) := fun H1 e _ q => ha H1 e _ fun x H2 e2 hx => ⟨i, hx.int_inv, q _ H2 e2 (.int _)⟩
/-- == and != of ints, of texts -/
theorem xeqI {i j : Int} (ha : EvD ta σ H (.int i)) (hb : EvD tb σ H (.int j)) : EvD (tOp rEq ta tb) σ H (.bool (decide (i = j))) := fun H1 e _ q =>
  ha H1 e _ fun x H2 e2 hx => hb H2 (e.trans e2) _ fun y H3 e3 hy => by
    rw [hx.int_inv, hy.int_inv]
    refine ⟨rfl, ?_⟩
    have z : decide (V.int i = V.int j) = decide (i = j) := by by_cases h : i = j <;> simp [h]
    rw [z]
    exact q _ H3 (e2.trans e3) (.bl _)
theorem xneI {i j : Int} (ha : EvD ta σ H (.int i)) (hb : EvD tb σ H (.int j)) : EvD (tOp rNe ta tb) σ H (.bool (!decide (i = j))) := fun H1 e _ q =>
  ha H1 e _ fun x H2 e2 hx => hb H2 (e.trans e2) _ fun y H3 e3 hy => by
    rw [hx.int_inv, hy.int_inv]
    refine ⟨rfl, ?_⟩
    have z : decide (V.int i = V.int j) = decide (i = j) := by by_cases h : i = j <;> simp [h]
    rw [z]
    exact q _ H3 (e2.trans e3) (.bl _)
theorem xeqS {i j : Str} (ha : EvD ta σ H (.str i)) (hb : EvD tb σ H (.str j)) : EvD (tOp rEq ta tb) σ H (.bool (decide (i = j))) := fun H1 e _ q =>
  ha H1 e _ fun x H2 e2 hx => hb H2 (e.trans e2) _ fun y H3 e3 hy => by
    rw [hx.str_inv, hy.str_inv]
    refine ⟨rfl, ?_⟩
    have z : decide (V.str i = V.str j) = decide (i = j) := by by_cases h : i = j <;> simp [h]
    rw [z]
    exact q _ H3 (e2.trans e3) (.bl _)
theorem xneS {i j : Str} (ha : EvD ta σ H (.str i)) (hb : EvD tb σ H (.str j)) : EvD (tOp rNe ta tb) σ H (.bool (!decide (i = j))) := fun H1 e _ q =>
  ha H1 e _ fun x H2 e2 hx => hb H2 (e.trans e2) _ fun y H3 e3 hy => by
    rw [hx.str_inv, hy.str_inv]
    refine ⟨rfl, ?_⟩
    have z : decide (V.str i = V.str j) = decide (i = j) := by by_cases h : i = j <;> simp [h]
    rw [z]
    exact q _ H3 (e2.trans e3) (.bl _)
/-- t[i] -/
theorem xix {i : Int} (ha : EvD ta σ H (.tuple ds)) (hb : EvD tb σ H (.int i)) (h : atI ds i = some d) : EvD (tOp (rIxT K) ta tb) σ H d := fun H1 e _ q =>
  ha H1 e _ fun x H2 e2 hx => hb H2 (e.trans e2) _ fun y H3 e3 hy => by
    obtain ⟨a, xs, rfl, hh, hs⟩ := hx.tup_inv
    rw [hy.int_inv]
    obtain ⟨w, h1, h2⟩ : ∃ w, atI xs i = some w ∧ Dt H2 w d := by
      unfold atI at h ⊢
      rw [hs.length]
      cases hn : ixN ds.length i with
      | none => rw [hn] at h; cases h
      | some j =>
        rw [hn] at h
        exact hs.get (i := j) h
    exact ⟨a, xs, i, w, rfl, rfl, SqT.of (e3 a _ hh), h1, q w H3 (e2.trans e3) (h2.mono (tx e3))⟩
/-- is None, is not None -/
def isN : PyData → Bool
  | .none => true
  | _ => false
theorem Dt.isN {v : V} (h : Dt H v d) : decide (v = V.non) = Kt.isN d := by cases h <;> rfl
theorem xisN (ha : EvD ta σ H d) : EvD (tOp (fun x y H Q => y = .non ∧ Q (.bl (decide (x = .non))) H) ta (tC .non)) σ H (.bool (isN d)) := fun H1 e _ q =>
  ha H1 e _ fun x H2 e2 hx => by
    refine ⟨rfl, ?_⟩
    rw [hx.isN]
    exact q _ H2 e2 (.bl _)
theorem xnotN (ha : EvD ta σ H d) : EvD (tOp (fun x y H Q => y = .non ∧ Q (.bl (!decide (x = .non))) H) ta (tC .non)) σ H (.bool (!isN d)) := fun H1 e _ q =>
  ha H1 e _ fun x H2 e2 hx => by
    refine ⟨rfl, ?_⟩
    rw [hx.isN]
    exact q _ H2 e2 (.bl _)
/-- bools -/
theorem xand {a b : Bool} (h1 : EvD ta σ H (.bool a)) (h2 : a = true → EvD tb σ H (.bool b)) : EvD (tAndV ta tb) σ H (.bool (a && b)) := fun H1 e Q q => h1 H1 e _ fun x H2 e2 hx => ⟨a, hx.bl_inv, by
  cases a with
  | true =>
    show tb σ H2 Q
    exact h2 rfl H2 (e.trans e2) Q fun v H3 e3 hv => q v H3 (e2.trans e3) hv
  | false =>
    show Q (.bl false) H2
    exact q _ H2 e2 (.bl _)⟩
theorem xor {a b : Bool} (h1 : EvD ta σ H (.bool a)) (h2 : a = false → EvD tb σ H (.bool b)) : EvD (tOrV ta tb) σ H (.bool (a || b)) := fun H1 e Q q => h1 H1 e _ fun x H2 e2 hx => ⟨a, hx.bl_inv, by
  cases a with
  | true =>
    show Q (.bl true) H2
    exact q _ H2 e2 (.bl _)
  | false =>
    show tb σ H2 Q
    exact h2 rfl H2 (e.trans e2) Q fun v H3 e3 hv => q v H3 (e2.trans e3) hv⟩
theorem xnot {a : Bool} (h1 : EvD ta σ H (.bool a)) : EvD (tNotV ta) σ H (.bool (!a)) := fun H1 e _ q => h1 H1 e _ fun x H2 e2 hx => ⟨a, hx.bl_inv, q _ H2 e2 (.bl _)⟩
theorem xchain {r r' : R2} {i j k : Int} (ha : EvD ta σ H (.int i)) (hb : EvD tb σ H (.int j)) (hc : EvD tc σ H (.int k)) (hr : r = rI0 fun i j => .bl (decide (i ≤ j))) (hr' : r' = rI0 fun i j => .bl (decide (i ≤ j))) :
    EvD (tChain r r' ta tb tc) σ H (.bool (decide (i ≤ j) && decide (j ≤ k))) := fun H1 e Q q => by
  subst hr hr'
  refine ha H1 e _ fun x H2 e2 hx => hb H2 (e.trans e2) _ fun y H3 e3 hy => ?_
  rw [hx.int_inv, hy.int_inv]
  refine ⟨i, j, rfl, rfl, decide (i ≤ j), rfl, ?_⟩
  cases hd : decide (i ≤ j) with
  | false =>
    show Q (.bl false) H3
    rw [hd] at q
    exact q _ H3 (e2.trans e3) (.bl _)
  | true =>
    show tc σ H3 _
    rw [hd] at q
    refine hc H3 ((e.trans e2).trans e3) _ fun w H4 e4 hw => ?_
    rw [hw.int_inv]
    exact ⟨j, k, rfl, rfl, q _ H4 ((e2.trans e3).trans e4) (.bl _)⟩
/-- a if t else b -/
theorem xif {b : Bool} (h : EvT t σ H b) (h1 : b = true → EvD ta σ H d) (h2 : b = false → EvD tb σ H d) : EvD (tIf t ta tb) σ H d := fun H1 e Q q => h H1 e _ fun H2 e2 => by
  cases b with
  | true =>
    show ta σ H2 Q
    exact h1 rfl H2 (e.trans e2) Q fun v H3 e3 hv => q v H3 (e2.trans e3) hv
  | false =>
    show tb σ H2 Q
    exact h2 rfl H2 (e.trans e2) Q fun v H3 e3 hv => q v H3 (e2.trans e3) hv
/-- tests -/
theorem xT {b : Bool} (h : EvD te σ H (.bool b)) : EvT (tTest te) σ H b := fun H1 e _ q => h H1 e _ fun v H2 e2 hv => ⟨b, hv.bl_inv, q H2 e2⟩
theorem xB {b : Bool} (h : EvD te σ H (.bool b)) : EvT (tB te) σ H b := fun H1 e _ q => h H1 e _ fun v H2 e2 hv => ⟨b, hv.bl_inv, q H2 e2⟩
/-- x in xs, ints, xs a tuple -/
theorem inV_int {i : Int} : ∀ {ns : List Int}, inV (.int i) (ns.map V.int) = decide (i ∈ ns)
  | [] => by simp [inV]
  | n :: r => by
    have ih := inV_int (i := i) (ns := r)
    unfold inV at ih ⊢
    rw [List.map_cons, List.any_cons, ih]
    by_cases h : n = i
    · subst h
      simp [eqV]
    · have h' : ¬ i = n := fun e => h e.symm
      simp [eqV, h, h']
theorem flat_ints : ∀ {ns : List Int}, (ns.map V.int).all flatV = true
  | [] => rfl
  | _ :: r => by rw [List.map_cons, List.all_cons, flat_ints (ns := r)]; rfl
theorem xin {neg : Bool} {i : Int} {ns : List Int} (ha : EvD ta σ H (.int i)) (hb : EvD tb σ H (.tuple (ns.map .int))) : EvD (tOp (rIn K neg) ta tb) σ H (.bool (if neg then !decide (i ∈ ns) else decide (i ∈ ns))) := fun H1 e _ q =>
  ha H1 e _ fun x H2 e2 hx => hb H2 (e.trans e2) _ fun y H3 e3 hy => by
    obtain ⟨a, xs, rfl, hh, hs⟩ := hy.tup_inv
    rw [hx.int_inv]
    rw [hs.ints] at hh
    refine ⟨a, ns.map V.int, rfl, .inr (SqT.of hh), rfl, flat_ints, ?_⟩
    rw [inV_int]
    exact q _ H3 (e2.trans e3) (.bl _)
/-- len of a tuple -/
theorem xlen (ha : EvD ta σ H (.tuple ds)) : EvD (tCB (fun xs H Q => ∃ p ys, xs = [V.ref p] ∧ (SqL K H p ys ∨ SqT K H p ys) ∧ Q (.int ys.length) H) (tCons ta tNil)) σ H (.int (ds.length : Int)) := fun H1 e _ q =>
  ha H1 e _ fun x H2 e2 hx => by
    obtain ⟨a, xs, rfl, hh, hs⟩ := hx.tup_inv
    refine ⟨a, xs, rfl, .inr (SqT.of hh), ?_⟩
    rw [hs.length]
    exact q _ H2 e2 (.int _)
/-- isinstance -/
def tyD : PyData → String
  | .none => "NoneType" | .bool _ => "bool" | .int _ => "int" | .str _ => "str" | .tuple _ => "tuple" | .list _ => "list" | .dict _ => "dict"
/-- all, any of a new list of bools; tuple of a new list -/
theorem xall {bs : List Bool} (h : EvS ta σ H (bs.map .bool)) : EvD (tCB (rAll K) (tCons ta tNil)) σ H (.bool (bs.all id)) := fun H1 e _ q =>
  h H1 e _ fun p xs H2 hp e2 h2 hd => ⟨p, bs, rfl, by rw [hd.bls] at h2; exact SqL.of h2, q _ H2 e2 (.bl _)⟩
theorem xany {bs : List Bool} (h : EvS ta σ H (bs.map .bool)) : EvD (tCB (rAny K) (tCons ta tNil)) σ H (.bool (bs.any id)) := fun H1 e _ q =>
  h H1 e _ fun p xs H2 hp e2 h2 hd => ⟨p, bs, rfl, by rw [hd.bls] at h2; exact SqL.of h2, q _ H2 e2 (.bl _)⟩
theorem xtupleOf (h : EvS ta σ H ds) : EvD (tCB (fun xs H Q => ∃ p ys, xs = [V.ref p] ∧ ((SqL K H p ys ∧ ∀ l, H l = none → Q (.ref l) (upd H l (.tup ys))) ∨ (SqT K H p ys ∧ Q (.ref p) H))) (tCons ta tNil)) σ H (.tuple ds) := fun H1 e _ q =>
  h H1 e _ fun p xs H2 hp e2 h2 hd => ⟨p, xs, rfl, .inl ⟨SqL.of h2, fun l hl => q _ _ (e2.trans (Ex.new hl)) (.tup upd_same (hd.mono (tx (Ex.new hl))))⟩⟩
theorem xcat {es : List PyData} (ha : EvS ta σ H ds) (hb : EvS tb σ H es) (hl : ds.length + es.length ≤ 100000) : EvS (tOp rCat ta tb) σ H (ds ++ es) := fun H1 e _ q =>
  ha H1 e _ fun p xs H2 hp e2 h2 hd => hb H2 (e.trans e2) _ fun p' ys H3 hp' e3 h3 hd' =>
    ⟨p, p', xs, ys, rfl, rfl, e3 p _ h2, h3, Evl.sz_of (by rw [hd.length, hd'.length]; exact hl), fun l hn => q l _ _ (Evl.fresh_back (e2.trans e3) hn) ((e2.trans e3).trans (Ex.new hn)) upd_same (((hd.mono (tx e3)).append hd').mono (tx (Ex.new hn)))⟩
/-- a list in a slot, + a new one -/
theorem xcatV {es : List PyData} {i : Nat} {p : Addr} {xs : List V} (hv : σ[i]? = some (some (.ref p))) (hp : H p = some (.lst xs)) (hd : DtAll H xs ds) (hb : EvS tb σ H es) (hl : ds.length + es.length ≤ 100000) : EvS (tOp rCat (tVar i) tb) σ H (ds ++ es) := fun H1 e _ q =>
  ⟨.ref p, hv, hb H1 e _ fun p' ys H3 hp' e3 h3 hd' =>
    ⟨p, p', xs, ys, rfl, rfl, e3 p _ (e p _ hp), h3, Evl.sz_of (by rw [hd.length, hd'.length]; exact hl), fun l hn => q l _ _ (Evl.fresh_back e3 hn) (e3.trans (Ex.new hn)) upd_same (((hd.mono (tx (e.trans e3))).append hd').mono (tx (Ex.new hn)))⟩⟩
end

/-! ### promises -/
/-- a def of data: from the arguments' data, some data of which P holds -/
def spN (R : List PyData → (PyData → Prop) → Prop) : Sp := fun vs H Q _ => ∃ ds P, DtAll H vs ds ∧ R ds P ∧ ∀ v d H', P d → Ex H H' → Dt H' v d → Q v H'
/-- .. some new list -/
def spL (R : List PyData → (List PyData → Prop) → Prop) : Sp := fun vs H Q _ => ∃ ds P, DtAll H vs ds ∧ R ds P ∧ ∀ p xs es H', P es → H p = none → Ex H H' → H' p = some (.lst xs) → DtAll H' xs es → Q (.ref p) H'
section
variable {K : PySem.W.Frag} {σ : L2.St} {H H' : Hp} {ta tb te : TE} {t : TT} {d : PyData} {ds : List PyData}
theorem xcallN {R : List PyData → (PyData → Prop) → Prop} {P : PyData → Prop} {E : XK} {ta : TA} (h : EvA ta σ H ds) (r : R ds P) : EvN (tCall (spN R) [] E ta) σ H P := fun H1 e Q q =>
  h H1 e _ fun vs H2 e2 hv => ⟨ds, P, by rw [List.append_nil]; exact hv, r, fun v d H3 p e3 hd => q v d H3 p (e2.trans e3) hd⟩
theorem EvN.one (h : EvN te σ H (· = d)) : EvD te σ H d := fun H1 e Q q => h H1 e Q fun v d' H2 p e2 hd => q v H2 e2 (p ▸ hd)
theorem xcall {R : List PyData → (PyData → Prop) → Prop} {E : XK} {ta : TA} (h : EvA ta σ H ds) (r : R ds (· = d)) : EvD (tCall (spN R) [] E ta) σ H d := (xcallN h r).one
theorem xcallL {R : List PyData → (List PyData → Prop) → Prop} {P : List PyData → Prop} {E : XK} {ta : TA} (h : EvA ta σ H ds) (r : R ds P) : EvSN (tCall (spL R) [] E ta) σ H P := fun H1 e Q q =>
  h H1 e _ fun vs H2 e2 hv => ⟨ds, P, by rw [List.append_nil]; exact hv, r, fun p xs es H3 hP hp e3 hx hd => q p xs es H3 hP (Evl.fresh_back e2 hp) (e2.trans e3) hx hd⟩

/-! ### statements -/
variable {D : Ends} {tu tw tz : TS} {g : TG}
theorem z_set {i : Nat} (h : EvD te σ H d) (k : ∀ v H1, Ex H H1 → Dt H1 v d → tz D (σ.set i (some v)) H1) : tSeq (tAsg te (gName i)) tz D σ H := h H (Ex.refl H) _ k
theorem z_setN {i : Nat} {P : PyData → Prop} (h : EvN te σ H P) (k : ∀ v d H1, P d → Ex H H1 → Dt H1 v d → tz D (σ.set i (some v)) H1) : tSeq (tAsg te (gName i)) tz D σ H := h H (Ex.refl H) _ k
theorem z_setS {i : Nat} (h : EvS te σ H ds) (k : ∀ p xs H1, H p = none → Ex H H1 → H1 p = some (.lst xs) → DtAll H1 xs ds → tz D (σ.set i (some (.ref p))) H1) : tSeq (tAsg te (gName i)) tz D σ H := h H (Ex.refl H) _ k
theorem z_setSN {i : Nat} {P : List PyData → Prop} (h : EvSN te σ H P) (k : ∀ p xs ds H1, P ds → H p = none → Ex H H1 → H1 p = some (.lst xs) → DtAll H1 xs ds → tz D (σ.set i (some (.ref p))) H1) : tSeq (tAsg te (gName i)) tz D σ H := h H (Ex.refl H) _ k
theorem e_set {i : Nat} (h : EvD te σ H d) (k : ∀ v H1, Ex H H1 → Dt H1 v d → D.nx (σ.set i (some v)) H1) : tAsg te (gName i) D σ H := h H (Ex.refl H) _ k
theorem e_setS {i : Nat} (h : EvS te σ H ds) (k : ∀ p xs H1, H p = none → Ex H H1 → H1 p = some (.lst xs) → DtAll H1 xs ds → D.nx (σ.set i (some (.ref p))) H1) : tAsg te (gName i) D σ H := h H (Ex.refl H) _ k
theorem e_ret (h : EvD te σ H d) (k : ∀ v H1, Ex H H1 → Dt H1 v d → D.rt v H1) : tRet te D σ H := h H (Ex.refl H) _ k
theorem e_retN {P : PyData → Prop} (h : EvN te σ H P) (k : ∀ v d H1, P d → Ex H H1 → Dt H1 v d → D.rt v H1) : tRet te D σ H := h H (Ex.refl H) _ k
theorem e_retS (h : EvS te σ H ds) (k : ∀ p xs H1, H p = none → Ex H H1 → H1 p = some (.lst xs) → DtAll H1 xs ds → D.rt (.ref p) H1) : tRet te D σ H := h H (Ex.refl H) _ k
theorem e_if {b : Bool} (h : EvT t σ H b) (h1 : b = true → ∀ H1, Ex H H1 → tu D σ H1) (h2 : b = false → ∀ H1, Ex H H1 → tw D σ H1) : tIfS t tu tw D σ H := Evl.s_if h h1 h2
theorem z_if {b : Bool} (h : EvT t σ H b) (h1 : b = true → ∀ H1, Ex H H1 → tu { D with nx := tz D } σ H1) (h2 : b = false → ∀ H1, Ex H H1 → tw { D with nx := tz D } σ H1) : tSeq (tIfS t tu tw) tz D σ H := Evl.s_if (D := { D with nx := tz D }) h h1 h2
/-- if test: leave, the test False here -/
theorem z_skip (h : EvT t σ H false) (k : ∀ H1, Ex H H1 → tz D σ H1) : tSeq (tIfS t tu tNext) tz D σ H := h H (Ex.refl H) _ fun H1 e => k H1 e

/-! ### comprehensions -/
/-- the list at L holds the data that the turns so far give; what stood stands -/
structure Cw (H : Hp) (L : Addr) (ds : List PyData) (H' : Hp) : Prop where
  new : H L = none
  ex : Ex H H'
  at_ : ∃ xs, H' L = some (.lst xs) ∧ DtAll H' xs ds
theorem Cw.start {H : Hp} {L : Addr} (h : H L = none) : Cw H L [] (upd H L (.lst [])) := ⟨h, Ex.new h, [], upd_same, .nil⟩
theorem Cw.put {H H' H2 : Hp} {L : Addr} {ds : List PyData} {y : V} (c : Cw H L ds H') (e : Ex H' H2) (hy : Dt H2 y d) (hl : ds.length < 100000) :
    ∃ acc, H2 L = some (.lst acc) ∧ acc.length < sizeLine ∧ Cw H L (ds ++ [d]) (upd H2 L (.lst (acc ++ [y]))) := by
  obtain ⟨n, ex, xs, hx, hd⟩ := c
  have h2 : H2 L = some (.lst xs) := e L _ hx
  have ht : Tx H2 (upd H2 L (.lst (xs ++ [y]))) := Tx.upd h2 fun _ z => nomatch z
  refine ⟨xs, h2, Evl.sz_lt (by rw [hd.length]; exact hl), n, (ex.trans e).mut n, _, upd_same, ?_⟩
  exact ((hd.mono (tx e)).mono ht).append (.cons (hy.mono ht) .nil)
/-- one turn -/
theorem cw_turn {L : Addr} {es : List PyData} {b : Bool} {dd : PyData} {Nx : Hp → Prop} (c : Cw H L es H') (hl : es.length < 100000) (ht : EvT t σ H b) (he : b = true → EvD te σ H dd)
    (k : ∀ H2, Cw H L (if b then es ++ [dd] else es) H2 → Nx H2) :
    t σ H' fun b H3 => if b = true then te σ H3 fun y H4 => ∃ acc, H4 L = some (.lst acc) ∧ acc.length < sizeLine ∧ Nx (upd H4 L (.lst (acc ++ [y]))) else Nx H3 := by
  refine ht H' c.ex _ fun H3 e3 => ?_
  cases b with
  | false =>
    show Nx H3
    refine k H3 ⟨c.new, c.ex.trans e3, ?_⟩
    obtain ⟨xs, hx, hd⟩ := c.at_
    exact ⟨xs, e3 L _ hx, hd.mono (tx e3)⟩
  | true =>
    show te σ H3 fun y H4 => ∃ acc, H4 L = some (.lst acc) ∧ acc.length < sizeLine ∧ Nx (upd H4 L (.lst (acc ++ [y])))
    refine he rfl H3 (c.ex.trans e3) _ fun y H4 e4 hy => ?_
    obtain ⟨acc, h1, h2, h3⟩ := c.put (e3.trans e4) hy hl
    exact ⟨acc, h1, h2, k _ h3⟩
/-- what the first i give -/
def giv (f : PyData → Bool) (g : PyData → PyData) (ds : List PyData) : List PyData := (ds.filter f).map g
theorem giv_len (f : PyData → Bool) (g : PyData → PyData) (ds : List PyData) : (giv f g ds).length ≤ ds.length := by
  unfold giv
  rw [List.length_map]
  exact List.length_filter_le _ _
theorem giv_snoc (f : PyData → Bool) (g : PyData → PyData) (ds : List PyData) (d : PyData) : giv f g (ds ++ [d]) = if f d then giv f g ds ++ [g d] else giv f g ds := by
  unfold giv
  rw [List.filter_append, List.map_append, List.filter_cons]
  by_cases h : f d = true
  · rw [if_pos h, if_pos h]; rfl
  · rw [if_neg h, if_neg h]
    show _ ++ [] = _
    rw [List.append_nil]
theorem take_snoc {α : Type} {l : List α} {i : Nat} {x : α} (h : l[i]? = some x) : l.take (i + 1) = l.take i ++ [x] := by
  rw [List.take_add_one, h]; rfl
theorem giv_all {f : PyData → Bool} (g : PyData → PyData) (ds : List PyData) (h : ∀ d ∈ ds, f d = true) : giv f g ds = ds.map g := by
  unfold giv
  rw [List.filter_eq_self.mpr h]
/-- [.. for x in t if ..], t a tuple -/
theorem xlcT {j : Nat} {vs : List Nat} (f : PyData → Bool) (g : PyData → PyData) (h : EvD ta σ H (.tuple ds)) (hl : ds.length ≤ 50000) (hw : ∀ x, wipe ((wipe σ vs).set j (some x)) vs = wipe σ vs)
    (ht : ∀ d v H1, d ∈ ds → Ex H H1 → Dt H1 v d → EvT t ((wipe σ vs).set j (some v)) H1 (f d)) (he : ∀ d v H1, d ∈ ds → Ex H H1 → Dt H1 v d → f d = true → EvD te ((wipe σ vs).set j (some v)) H1 (g d)) :
    EvS (tLc (iTup K ta) (gName j) t te vs) σ H (giv f g ds) := fun H0 e Q q => h H0 e _ fun x H1 e1 hx => by
  obtain ⟨a, xs, rfl, hh, hs⟩ := hx.tup_inv
  refine ⟨a, rfl, ⟨xs, SqT.of hh⟩, fun L hL => ?_⟩
  refine lc_tup (xs := xs) (fun i H' => Cw H1 L (giv f g (ds.take i)) H') (Cw.start hL) (fun i H' _ c => SqT.of (c.ex a _ hh)) (fun i x H' hi c => ⟨hw x, ?_⟩) fun H' c => ?_
  · obtain ⟨d, hd, hxd⟩ := hs.getV hi
    have hm : d ∈ ds := List.mem_of_getElem? hd
    have hlen : (giv f g (ds.take i)).length < 100000 := by
      have h1 := giv_len f g (ds.take i)
      have h2 : (ds.take i).length ≤ ds.length := by rw [List.length_take]; exact Nat.min_le_right _ _
      omega
    refine cw_turn (dd := g d) c hlen (ht d x H1 hm (e.trans e1) hxd) (fun hb => he d x H1 hm (e.trans e1) hxd hb) fun H2 c2 => ?_
    show Cw H1 L (giv f g (ds.take (i + 1))) H2
    rw [take_snoc hd, giv_snoc]
    exact c2
  · obtain ⟨n, ex, ys, hy, hd⟩ := c
    rw [List.take_of_length_le (by rw [hs.length] <;> exact Nat.le_refl _)] at hd
    exact q L ys H' (Evl.fresh_back e1 n) (e1.trans ex) hy hd
/-- .. over a new list -/
theorem xlcS {j : Nat} {vs : List Nat} (f : PyData → Bool) (g : PyData → PyData) (h : EvS ta σ H ds) (hl : ds.length ≤ 50000) (hw : ∀ x, wipe ((wipe σ vs).set j (some x)) vs = wipe σ vs)
    (ht : ∀ d v H1, d ∈ ds → Ex H H1 → Dt H1 v d → EvT t ((wipe σ vs).set j (some v)) H1 (f d)) (he : ∀ d v H1, d ∈ ds → Ex H H1 → Dt H1 v d → f d = true → EvD te ((wipe σ vs).set j (some v)) H1 (g d)) :
    EvS (tLc (iList K ta) (gName j) t te vs) σ H (giv f g ds) := fun H0 e Q q => h H0 e _ fun a xs H1 ha e1 hh hs => by
  refine ⟨a, rfl, ⟨xs, SqL.of hh⟩, fun L hL => ?_⟩
  refine lc_list (xs := xs) (fun i H' => Cw H1 L (giv f g (ds.take i)) H') (Cw.start hL) (fun i H' _ c => SqL.of (c.ex a _ hh)) (fun i x H' hi c => ⟨hw x, ?_⟩) fun H' c => ?_
  · obtain ⟨d, hd, hxd⟩ := hs.getV hi
    have hm : d ∈ ds := List.mem_of_getElem? hd
    have hlen : (giv f g (ds.take i)).length < 100000 := by
      have h1 := giv_len f g (ds.take i)
      have h2 : (ds.take i).length ≤ ds.length := by rw [List.length_take]; exact Nat.min_le_right _ _
      omega
    refine cw_turn (dd := g d) c hlen (ht d x H1 hm (e.trans e1) hxd) (fun hb => he d x H1 hm (e.trans e1) hxd hb) fun H2 c2 => ?_
    show Cw H1 L (giv f g (ds.take (i + 1))) H2
    rw [take_snoc hd, giv_snoc]
    exact c2
  · obtain ⟨n, ex, ys, hy, hd⟩ := c
    rw [List.take_of_length_le (by rw [hs.length] <;> exact Nat.le_refl _)] at hd
    exact q L ys H' (Evl.fresh_back e1 n) (e1.trans ex) hy hd
/-- over a new list of which P holds -/
theorem xlcSN {j : Nat} {vs : List Nat} (P : List PyData → Prop) (f : PyData → Bool) (g : PyData → PyData) (h : EvSN ta σ H P) (hl : ∀ ds, P ds → ds.length ≤ 50000) (hw : ∀ x, wipe ((wipe σ vs).set j (some x)) vs = wipe σ vs)
    (ht : ∀ ds d v H1, P ds → d ∈ ds → Ex H H1 → Dt H1 v d → EvT t ((wipe σ vs).set j (some v)) H1 (f d)) (he : ∀ ds d v H1, P ds → d ∈ ds → Ex H H1 → Dt H1 v d → f d = true → EvD te ((wipe σ vs).set j (some v)) H1 (g d)) :
    EvSN (tLc (iList K ta) (gName j) t te vs) σ H (fun es => ∃ ds, P ds ∧ es = giv f g ds) := fun H0 e Q q => h H0 e _ fun a xs ds H1 hP ha e1 hh hs => by
  refine ⟨a, rfl, ⟨xs, SqL.of hh⟩, fun L hL => ?_⟩
  refine lc_list (xs := xs) (fun i H' => Cw H1 L (giv f g (ds.take i)) H') (Cw.start hL) (fun i H' _ c => SqL.of (c.ex a _ hh)) (fun i x H' hi c => ⟨hw x, ?_⟩) fun H' c => ?_
  · obtain ⟨d, hd, hxd⟩ := hs.getV hi
    have hm : d ∈ ds := List.mem_of_getElem? hd
    have hlen : (giv f g (ds.take i)).length < 100000 := by
      have h1 := giv_len f g (ds.take i)
      have h2 : (ds.take i).length ≤ ds.length := by rw [List.length_take]; exact Nat.min_le_right _ _
      have h3 := hl ds hP
      omega
    refine cw_turn (dd := g d) c hlen (ht ds d x H1 hP hm (e.trans e1) hxd) (fun hb => he ds d x H1 hP hm (e.trans e1) hxd hb) fun H2 c2 => ?_
    show Cw H1 L (giv f g (ds.take (i + 1))) H2
    rw [take_snoc hd, giv_snoc]
    exact c2
  · obtain ⟨n, ex, ys, hy, hd⟩ := c
    rw [List.take_of_length_le (by rw [hs.length] <;> exact Nat.le_refl _)] at hd
    exact q L ys (giv f g ds) H' ⟨ds, hP, rfl⟩ (Evl.fresh_back e1 n) (e1.trans ex) hy hd
/-- over range(n) -/
def rgD (n : Nat) : List PyData := (List.range n).map fun i : Nat => .int (i : Int)
theorem rgD_get {n i : Nat} (h : i < n) : (rgD n)[i]? = some (.int (i : Int)) := by
  unfold rgD
  rw [List.getElem?_map, List.getElem?_range h]; rfl
theorem rgD_len (n : Nat) : (rgD n).length = n := by unfold rgD; rw [List.length_map, List.length_range]
theorem xlcR {ta : TA} {j : Nat} {vs : List Nat} {m : Int} (f : PyData → Bool) (g : PyData → PyData) (h : EvA ta σ H [.int m]) (hl : m ≤ 50000) (hm' : -50000 ≤ m) (hw : ∀ x, wipe ((wipe σ vs).set j (some x)) vs = wipe σ vs)
    (ht : ∀ (i : Nat) H1, (i : Int) < m → Ex H H1 → EvT t ((wipe σ vs).set j (some (.int (i : Int)))) H1 (f (.int (i : Int))))
    (he : ∀ (i : Nat) H1, (i : Int) < m → Ex H H1 → f (.int (i : Int)) = true → EvD te ((wipe σ vs).set j (some (.int (i : Int)))) H1 (g (.int (i : Int)))) :
    EvS (tLc (iRng1 ta) (gName j) t te vs) σ H (giv f g (rgD m.toNat)) := fun H0 e Q q => h H0 e _ fun us H1 e1 hx => by
  have hus : us = [.int m] := by
    cases hx with
    | cons h1 h2 => cases h2; rw [h1.int_inv]
  refine ⟨m, hus, by omega, by omega, fun L hL => ?_⟩
  refine lc_range (lo := 0) (n := m.toNat) (fun i H' => Cw H1 L (giv f g ((rgD m.toNat).take i)) H') (Cw.start hL) (fun i H' hi c => ?_) fun H' c => ?_
  · have e0 : (0 : Int) + (i : Int) = (i : Int) := Int.zero_add _
    rw [e0]
    refine ⟨hw _, ?_⟩
    have hlen : (giv f g ((rgD m.toNat).take i)).length < 100000 := by
      have h1 := giv_len f g ((rgD m.toNat).take i)
      have h2 : ((rgD m.toNat).take i).length ≤ (rgD m.toNat).length := by rw [List.length_take]; exact Nat.min_le_right _ _
      rw [rgD_len] at h2
      omega
    refine cw_turn (dd := g (.int (i : Int))) c hlen (ht i H1 (by omega) (e.trans e1)) (fun hb => he i H1 (by omega) (e.trans e1) hb) fun H2 c2 => ?_
    show Cw H1 L (giv f g ((rgD m.toNat).take (i + 1))) H2
    rw [take_snoc (rgD_get hi), giv_snoc]
    exact c2
  · obtain ⟨n, ex, ys, hy, hd⟩ := c
    rw [List.take_of_length_le (by rw [rgD_len] <;> exact Nat.le_refl _)] at hd
    exact q L ys H' (Evl.fresh_back e1 n) (e1.trans ex) hy hd
theorem etY : EvT tYes σ H true := fun H1 _ _ q => q H1 (Ex.refl H1)
end
end Kt
/-! Rules that the layer lacks: enumerate of a tuple, x in a tuple of data, the pair turned round. -/
namespace Kt
open PySem PySem.Spec PyProof.Rows L2

/-! ### enumerate(t), t a tuple -/
theorem in_two {b x y : Addr} (h : b ∈ [x, y]) : b = x ∨ b = y := by simpa using h
theorem second {x y : Addr} : y ∈ [x, y] := by simp
/-- the maker of an enumerate over anything that begins -/
theorem en_new {v : Value} {o : Obj} {G : Heap → Prop} (B : Begins v o G) :
    Meets (Builtin.«enumerate.__new__» ⟨[.type "enumerate", v], []⟩) (fun _ R sh => G sh.heap ∧
      R (.ok (.ret (.ref (sh.heap.push o).objs.size))) { sh with heap := (sh.heap.push o).push { cls := .type "enumerate", data := .fields #[.none, .bool false, .ref sh.heap.objs.size, rawInt 0, .none, .none] } }) := by
  refine .of_wp fun pr wo Ar Re sh both => ?_
  obtain ⟨hea, glo, dsp, tok, obs⟩ := sh
  have hG := both.1
  have goal := both.2
  have sub := sub_enumerate
  have starts : ∀ {Ar' : Around} {Er Qe : Value → Shared → Prop}, Qe (.ref hea.objs.size) ⟨hea.push o, glo, dsp, tok, obs⟩ → wpAny (model pr wo) Ar' (pyIter v) Qe Er ⟨hea, glo, dsp, tok, obs⟩ := fun z => B.iter pr wo _ _ ⟨hea, glo, dsp, tok, obs⟩ _ hG z
  wp_walk using starts
  refine wpAny_stack_any fun stk => wpAny_pure ?_
  split
  · rename_i c _ _ _ _ _
    cases (c == Value.type "enumerate") <;> (wp_walk using starts; exact ⟨_, rfl, goal⟩)
  · wp_walk using starts
    exact ⟨_, rfl, goal⟩
theorem en_begins {prog : Program} {w : World} {A : Around} {E : Value → Shared → Prop} {s : Shared} {v : Value} {o : Obj} {G : Heap → Prop} {Q : Value → Shared → Prop} (B : Begins v o G) (h1 : G s.heap)
    (h : ∀ hp, IsEnum hp (s.heap.objs.size + 1) s.heap.objs.size 0 .none → hp.get? s.heap.objs.size = some o → (∀ b ob, s.heap.get? b = some ob → hp.get? b = some ob) → Q (.ref (s.heap.objs.size + 1)) { s with heap := hp }) :
    wpAny (model prog w) A (call (.type "enumerate") [v]) Q E s := by
  have size1 : (s.heap.push o).objs.size = s.heap.objs.size + 1 := by rw [Heap.size_push]
  have isE : IsEnum ((s.heap.push o).push { cls := .type "enumerate", data := .fields #[.none, .bool false, .ref s.heap.objs.size, rawInt 0, .none, .none] }) (s.heap.objs.size + 1) s.heap.objs.size 0 .none := by
    have z := Heap.get?_push_size (s.heap.push o) (o := { cls := .type "enumerate", data := .fields #[.none, .bool false, .ref s.heap.objs.size, rawInt 0, .none, .none] }) rfl
    rw [size1] at z
    exact z
  refine callType_new F.called_enumerate (by decide) (F.typeCall_enumerate_1 v) (F.newCall_enumerate_1 v) (fun x => F.args_object_init_2 x v) F.entry_enumerate_new (en_new B) ⟨h1, ?_⟩
  show _ ∧ _
  rw [size1]
  exact ⟨⟨_, isE, rfl⟩, h _ isE (Heap.get?_push_of_some _ (Heap.get?_push_size _ B.free)) fun b ob z => Heap.get?_push_of_some _ (Heap.get?_push_of_some _ z)⟩
/-- each item of the tuple at a in a new pair -/
def IteT (K : PySem.W.Frag) (a : Addr) : It :=
  ⟨fun i H => ∃ (xs : List V) (x : V), SqT K H a xs ∧ xs[i]? = some x, fun i H v H' => ∃ T x, v = .ref T ∧ H T = none ∧ H' = upd H T (.tup [.int (i : Nat), x]) ∧ ∀ xs, SqT K H a xs → xs[i]? = some x, fun i H => ∃ xs : List V, SqT K H a xs ∧ xs.length ≤ i⟩
theorem turn_enT {P : Program} {w : World} {K : PySem.W.Frag} {elts : List Expr} {kk : Nat} {tpos : Pos} (a e it : Addr) (hea : e ≠ a) (hia : it ≠ a) :
    Turn P w K (.Tuple elts kk tpos) (IteT K a) [e, it] e (fun i h => (∃ old, IsEnum h e it ((i : Nat) : Int) old) ∧ h.IsTupleIter it a i ∧ e ≠ it) where
  mem := List.mem_cons_self
  obj := fun j hp now c hc => by
    obtain ⟨⟨_, isE⟩, ⟨ob, hob, _, dat⟩, _⟩ := now
    rcases in_two hc with rfl | rfl
    · exact ⟨_, isE, fun _ k => nomatch k⟩
    · exact ⟨ob, hob, fun _ k => by rw [dat] at k; cases k⟩
  keep := fun j hp hp' now kept => by
    obtain ⟨⟨old, isE⟩, isI, ne⟩ := now
    exact ⟨⟨old, kept e List.mem_cons_self _ isE⟩, isI.at fun ob z => kept it second ob z, ne⟩
  item := by
    rintro C rfl rfl rfl calm j pins sh σ H Er inv fresh ⟨⟨old, isE⟩, isI, ne⟩ ⟨xs, x, isT, atx⟩
    obtain ⟨vals, rel, isV, small⟩ := inv.tuple isT
    obtain ⟨u, atu, ru⟩ := rel.get atx
    have lastE := Heap.lt_size isE
    have lastI : it < sh.heap.objs.size := by
      obtain ⟨_, z, _⟩ := isI
      exact Heap.lt_size z
    have jlt : j < vals.toArray.size := by
      rw [List.size_toArray]
      exact (List.getElem?_eq_some_iff.mp atu).1
    have apart : e ∉ [it, a] := fun m => (in_two m).elim ne hea
    refine wpAny_pyNext_enum_itemD (Draws.tuple (prog := C.prog) (w := C.w) (A := C.A.in1) (show C.A.in1.handled = none from inv.ok.hd calm) it a hia.symm vals.toArray) isE ⟨isI, isV⟩ jlt ne apart fun y hp tk aty own nextI _ _ kept => ?_
    obtain rfl : u = y := by
      have z : vals.toArray[j]? = some u := by simpa using atu
      exact Option.some.inj (z.symm.trans aty)
    refine ⟨_, rfl, wpAny_letOwnedTupleGo_enum (s := { sh with heap := hp, toks := tk + 1 }) own fun hp2 isE2 sb => ?_⟩
    have isPair : hp2.get? sh.heap.objs.size = some { cls := .type "tuple", data := .seq #[.int j tk, u] } := (sb.2 _ (Nat.ne_of_gt lastE)).trans (by assumption)
    have okPair : ObjOk C.prog C.w (upd H sh.heap.objs.size (.tup [.int (j : Nat), x])) hp2 sh.heap.objs.size (.tup [.int (j : Nat), x]) := ⟨(by show 2 ≤ sizeLine; decide), [.int j tk, u], .cons ⟨_, rfl⟩ (.cons ru .nil), ⟨_, isPair, rfl, _, rfl⟩⟩
    have inv2 : Inv C pins σ (upd H sh.heap.objs.size (.tup [.int (j : Nat), x])) { sh with heap := hp2, toks := tk + 1 } :=
      inv.turnedNew (ch := [e, it]) (fun b ob hb z => (sb.2 b fun k => hb (k ▸ List.mem_cons_self)).trans (kept b ob (fun k => hb (k ▸ List.mem_cons_self)) (fun k => hb (k ▸ second)) z)) fresh (Nat.le_refl _) okPair
    refine ⟨.ref sh.heap.objs.size, _, inv2, rfl, ⟨_, x, rfl, inv.hok.fresh (Nat.le_refl _), rfl, fun ys z => by rw [inv.tuple_inj z isT]; exact atx⟩, ⟨⟨u, ?_⟩, nextI.1.at fun ob z => (sb.2 it ne.symm).trans z, ne⟩, fun b hb => ?_⟩
    · rw [show ((j + 1 : Nat) : Int) = (j : Int) + 1 by omega]
      exact isE2
    · have old1 : b < sh.heap.objs.size := (in_two hb).elim (fun k => k ▸ lastE) fun k => k ▸ lastI
      rw [upd_ne (Nat.ne_of_lt old1)]
      exact (fresh b hb).1
  done := by
    rintro C rfl rfl rfl calm j pins sh σ H Er inv fresh ⟨⟨old, isE⟩, isI, ne⟩ ⟨xs, isT, long⟩
    obtain ⟨vals, rel, isV, small⟩ := inv.tuple isT
    obtain ⟨g0, g1, _, g3, g4, _⟩ := fresh it second
    have len := rel.length
    have ends : vals.toArray[j]? = none := by
      rw [List.getElem?_toArray, List.getElem?_eq_none_iff]
      omega
    have kind : sh.TypeIs (.ref e) "enumerate" := ⟨_, isE, rfl⟩
    unfold pyNext
    refine wpAny_bind (wpAny_attempt (wpAny_callSpecial?_slot (name := Str.ofString "__next__") kind F.slot_enumerate_next (wpAny_call_entry F.slot_enumerate_next kind F.entry_enumerate_next ?_ (F.args_enumerate_next_1 _))))
    change wpAny _ _ (field (.ref e) 2 >>= _) _ _ _
    refine wpAny_bind (wpAny_field isE rfl (x := .ref it) rfl (wpAny_bind (wpAny_nextOf_tuple_end (inv.ok.hd calm) isI isV ends fun hp x kept isX => ?_)))
    refine wpAny_bind (wpAny_isInstance (T := "StopIteration") (b := true) (let ⟨ob, z1, z2⟩ := isX; ⟨ob, z1, z2⟩) isSubtype_stop ?_)
    exact wpAny_pure ⟨rfl, inv.turned (t' := sh.toks) (fun b ob hb z => kept b ob hb z) g0 g1 g3 g4 (fresh it second).2.2.2.2.2⟩
  self := fun _ _ _ _ _ now hw => let ⟨⟨_, isE⟩, _⟩ := now; wpAny_pyIter_enum isE hw
def iEnT (K : PySem.W.Frag) (ta : TA) : TI := fun σ H R => ta σ H fun vs H1 => ∃ a xs, vs = [.ref a] ∧ SqT K H1 a xs ∧ R (IteT K a) H1
theorem pi_enT {X : Cx} {e : Expr} {ta : TA} {p pos tpos : Pos} {elts : List Expr} {kk : Nat} (hg : Gl X "enumerate") (hm : X.mg "enumerate" = none) (ha : PA X [e] ta) (hs : starEach [e] X.env = [(false, eval e X.env)] := by rfl) :
    PI X (.Tuple elts kk tpos) (.Call (.Name "enumerate" p) [e] [] pos) (iEnT X.K ta) := by
  refine ⟨fun pins sh σ H R inv want => ?_⟩
  have args := ha.run pos pins sh σ H _ inv want
  refine Call_ (ld_blt inv hg hm boot_enumerate (PyProof.Rows.callWith_type1 (thn args fun us sh1 ⟨vs, H1, inv1, rel1, a, xs, evs, isT, go⟩ => ?_) hs rfl))
  subst evs
  obtain rfl : us = [.ref a] := Vals.ref1 rel1
  obtain ⟨vals, rel, isV, small⟩ := inv1.tuple isT
  have lastA : a < sh1.heap.objs.size := by
    obtain ⟨_, z, _⟩ := isV
    exact Heap.lt_size z
  refine en_begins (begins_tuple a vals.toArray) isV fun hp isE isI kept => wpAny_pyIter_enum isE ?_
  have inv2 : Inv X pins σ H1 { sh1 with heap := hp } := inv1.kept (t' := sh1.toks) kept
  have T := turn_enT (P := X.prog) (w := X.w) (K := X.K) (elts := elts) (kk := kk) (tpos := tpos) a (sh1.heap.objs.size + 1) sh1.heap.objs.size (Nat.ne_of_gt (Nat.lt_succ_of_lt lastA)) (Nat.ne_of_gt lastA)
  refine ⟨sh1.heap.objs.size + 1, [sh1.heap.objs.size + 1, sh1.heap.objs.size], _, _, H1, rfl, inv2, T, ⟨⟨.none, isE⟩, ⟨_, isI, rfl, rfl⟩, Nat.succ_ne_self _⟩, fun b hb => ?_, go⟩
  have newB : sh1.heap.objs.size ≤ b := (in_two hb).elim (fun z => z ▸ Nat.le_succ _) fun z => Nat.le_of_eq z.symm
  exact inv1.fpOk newB (inv1.hok.fresh newB)
theorem for_enT {K : PySem.W.Frag} {a : Addr} {xs : List V} {g : TG} {tb : TS} {D : Ends} {σ : L2.St} {H : Hp} (Pv : Nat → L2.St → Hp → Prop) (h0 : Pv 0 σ H) (hl : ∀ i σ H, i ≤ xs.length → Pv i σ H → SqT K H a xs)
    (hs : ∀ i x T σ H, xs[i]? = some x → Pv i σ H → H T = none → g (.ref T) σ (upd H T (.tup [.int (i : Nat), x])) fun σ2 H2 => tb { D with nx := Pv (i + 1), ct := Pv (i + 1), bk := D.nx } σ2 H2) (hd : ∀ σ H, Pv xs.length σ H → D.nx σ H) :
    ∃ W : Nat → Nat → L2.St → Hp → Prop, (∃ m, W 0 m σ H) ∧ (∀ i m σ H, W i m σ H →
      ((IteT K a).stop i H ∧ D.nx σ H) ∨ ((IteT K a).go i H ∧ ∃ N : L2.St → Hp → Prop, (∀ σ' H', N σ' H' → ∃ m', m' < m ∧ W (i + 1) m' σ' H') ∧ ∀ x H', (IteT K a).yld i H x H' → g x σ H' fun σ2 H2 => tb { D with nx := N, ct := N, bk := D.nx } σ2 H2)) := by
  refine ⟨fun j left σ H => left = xs.length - j ∧ j ≤ xs.length ∧ Pv j σ H, ⟨xs.length, rfl, Nat.zero_le _, h0⟩, ?_⟩
  rintro j left σ H ⟨rfl, jle, now⟩
  have isT := hl j σ H jle now
  rcases Nat.lt_or_ge j xs.length with lt | ge
  · refine .inr ⟨⟨xs, xs[j], isT, List.getElem?_eq_getElem lt⟩, Pv (j + 1), fun σ' H' z => ⟨xs.length - (j + 1), by omega, rfl, lt, z⟩, ?_⟩
    rintro _ _ ⟨T, x, rfl, newT, rfl, atx⟩
    exact hs j x T σ H (atx xs isT) now newT
  · obtain rfl : j = xs.length := Nat.le_antisymm jle ge
    exact .inl ⟨⟨xs, isT, Nat.le_refl _⟩, hd σ H now⟩

/-! ### x in t, t a tuple of data at any depth -/
section
variable {X : Cx}
def rInT (K : PySem.W.Frag) : R2 := fun x y H Q => ∃ d ds, Dp K H x d ∧ Dp K H y (.tuple ds) ∧ SeqAt.shaped d = true ∧ SeqAt.shaped (.tuple ds) = true ∧ Q (.bl (ds.any fun z => PyData.eqv z d)) H
theorem shT (ds : List PyData) (h : SeqAt.shaped (.tuple ds) = true) : PyData.canLayAll0 ds = true := by
  have h' : (PyData.canLay0 (.tuple ds) && decide (PyData.depth (.tuple ds) ≤ 64)) = true := h
  rw [Bool.and_eq_true] at h'
  have h2 := h'.1
  simp only [PyData.canLay0] at h2
  exact h2
theorem op_inT (hu : X.A.units + 65 < cLine) : OpR X (compareOp .In) (rInT X.K) := by
  rintro pins sh σ H x y v u Q inv rx ry ⟨d, ds, dx, dy, sx, sy, want⟩
  obtain ⟨as, readX⟩ := Dp.reads inv d x v dx rx
  obtain ⟨bs, readY⟩ := Dp.reads inv (.tuple ds) y u dy ry
  exact SeqAt.in_tuple_reads readY readX (shT ds sy) (SeqAt.canLay_of_shaped sx) (room_in_shaped sx hu) ⟨.bl _, H, inv, rfl, want⟩
end

/-! ### p[::-1], p a tuple of two -/
section
variable {prog : Program} {w : World} {A : Around} {E : Value → Shared → Prop} {s : Shared}
theorem cut_back2 {sl : Addr} {vs : Value} {Q : Int × Int × Nat → Shared → Prop} (hs : s.heap.IsSliceOf sl .none .none vs) (ps : IsPart vs (some (-1)))
    (h : Q (1, -1, 2) s) : wpAny (model prog w) A (Builtin.Slice.sliceApplied (.ref sl) (pure (2 : Int))) Q E s := by
  obtain ⟨ob, isO, _, dat⟩ := hs
  unfold Builtin.Slice.sliceApplied
  unfold Builtin.Slice.sliceFields
  refine wpAny_bind (wpAny_bind (wpAny_field isO dat (x := .none) rfl (wpAny_bind (wpAny_field isO dat (x := .none) rfl (wpAny_bind (wpAny_field isO dat (x := vs) rfl (wpAny_pure ?_)))))))
  refine wpAny_bind (HT.slicePart_ ps ?_)
  change wpAny _ _ (if ((-1 : Int) == 0) = true then _ else _) _ _ s
  rw [if_neg (by decide)]
  exact wpAny_bind (slicePart_none (wpAny_bind (slicePart_none (wpAny_bind (wpAny_pure (wpAny_pure h))))))
theorem item_back2 {t sl : Addr} {u v : Value} {vs : Value} {Q : Value → Shared → Prop} (ht : IsTup s.heap t #[u, v]) (hs : s.heap.IsSliceOf sl .none .none vs) (ps : IsPart vs (some (-1)))
    (h : Q (.ref s.heap.objs.size) { s with heap := s.heap.push { cls := .type "tuple", data := .seq #[v, u] } }) : wpAny (model prog w) A (getItem (.ref t) (.ref sl)) Q E s := by
  have small : sizeOk (.seq (#[v, u] : Array Value)) := by show 2 ≤ sizeLine; decide
  have kindS : s.TypeIs (.ref sl) "slice" := let ⟨ob, isO, cls, _⟩ := hs; ⟨ob, isO, cls⟩
  unfold getItem
  (try with_reducible refine wpAny_holding ?_); (first | refine wpAny_bind (wpAny_pure ?_) | skip)
  refine wpAny_bind (wpAny_sequenceKey ht.typeIs (by decide) (wpAny_bind (wpAny_callSpecial?_slot (name := Str.ofString "__getitem__") ht.typeIs PyProof.Rows.slot_tuple_getitem (wpAny_call_entry PyProof.Rows.slot_tuple_getitem ht.typeIs entry_tuple_getitem ?_ (args_tuple_getitem _ _)))))
  change wpAny _ _ (Builtin.Tuple.tupleItemsOf (.ref t) >>= _) _ _ s
  refine wpAny_bind (tupleItemsOf_ ht (wpAny_bind (wpAny_typeOf kindS ?_)))
  rw [if_pos (by decide)]
  refine wpAny_bind (cut_back2 hs ps ?_)
  change wpAny _ _ (if ((1 : Int) == 0 && (-1 : Int) == 1 && (2 : Nat) == 2) = true then _ else _) _ _ s
  rw [if_neg (by decide)]
  have turned : ((List.range 2).filterMap fun (k : Nat) => (#[u, v] : Array Value)[((1 : Int) + (k : Int) * (-1)).toNat]?).toArray = #[v, u] := rfl
  rw [turned]
  first
    | exact wpAny_bind (m := Builtin.Tuple.tupleExact _) (wpAny_newObj_type (wpAny_pure ⟨_, rfl, wpAny_pure h⟩) small)
    | exact wpAny_bind (m := Builtin.Tuple.tupleExact _) (wpAny_newObj_type (wpAny_bind (wpAny_pure (wpAny_pure ⟨_, rfl, wpAny_pure h⟩))) small)
end
end Kt
namespace Kt
open PySem PySem.Spec PyProof.Rows L2

/-! ### e[::-1], e a pair -/
def tRev2 (K : PySem.W.Frag) (te : TE) : TE := fun σ H Q => te σ H fun x H1 => ∃ a u v, x = .ref a ∧ SqT K H1 a [u, v] ∧ ∀ p, H1 p = none → Q (.ref p) (upd H1 p (.tup [v, u]))
theorem part_none {v : Value} (p : IsPart v none) : v = .none := by cases p; rfl
theorem pe_rev2 {X : Cx} {pos : Pos} {e : Expr} {te : TE} {k : Nat} {p1 p2 p3 : Pos} (he : PE X e te) : PE X (.Subscript e (.Slice none none (some (.UnaryOp .USub (.Constant (.int 1) k p1) p2)) p3) pos) (tRev2 X.K te) := by
  have step : PO X (some (.UnaryOp .USub (.Constant (.int 1) k p1) p2)) (tPart (tUn (rU fun i => .int (-i)) (tC (.int 1)))) := po_some (pe_un un_neg pe_int)
  refine ⟨fun pins sh σ H Q inv want => ?_⟩
  have first := he.run pins sh σ H _ inv want
  refine Subscript_ (thn first fun v sh1 ⟨x, H1, inv1, rel1, a, u0, v0, ex, isT, go⟩ => ?_)
  subst ex
  cases rel1
  have lower := po_none.run pins sh1 σ H1 (fun o Ho => o = none ∧ Ho = H1) inv1 ⟨rfl, rfl⟩
  refine wpAny_Slice (thn lower fun vl sh2 ⟨o2, H2, inv2, partL, eo2, eH2⟩ => ?_)
  subst eo2 eH2
  have upper := po_none.run pins sh2 σ H2 (fun o Ho => o = none ∧ Ho = H2) inv2 ⟨rfl, rfl⟩
  refine thn upper fun vu sh3 ⟨o3, H3, inv3, partU, eo3, eH3⟩ => ?_
  subst eo3 eH3
  have back := step.run pins sh3 σ H3 (fun o Ho => o = some (-1) ∧ Ho = H3) inv3 ⟨1, rfl, -1, rfl, rfl, rfl⟩
  refine thn back fun vs sh4 ⟨o4, H4, inv4, partS, eo4, eH4⟩ => ?_
  subst eo4 eH4
  obtain rfl := part_none partL
  obtain rfl := part_none partU
  have inv5 : Inv X pins σ H4 { sh4 with heap := sh4.heap.push { cls := .type "slice", data := .fields #[.none, .none, vs] } } := inv4.kept (t' := sh4.toks) fun b ob z => Heap.get?_push_of_some _ z
  obtain ⟨its, rel, isV, small⟩ := inv5.tuple isT
  obtain ⟨w1, w2, rfl, rel1, rel2⟩ := vals2 rel
  change wpAny (model X.prog X.w) X.A (subscriptTail e (.Slice none none (some (.UnaryOp .USub (.Constant (.int 1) k p1) p2)) p3) (.ref a) (.ref sh4.heap.objs.size)) (EP X pins σ Q) X.xe { sh4 with heap := sh4.heap.push { cls := .type "slice", data := .fields #[.none, .none, vs] } }
  refine tail_any (ops := [.ref a, .ref sh4.heap.objs.size]) isV.typeIs (PyProof.Rows.slot_tuple_getitem.lookup) ?_ (by with_unfolding_all rfl)
  refine item_back2 isV (Heap.IsSliceOf.new _ .none .none vs) partS ⟨.ref _, _, inv5.laid (t' := sh4.toks) (o := .tup [v0, u0]) (fun b ob z => Heap.get?_push_of_some _ z) (Nat.le_refl _) ?_, rfl, go _ (inv5.hok.fresh (Nat.le_refl _))⟩
  exact ⟨(by show 2 ≤ sizeLine; decide), [w2, w1], .cons rel2 (.cons rel1 .nil), ⟨_, Heap.get?_push_size _ rfl, rfl, _, rfl⟩⟩

/-! ### {p: v}, p a tuple of ints and texts -/
def tDispT (tk tv : TE) : TE := fun σ H Q => ∀ p, H p = none → tk σ (upd H p (.dT [])) fun x H1 => tv σ H1 fun y H2 => H2 p = some (.dT []) ∧ ∃ b ks, x = .ref b ∧ H2 b = some (.tup (ks.map kV)) ∧ Q (.ref p) (upd H2 p (.dT [(ks, y)]))
theorem pe_dispT {X : Cx} {pos : Pos} {k v : Expr} {tk tv : TE} (hu : X.A.units < cLine) (hk : PE X k tk) (hv : PE X v tv) : PE X (.Dict [some k] [v] pos) (tDispT tk tv) := by
  constructor
  intro pins s σ H Q I q
  have fresh0 := I.hok.fresh (Nat.le_refl s.heap.objs.size)
  have I1 := I.laid (a := s.heap.objs.size) (o := .dT []) (h' := s.heap.push { cls := .type "dict", data := .dict #[] }) (t' := s.toks) (fun _ _ q => Heap.get?_push_of_some _ q) (Nat.le_refl _) (dt_empty s.heap I.big)
  have hl : (pairTrees [some k] [v] X.env pos).length = 1 := pairTrees_length [some k] [v] X.env pos rfl rfl
  rw [arm_eval_Dict, zip_pairTrees [some k] [v] X.env pos rfl rfl, dictDisplay_pairs _ (fun e => by rw [e] at hl; cases hl) (by rw [hl]; decide)]
  have pp : PPs X pos [some k] [v] [(tk, tv)] := pps_cons hk hv pps_nil
  refine wpAny_bind (wpAny_standAt (wpAny_bind (wpAny_subDictH (knd := tupleKind (mixKind X.prog X.w)) hu (by rw [hl]; decide) (thn (pp.run pins _ σ _
    (fun ps H3 => ∃ x y, ps = [(x, y)] ∧ H3 s.heap.objs.size = some (.dT []) ∧ ∃ b ks, x = .ref b ∧ H3 b = some (.tup (ks.map kV)) ∧ Q (.ref s.heap.objs.size) (upd H3 s.heap.objs.size (.dT [(ks, y)]))) I1 ?_) fun ws s2 ⟨ps, H2, I2, rel, x, y, ep, eD, b, ks, ex, eb, q2⟩ => ?_))))
  · have q' := q _ fresh0
    have tr : ∀ (t : TE) (σ : L2.St) (H : Hp) (A B : VK), (∀ v H', A v H' → B v H') → A = B → t σ H A → t σ H B := fun t σ H A B _ e h => e ▸ h
    show tk σ _ fun x H1 => tv σ H1 fun y H2 => ∃ x' y', [(x, y)] = [(x', y')] ∧ _
    have e1 : (fun (x : V) (H1 : Hp) => tv σ H1 fun y H2 => ∃ x' y', [(x, y)] = [(x', y')] ∧ H2 s.heap.objs.size = some (.dT []) ∧ ∃ b ks, x' = .ref b ∧ H2 b = some (.tup (ks.map kV)) ∧ Q (.ref s.heap.objs.size) (upd H2 s.heap.objs.size (.dT [(ks, y')]))) =
        fun x H1 => tv σ H1 fun y H2 => H2 s.heap.objs.size = some (.dT []) ∧ ∃ b ks, x = .ref b ∧ H2 b = some (.tup (ks.map kV)) ∧ Q (.ref s.heap.objs.size) (upd H2 s.heap.objs.size (.dT [(ks, y)])) := by
      funext x H1
      congr 1
      funext y H2
      refine propext ⟨fun ⟨x', y', e, r⟩ => ?_, fun r => ⟨x, y, rfl, r⟩⟩
      cases e
      exact r
    rw [e1]
    exact q'
  · subst ep ex
    cases rel with
    | @cons pa pb pas pbs h t =>
      cases t
      obtain ⟨w1, w2⟩ := pb
      obtain ⟨r1, r2⟩ := h
      obtain rfl : w1 = .ref b := r1
      obtain ⟨z, hd, xs0, rel0, dd0⟩ := dt_of I2.hok eD
      obtain rfl : xs0 = [] := by cases rel0; rfl
      refine ⟨[(ks, b, w2)], ⟨rfl, rfl, key_of I2.hok eb, trivial⟩, dd0, fun h' tk' dd' hs => wpAny_pure ⟨.ref s.heap.objs.size, _, ?_, rfl, q2⟩⟩
      obtain ⟨ob, es, ep, isO, g2, g3, g4, _, g5⟩ := dd'
      have nb : b ≠ s.heap.objs.size := ne_of eb eD (fun z => nomatch z)
      refine d_write I2 (by rw [eD]; exact True.intro) hs ⟨ob, isO⟩ ⟨(by show 1 ≤ sizeLine; decide), hd, [(ks, b, w2)], .cons ⟨rfl, by rw [upd_ne nb]; exact eb, r2⟩ .nil, ob, es, ep, isO, g2, g3, g4, g5⟩

/-! ### sorted(d), d a dict whose keys are pairs of ints -/
theorem keys_acc {xs : List (List Key × Addr × Value)} {es : Array DictEntry} {P : Program} {w : World} {acc : Array Value} (he : es.toList = xs.map (entryOfKey (tupleKind (mixKind P w))))
    (ha : ItemsOf (fun i v => ∃ hi : i < es.size, v = es[i].key) acc es.size) : acc.toList = xs.map fun x => Value.ref x.2.1 := by
  have hl : es.size = xs.length := by
    have z := congrArg List.length he
    simpa using z
  apply List.ext_getElem?
  intro j
  rw [List.getElem?_map]
  by_cases hj : j < xs.length
  · have h1 : j < acc.size := by rw [ha.1, hl]; exact hj
    rw [Array.getElem?_toList, Array.getElem?_eq_getElem h1, List.getElem?_eq_getElem hj]
    obtain ⟨hi, e⟩ := ha.2 j acc[j] (Array.getElem?_eq_getElem h1)
    rw [e]
    have q : es.toList[j]? = some (entryOfKey (tupleKind (mixKind P w)) xs[j]) := by rw [he, List.getElem?_map, List.getElem?_eq_getElem hj]; rfl
    rw [Array.getElem?_toList, Array.getElem?_eq_getElem hi] at q
    rw [Option.some.inj q]
    rfl
  · rw [List.getElem?_eq_none (by rw [Array.length_toList, ha.1, hl]; omega), List.getElem?_eq_none (by omega)]
    rfl
def Srt_back : Value → V
  | .ref a => .ref a
  | _ => .non
section
variable {X : Cx}
def rSortedDT : List V → Hp → VK → Prop := fun vs H Q => ∃ (a : Addr) (kvs : List (List Key × V)), vs = [.ref a] ∧ H a = some (.dT kvs) ∧ (∀ kv ∈ kvs, ∃ x y : Int, kv.1 = [.inl x, .inl y]) ∧ kvs.length ≤ 100000 ∧
  ∀ (ys : List V) (p : Addr), (∀ y ∈ ys, ∃ b kv, y = .ref b ∧ kv ∈ kvs ∧ H b = some (.tup (kv.1.map kV))) → (∀ kv ∈ kvs, ∃ b, V.ref b ∈ ys ∧ H b = some (.tup (kv.1.map kV))) → ys.length = kvs.length → H p = none → Q (.ref p) (upd H p (.lst ys))
theorem pairOf {P : Program} {w : World} {H : Hp} {h : Heap} {b : Addr} {x y : Int} (ok : HOk P w H h) (e : H b = some (.tup [.int x, .int y])) : Srt.IsPair h (.ref b) x y := by
  obtain ⟨_, its, r, o, ho, hc, n, hd⟩ := ok _ _ e
  obtain ⟨_, _, rfl, ⟨t1, rfl⟩, ⟨t2, rfl⟩⟩ := vals2 r
  exact ⟨b, o, t1, t2, n, rfl, ho, hc, hd⟩
open Classical in
/-- the two ints of a pair in a heap -/
noncomputable def kOf (h : Heap) (v : Value) : Int × Int := if q : ∃ z : Int × Int, Srt.IsPair h v z.1 z.2 then q.choose else (0, 0)
theorem kOf_ok {h : Heap} {v : Value} {x y : Int} (p : Srt.IsPair h v x y) : Srt.IsPair h v (kOf h v).1 (kOf h v).2 := by
  have q : ∃ z : Int × Int, Srt.IsPair h v z.1 z.2 := ⟨(x, y), p⟩
  unfold kOf
  rw [dif_pos q]
  exact q.choose_spec
theorem back_vals : ∀ l : List Value, (∀ u ∈ l, ∃ b, u = Value.ref b) → Vals (l.map Srt_back) l
  | [], _ => .nil
  | u :: l, h => by
    obtain ⟨b, rfl⟩ := h u List.mem_cons_self
    exact .cons rfl (back_vals l fun v m => h v (List.mem_cons_of_mem _ m))
/-- the keys in the heap, one by one -/
theorem kt_keys {H : Hp} {l : List (List Key × V)} {m : List (List Key × Addr × Value)} (h : KT H l m) :
    (∀ x ∈ m, ∃ kv ∈ l, kv.1 = x.1 ∧ H x.2.1 = some (.tup (kv.1.map kV))) ∧ ∀ kv ∈ l, ∃ x ∈ m, H x.2.1 = some (.tup (kv.1.map kV)) := by
  induction h with
  | nil => exact ⟨fun _ z => (nomatch z), fun _ z => (nomatch z)⟩
  | @cons kv x l m same _ ih =>
    refine ⟨fun y my => ?_, fun z mz => ?_⟩
    · rcases List.mem_cons.mp my with rfl | my
      · exact ⟨kv, List.mem_cons_self, same.1, same.2.1⟩
      · obtain ⟨z, mz, e⟩ := ih.1 y my
        exact ⟨z, List.mem_cons_of_mem _ mz, e⟩
    · rcases List.mem_cons.mp mz with rfl | mz
      · exact ⟨x, List.mem_cons_self, same.2.1⟩
      · obtain ⟨y, my, e⟩ := ih.2 z mz
        exact ⟨y, List.mem_cons_of_mem _ my, e⟩
theorem cr_sortedDT (hcalm : X.calm = true) : CallR X (.builtin "sorted") rSortedDT := by
  rintro pins sh σ H _ us Q inv rel ⟨a, kvs, rfl, isD, pairs, _, want⟩
  obtain rfl : us = [.ref a] := Vals.ref1 rel
  obtain ⟨small, lo, ws, keys, ob, es, ep, isO, cls, dat, ents, _⟩ := (show ObjOk X.prog X.w H sh.heap a (.dT kvs) from inv.hok _ _ isD)
  have many : kvs.length = ws.length := Paired.length keys
  have manyE : es.size = ws.length := by
    have z := congrArg List.length ents
    simpa using z
  have smallE : es.size ≤ sizeLine := by rw [manyE, ← many]; exact small
  obtain ⟨atw, atk⟩ := kt_keys keys
  refine Calls.call_function_entry PyProof.Rows.kind_sorted PyProof.Rows.plain_sorted PyProof.Rows.entry_sorted (PyProof.Rows.args_sorted1 (.ref a)) ?_
  unfold Builtin.«sorted»
  refine wpAny_bind (m := checkCount "sorted" 1 1 _) (wpAny_pure (wpAny_bind (PySem.W.kdu_collect (A := X.A.in1) (KdlSrc.rawDict (es := es) (ep := ep) lo) (inv.ok.hd hcalm) ⟨ob, isO, cls, dat⟩ smallE fun hp tk acc kept got => ?_)))
  have isAcc := keys_acc ents got
  have manyA : acc.toList.length = ws.length := by rw [isAcc, List.length_map]
  have inv1 : Inv X pins σ H { sh with heap := hp, toks := tk } := inv.kept kept
  refine wpAny_bind (wpAny_newList ?_ (by rw [manyA, ← many]; exact small))
  have isL : (hp.push (seqObj "list" acc.toList.toArray 0)).get? hp.objs.size = some (seqObj "list" acc.toList.toArray 0) := Heap.get?_push_size _ rfl
  -- each item is a key, a pair of ints
  have isP : ∀ v ∈ acc.toList, Srt.IsPair hp v (kOf hp v).1 (kOf hp v).2 := fun v mv => by
    rw [isAcc] at mv
    obtain ⟨x, mx, rfl⟩ := List.mem_map.mp mv
    obtain ⟨kv, mk, _, isT⟩ := atw x mx
    obtain ⟨i, j, e⟩ := pairs kv mk
    rw [e] at isT
    exact kOf_ok (pairOf inv1.hok isT)
  change wpAny _ _ _ _ _ { sh with heap := hp.push (seqObj "list" acc.toList.toArray 0), toks := tk }
  refine wpAny_bind (wpAny_holding (wpAny_call_entry PyProof.Rows.slot_list_sort ⟨_, isL, rfl⟩ PyProof.Rows.entry_list_sort (SrtO.list_sort_ord (s := { sh with heap := hp.push (seqObj "list" acc.toList.toArray 0), toks := tk }) (SrtO.swo_lex (kOf hp)) isL (by rw [manyA, ← many]; exact small)
    (fun two => SrtO.pairs_sortableO (by omega) (fun v mv => (isP v mv).keeps fun b ob z _ => Heap.get?_push_of_some _ z) fun ob z c => ?_) fun out _ same => ⟨_, rfl, ?_⟩) (PyProof.Rows.args_list_sort _)))
  · cases (show some ob = some (seqObj "list" acc.toList.toArray 0) from z.symm.trans isL)
    injection c with c
    exact absurd c (by decide)
  · obtain ⟨n, isOut⟩ := PyProof.Rows.sortedHeap_at (vs := acc.toList) (out := out.toArray) isL
    have perm : out.Perm (ws.map fun x => Value.ref x.2.1) := isAcc ▸ same.perm
    have refs : ∀ u ∈ out, ∃ x ∈ ws, u = Value.ref x.2.1 := fun u mu => by
      obtain ⟨x, mx, e⟩ := List.mem_map.mp (perm.mem_iff.mp mu)
      exact ⟨x, mx, e.symm⟩
    have backs : Vals (out.map Srt_back) out := back_vals out fun u mu => let ⟨x, _, e⟩ := refs u mu; ⟨x.2.1, e⟩
    have manyO : (out.map Srt_back).length = kvs.length := by rw [List.length_map, perm.length_eq, List.length_map, many]
    have okO : ∀ H', ObjOk X.prog X.w H' (sortedHeap (hp.push (seqObj "list" acc.toList.toArray 0)) hp.objs.size acc.toList out.toArray) hp.objs.size (.lst (out.map Srt_back)) := fun _ => ⟨by rw [manyO]; exact small, out, n, backs, isOut⟩
    refine wpAny_pure ⟨_, rfl, .ref hp.objs.size, upd H hp.objs.size (.lst (out.map Srt_back)), inv1.laid (t' := tk) (fun b ob z => ?_) (Nat.le_refl _) (okO _), rfl, want _ _ (fun y my => ?_) (fun kv mk => ?_) manyO (inv1.hok.fresh (Nat.le_refl _))⟩
    · have lt := Heap.lt_size z
      have lt2 : b < (hp.push (seqObj "list" acc.toList.toArray 0)).objs.size := by rw [size_push']; exact Nat.lt_succ_of_lt lt
      rw [PyProof.Rows.sortedHeap_old (Nat.ne_of_lt lt) lt2, Heap.get?_push_of_some _ z]
    · obtain ⟨u, mu, rfl⟩ := List.mem_map.mp my
      obtain ⟨x, mx, rfl⟩ := refs u mu
      obtain ⟨kv, mk, _, isT⟩ := atw x mx
      exact ⟨x.2.1, kv, rfl, mk, isT⟩
    · obtain ⟨x, mx, isT⟩ := atk kv mk
      exact ⟨x.2.1, List.mem_map.mpr ⟨.ref x.2.1, perm.mem_iff.mpr (List.mem_map.mpr ⟨x, mx, rfl⟩), rfl⟩, isT⟩
end
end Kt
namespace Kt
open PySem PySem.Spec PyProof.Rows L2

/-! ### sorted of a list of (i, (j, k)) -/
structure TriAt (h : Heap) (v : Value) (z : Int × Int × Int) : Prop where
  ex : ∃ (t q : Addr) (ot oq : Obj) (tk t1 t2 : Tok) (n m : Nat), v = .ref t ∧ h.get? t = some ot ∧ ot.cls = .type "tuple" ∧ ot.data = .seq #[.int z.1 tk, .ref q] n ∧
    h.get? q = some oq ∧ oq.cls = .type "tuple" ∧ oq.data = .seq #[.int z.2.1 t1, .int z.2.2 t2] m
theorem TriAt.keeps {h h' : Heap} {v : Value} {z : Int × Int × Int} (p : TriAt h v z) (k : ∀ b o, h.get? b = some o → o.cls = .type "tuple" → h'.get? b = some o) : TriAt h' v z := by
  obtain ⟨t, q, ot, oq, tk, t1, t2, n, m, e, a1, a2, a3, b1, b2, b3⟩ := p.ex
  exact ⟨t, q, ot, oq, tk, t1, t2, n, m, e, k _ _ a1 a2, a2, a3, k _ _ b1 b2, b2, b3⟩
def lex3 (p q : Int × Int × Int) : Bool := if p.1 = q.1 then SrtO.lexB p.2 q.2 else decide (p.1 < q.1)
theorem lex3_no {p q : Int × Int × Int} : lex3 p q = false ↔ ¬ (p.1 < q.1 ∨ (p.1 = q.1 ∧ (p.2.1 < q.2.1 ∨ (p.2.1 = q.2.1 ∧ p.2.2 < q.2.2)))) := by
  unfold lex3
  by_cases e : p.1 = q.1
  · rw [if_pos e, SrtO.lexB_no]
    omega
  · rw [if_neg e, decide_eq_false_iff_not]
    omega
theorem lex3_yes {p q : Int × Int × Int} : lex3 p q = true ↔ (p.1 < q.1 ∨ (p.1 = q.1 ∧ (p.2.1 < q.2.1 ∨ (p.2.1 = q.2.1 ∧ p.2.2 < q.2.2)))) := by
  have h := lex3_no (p := p) (q := q)
  cases hb : lex3 p q with
  | true => rw [hb] at h; simp only [true_iff]; exact Classical.byContradiction fun n => by simpa using h.mpr n
  | false => rw [hb] at h; simp only [Bool.false_eq_true, false_iff]; exact h.mp rfl
theorem swo3 (k : Value → Int × Int × Int) : SrtO.Swo fun v u => lex3 (k v) (k u) := by
  constructor
  · intro x y h
    have a := lex3_yes.mp h
    exact lex3_no.mpr (by omega)
  · intro x y z h1 h2
    have a := lex3_no.mp h1
    have b := lex3_no.mp h2
    exact lex3_no.mpr (by omega)
section
variable {prog : Program} {w : World} {A : Around} {E : Value → Shared → Prop} {s : Shared}
theorem lexLt2 (x y x' y' : Int) : HT.lexLt [x, y] [x', y'] = SrtO.lexB (x, y) (x', y') := by
  rw [HT.lexLt_cons, HT.lexLt_cons, HT.lexLt_nil_nil]
  show (if x = x' then (if y = y' then false else decide (y < y')) else decide (x < x')) = (if x = x' then decide (y < y') else decide (x < x'))
  by_cases hx : x = x'
  · rw [if_pos hx, if_pos hx]
    by_cases hy : y = y'
    · rw [if_pos hy, hy, decide_eq_false (Int.lt_irrefl _)]
    · rw [if_neg hy]
  · rw [if_neg hx, if_neg hx]
theorem tri_eq {q q' : Addr} {oq oq' : Obj} {x y x' y' : Int} {t1 t2 t1' t2' : Tok} {m m' : Nat} (h1 : s.heap.get? q = some oq) (h2 : oq.cls = .type "tuple") (h3 : oq.data = .seq #[.int x t1, .int y t2] m)
    (h1' : s.heap.get? q' = some oq') (h2' : oq'.cls = .type "tuple") (h3' : oq'.data = .seq #[.int x' t1', .int y' t2'] m') (hu : A.units + 1 < cLine) :
    SeqAt.EqAt A s (.ref q) (.ref q') (decide (x = x') && decide (y = y')) := by
  have ra : Reads s.heap (.ref q) (.tuple [.int x, .int y]) _ := Reads.tuple h1 h2 h3 (.cons (.int x t1) (.cons (.int y t2) .nil))
  have rb : Reads s.heap (.ref q') (.tuple [.int x', .int y']) _ := Reads.tuple h1' h2' h3' (.cons (.int x' t1') (.cons (.int y' t2') .nil))
  have e := SeqAt.eqAt_reads _ _ A s _ _ _ _ ra rb (by simp [PyData.canLay0, PyData.canLayAll0]) (by simp [PyData.canLay0, PyData.canLayAll0]) (by simp only [PyData.depth, PyData.depthAll]; omega)
  have z : PyData.eqv (.tuple [.int x, .int y]) (.tuple [.int x', .int y']) = (decide (x = x') && decide (y = y')) := by
    simp only [PyData.eqv, PyData.eqvAll, Bool.and_true]
    by_cases hx : x = x' <;> by_cases hy : y = y' <;> simp [hx, hy]
  rw [z] at e
  exact e
theorem tri_cmp {vs : List Value} {k : Value → Int × Int × Int} (hu : A.units + 1 < cLine) (hp : ∀ v ∈ vs, TriAt s.heap v (k v)) : SrtO.Cmp prog w A s (tuples' true) (fun p => p.1 ∈ vs) (SrtO.lt2 fun v u => lex3 (k v) (k u)) := by
  intro p q hm hm'
  have h1 := hp _ hm
  have h2 := hp _ hm'
  show wpAny (model prog w) A (keyLt' (tuples' true) p.1 q.1) (fun r s' => s' = s ∧ r = lex3 (k p.1) (k q.1)) (fun _ _ => False) s
  generalize k p.1 = z at h1 ⊢
  generalize k q.1 = z' at h2 ⊢
  obtain ⟨t, b, ot, oq, tk, t1, t2, n, m, e, a1, a2, a3, b1, b2, b3⟩ := h1.ex
  obtain ⟨t', b', ot', oq', tk', t1', t2', n', m', e', a1', a2', a3', b1', b2', b3'⟩ := h2.ex
  obtain ⟨i, x, y⟩ := z
  obtain ⟨i', x', y'⟩ := z'
  rw [e, e']
  refine PySem.W.kat_lt a1 a3 a1' a3' ?_
  show PySem.W.KatLex prog w A true (decide (2 < 2)) _ [(.int i tk, .int i' tk'), (.ref b, .ref b')] 0 s
  refine PySem.W.kat_cons (SeqAt.EqAt.int_int i tk i' tk' prog w _ _ ?_)
  refine PySem.W.kat_go (fun same1 => ?_) (fun diff1 => ?_)
  · have ei : i = i' := by simpa using same1
    refine PySem.W.kat_yes (PySem.W.kat_cons (tri_eq b1 b2 b3 b1' b2' b3' hu prog w _ _ ?_))
    refine PySem.W.kat_go (fun same2 => ?_) (fun _ => ?_)
    · rw [Bool.and_eq_true] at same2
      have ex : x = x' := of_decide_eq_true same2.1
      have ey : y = y' := of_decide_eq_true same2.2
      have worth : lex3 (i, x, y) (i', x', y') = false := lex3_no.mpr (by
        subst ei ex ey
        show ¬ (i < i ∨ (i = i ∧ (x < x ∨ (x = x ∧ y < y))))
        omega)
      exact PySem.W.kat_yes (PySem.W.kat_nil ⟨rfl, worth.symm⟩)
    · have e3 : lex3 (i, x, y) (i', x', y') = HT.lexLt [x, y] [x', y'] := by
        rw [lexLt2]
        show (if i = i' then SrtO.lexB (x, y) (x', y') else decide (i < i')) = _
        rw [if_pos ei]
      refine PySem.W.kat_no (PySem.W.kat_one _ _ (HT.lt_tupInts ⟨oq, b1, b2, m, b3⟩ ⟨oq', b1', b2', m', b3'⟩ (.cons _ _ (.cons _ _ .nil)) (.cons _ _ (.cons _ _ .nil)) (by omega) ?_))
      exact (show s = s ∧ HT.lexLt [x, y] [x', y'] = lex3 (i, x, y) (i', x', y') from ⟨rfl, e3.symm⟩)
  · have ei : ¬ i = i' := by simpa using diff1
    have worth : lex3 (i, x, y) (i', x', y') = decide (i < i') := if_neg ei
    exact PySem.W.kat_no (oneLt_int ⟨rfl, worth.symm⟩)
theorem tri_firsts {h : Heap} : ∀ {vs : List Value}, (∀ v ∈ vs, ∃ z, TriAt h v z) → ∃ fs : List Value, PySem.W.KatTups h vs fs ∧ fs.length = vs.length ∧ ∀ f ∈ fs, ∃ x t, f = Value.int x t
  | [], _ => ⟨[], PySem.W.KatTups.nil, rfl, fun _ hm => nomatch hm⟩
  | v :: vs, hp => by
    obtain ⟨fs, h1, h2, h3⟩ := tri_firsts (vs := vs) fun v' hm => hp v' (List.mem_cons_of_mem _ hm)
    obtain ⟨z, hz⟩ := hp v List.mem_cons_self
    obtain ⟨t, b, ot, oq, tk, t1, t2, n, m, e, a1, a2, a3, _⟩ := hz.ex
    subst e
    refine ⟨.int z.1 tk :: fs, PySem.W.KatTups.cons a1 a2 a3 rfl h1, by rw [List.length_cons, List.length_cons, h2], fun f hm => ?_⟩
    cases hm with
    | head => exact ⟨z.1, tk, rfl⟩
    | tail _ m => exact h3 f m
theorem tri_sortable {a : Addr} {vs : List Value} {k : Value → Int × Int × Int} (hu : A.units + 1 < cLine) (h0 : 0 < vs.length) (hp : ∀ v ∈ vs, TriAt s.heap v (k v)) (ha : ∀ o, s.heap.get? a = some o → o.cls ≠ .type "tuple") :
    SrtO.SortableO prog w A s a vs fun v u => lex3 (k v) (k u) := by
  intro h' keep
  have hp' : ∀ v ∈ vs, TriAt h' v (k v) := fun v hm => (hp v hm).keeps fun b o e c => keep b o (fun z => by subst z; exact ha o e c) e
  obtain ⟨fs, h1, h2, h3⟩ := tri_firsts fun v hm => ⟨_, hp' v hm⟩
  refine ⟨tuples' true, fun Q E hq => ?_, tri_cmp (s := { s with heap := h' }) hu hp'⟩
  refine PySem.W.kat_kind (T := .type "int") h1 (by omega) (fun f mf => ?_) (by rfl) ?_
  · obtain ⟨i, ti, rfl⟩ := h3 f mf
    exact PySem.W.Looks.now
  · rw [show (Value.type "int" != Value.type "tuple") = true by first | decide +kernel | rfl]
    exact hq
end
open Classical in
noncomputable def k3 (h : Heap) (v : Value) : Int × Int × Int := if q : ∃ z, TriAt h v z then q.choose else (0, 0, 0)
theorem k3_ok {h : Heap} {v : Value} {z : Int × Int × Int} (p : TriAt h v z) : TriAt h v (k3 h v) := by
  have q : ∃ z, TriAt h v z := ⟨z, p⟩
  unfold k3
  rw [dif_pos q]
  exact q.choose_spec
section
variable {X : Cx}
def rSorted3 (K : PySem.W.Frag) : List V → Hp → VK → Prop := fun vs H Q => ∃ (a : Addr) (xs : List V), vs = [V.ref a] ∧ SqL K H a xs ∧ (∀ x ∈ xs, ∃ t q i j k, x = V.ref t ∧ H t = some (.tup [.int i, .ref q]) ∧ H q = some (.tup [.int j, .int k])) ∧
  ∀ (ys : List V) (p : Addr), ys.Perm xs → H p = none → Q (.ref p) (upd H p (.lst ys))
theorem cr_sorted3 (hu : X.A.units + 8 < cLine) : CallR X (.builtin "sorted") (rSorted3 X.K) := by
  rintro pins s σ H _ us Q I r ⟨a, xs, rfl, isL, hx, q⟩
  obtain ⟨its, rv, hl, hz⟩ := I.list isL
  obtain rfl : us = [.ref a] := Vals.ref1 r
  have tri : ∀ v ∈ its, TriAt s.heap v (k3 s.heap v) := fun v hv => by
    have : ∀ {xs : List V} {its : List Value}, Vals xs its → ∀ v ∈ its, ∃ x ∈ xs, RelV x v := fun {xs its} r => by
      induction r with
      | nil => intro v hv; exact nomatch hv
      | @cons x u xs us r1 r2 ih =>
        intro v hv
        rcases List.mem_cons.mp hv with e | hv
        · exact ⟨x, List.mem_cons_self, e ▸ r1⟩
        · obtain ⟨y, m, ry⟩ := ih v hv
          exact ⟨y, List.mem_cons_of_mem _ m, ry⟩
    obtain ⟨x, hm, rx⟩ := this rv v hv
    obtain ⟨t, b, i, j, k, rfl, ht, hb⟩ := hx x hm
    obtain rfl : v = .ref t := rx
    obtain ⟨_, i1, r1, o1, h1, c1, n1, d1⟩ := I.hok _ _ ht
    obtain ⟨_, i2, r2, o2, h2, c2, n2, d2⟩ := I.hok _ _ hb
    obtain ⟨u1, u2, rfl, s1, s2⟩ := vals2 r1
    obtain ⟨w1, w2, rfl, s3, s4⟩ := vals2 r2
    obtain ⟨tk, rfl⟩ := s1
    obtain rfl : u2 = .ref b := s2
    obtain ⟨t1, rfl⟩ := s3
    obtain ⟨t2, rfl⟩ := s4
    exact k3_ok (z := (i, j, k)) ⟨t, b, o1, o2, tk, t1, t2, n1, n2, rfl, h1, c1, d1, h2, c2, d2⟩
  refine SrtO.sorted_ord (swo3 (k3 s.heap)) hl.isList (by rw [← rv.length]; exact hz) (fun h2 h₁ a₁ ha kk => ?_) fun out hs' hb => ?_
  · refine tri_sortable (s := { s with heap := h₁ }) (by show X.A.units + 1 + 1 + 1 < cLine; omega) (by omega) (fun v hm => (tri v hm).keeps fun b o e _ => (kk b o e).2) fun o e => ?_
    have e' : some o = some (seqObj "list" its.toArray 0) := e.symm.trans ha
    cases e'
    intro c
    injection c with c
    exact absurd c (by decide)
  · -- the same items in another order
    have refs : ∀ u ∈ its, ∃ b, u = Value.ref b := fun u hu => by
      obtain ⟨t, _, _, _, _, _, _, _, _, e, _⟩ := (tri u hu).ex
      exact ⟨t, e⟩
    have back : ∀ {xs : List V} {its : List Value}, Vals xs its → (∀ u ∈ its, ∃ b, u = Value.ref b) → xs = its.map Srt_back := fun {xs its} r => by
      induction r with
      | nil => intro _; rfl
      | @cons x u xs us r1 r2 ih =>
        intro hu
        obtain ⟨b, rfl⟩ := hu u List.mem_cons_self
        rw [List.map_cons, ih fun v hv => hu v (List.mem_cons_of_mem _ hv)]
        congr 1
        exact r1.inj (show RelV (.ref b) (.ref b) from rfl)
    have fwd : ∀ l : List Value, (∀ u ∈ l, ∃ b, u = Value.ref b) → Vals (l.map Srt_back) l := fun l => by
      induction l with
      | nil => intro _; exact .nil
      | cons u l ih =>
        intro hl
        obtain ⟨b, rfl⟩ := hl u List.mem_cons_self
        exact .cons rfl (ih fun v hv => hl v (List.mem_cons_of_mem _ hv))
    have pm : (out.map Srt_back).Perm xs := by
      rw [back rv refs]
      exact hb.perm.map _
    obtain ⟨n, hn⟩ := PyProof.Rows.sortedAll_at s.heap its out.toArray
    have hd : s.heap.objs.size ≤ s.heap.objs.size + 1 := Nat.le_succ _
    refine ⟨.ref (s.heap.objs.size + 1), upd H (s.heap.objs.size + 1) (.lst (out.map Srt_back)), I.laid (t' := s.toks) (fun b o e => PyProof.Rows.sortedAll_old e) hd ⟨?_, out, n, fwd out fun u hu => refs u (hb.perm.mem_iff.mp hu), hn⟩, rfl, q _ _ pm (I.hok.fresh hd)⟩
    rw [pm.length_eq]
    exact hz
end
end Kt
namespace Kt
open PySem PySem.Spec PyProof.Rows L2
open Evl (Ex Ev EvT EvO)
def topS (i : Nat) : Stmt := PySem.Challenge.pw_kepttogether_k59_whole_related_propertie.main.body.getD i (.Pass ⟨0, 0, 0, 0⟩)
abbrev s_is_between : Stmt := topS 7
abbrev N_is_between : List Str := ["value", "low", "high"]
theorem sc_is_between : FnScope N_is_between ["value", "low", "high"] (defScope s_is_between) := ⟨rfl, rfl, rfl, by decide +kernel, rfl, by decide +kernel, by decide +kernel⟩
abbrev s_is_set : Stmt := topS 8
abbrev N_is_set : List Str := ["value", "size", "at", "one"]
theorem sc_is_set : FnScope N_is_set ["value", "size"] (defScope s_is_set) := ⟨rfl, rfl, rfl, by decide +kernel, rfl, by decide +kernel, by decide +kernel⟩
abbrev s_is_system : Stmt := topS 9
abbrev N_is_system : List Str := ["value", "one"]
theorem sc_is_system : FnScope N_is_system ["value"] (defScope s_is_system) := ⟨rfl, rfl, rfl, by decide +kernel, rfl, by decide +kernel, by decide +kernel⟩
abbrev s_check_system : Stmt := topS 10
abbrev N_check_system : List Str := ["value"]
theorem sc_check_system : FnScope N_check_system ["value"] (defScope s_check_system) := ⟨rfl, rfl, rfl, by decide +kernel, rfl, by decide +kernel, by decide +kernel⟩
abbrev s_is_pair : Stmt := topS 12
abbrev N_is_pair : List Str := ["value", "size", "one"]
theorem sc_is_pair : FnScope N_is_pair ["value", "size"] (defScope s_is_pair) := ⟨rfl, rfl, rfl, by decide +kernel, rfl, by decide +kernel, by decide +kernel⟩
abbrev s_steps_by : Stmt := topS 13
abbrev N_steps_by : List Str := ["chosen", "pair", "x", "y", "found", "other"]
theorem sc_steps_by : FnScope N_steps_by ["chosen", "pair"] (defScope s_steps_by) := ⟨rfl, rfl, rfl, by decide +kernel, rfl, by decide +kernel, by decide +kernel⟩
abbrev s_steps_of : Stmt := topS 14
abbrev N_steps_of : List Str := ["system", "pair", "found", "at", "chosen", "other"]
theorem sc_steps_of : FnScope N_steps_of ["system", "pair"] (defScope s_steps_of) := ⟨rfl, rfl, rfl, by decide +kernel, rfl, by decide +kernel, by decide +kernel⟩
abbrev s_class_in : Stmt := topS 15
abbrev N_class_in : List Str := ["system", "pair", "seen", "waiting", "_", "other"]
theorem sc_class_in : FnScope N_class_in ["system", "pair"] (defScope s_class_in) := ⟨rfl, rfl, rfl, by decide +kernel, rfl, by decide +kernel, by decide +kernel⟩
abbrev s_linked : Stmt := topS 16
abbrev N_linked : List Str := ["system", "pair", "other"]
theorem sc_linked : FnScope N_linked ["system", "pair", "other"] (defScope s_linked) := ⟨rfl, rfl, rfl, by decide +kernel, rfl, by decide +kernel, by decide +kernel⟩
abbrev s_reversed_in : Stmt := topS 17
abbrev N_reversed_in : List Str := ["system", "x", "y"]
theorem sc_reversed_in : FnScope N_reversed_in ["system"] (defScope s_reversed_in) := ⟨rfl, rfl, rfl, by decide +kernel, rfl, by decide +kernel, by decide +kernel⟩
abbrev s_is_contradictory_of : Stmt := topS 18
abbrev N_is_contradictory_of : List Str := ["system"]
theorem sc_is_contradictory_of : FnScope N_is_contradictory_of ["system"] (defScope s_is_contradictory_of) := ⟨rfl, rfl, rfl, by decide +kernel, rfl, by decide +kernel, by decide +kernel⟩
abbrev s_ways_from : Stmt := topS 20
abbrev N_ways_from : List Str := ["system", "pair", "came", "waiting", "here", "at", "goal"]
theorem sc_ways_from : FnScope N_ways_from ["system", "pair"] (defScope s_ways_from) := ⟨rfl, rfl, rfl, by decide +kernel, rfl, by decide +kernel, by decide +kernel⟩
abbrev s_shortest_of : Stmt := topS 21
abbrev N_shortest_of : List Str := ["system", "pair", "other", "came", "steps", "here", "before", "at"]
theorem sc_shortest_of : FnScope N_shortest_of ["system", "pair", "other"] (defScope s_shortest_of) := ⟨rfl, rfl, rfl, by decide +kernel, rfl, by decide +kernel, by decide +kernel⟩
abbrev s_refutation_of : Stmt := topS 22
abbrev N_refutation_of : List Str := ["system", "best", "low", "high", "chain"]
theorem sc_refutation_of : FnScope N_refutation_of ["system"] (defScope s_refutation_of) := ⟨rfl, rfl, rfl, by decide +kernel, rfl, by decide +kernel, by decide +kernel⟩
abbrev s_is_property : Stmt := topS 27
abbrev N_is_property : List Str := ["value", "size", "word", "one"]
theorem sc_is_property : FnScope N_is_property ["value", "size"] (defScope s_is_property) := ⟨rfl, rfl, rfl, by decide +kernel, rfl, by decide +kernel, by decide +kernel⟩
abbrev s_check_asked : Stmt := topS 28
abbrev N_check_asked : List Str := ["system", "asked"]
theorem sc_check_asked : FnScope N_check_asked ["system", "asked"] (defScope s_check_asked) := ⟨rfl, rfl, rfl, by decide +kernel, rfl, by decide +kernel, by decide +kernel⟩
abbrev s_as_pairs : Stmt := topS 29
abbrev N_as_pairs : List Str := ["asked"]
theorem sc_as_pairs : FnScope N_as_pairs ["asked"] (defScope s_as_pairs) := ⟨rfl, rfl, rfl, by decide +kernel, rfl, by decide +kernel, by decide +kernel⟩
abbrev s_asked_links : Stmt := topS 30
abbrev N_asked_links : List Str := ["size", "asked", "chosen", "found", "z", "x", "y"]
theorem sc_asked_links : FnScope N_asked_links ["size", "asked"] (defScope s_asked_links) := ⟨rfl, rfl, rfl, by decide +kernel, rfl, by decide +kernel, by decide +kernel⟩
abbrev s_is_always : Stmt := topS 31
abbrev N_is_always : List Str := ["system", "asked", "pair", "other"]
theorem sc_is_always : FnScope N_is_always ["system", "asked"] (defScope s_is_always) := ⟨rfl, rfl, rfl, by decide +kernel, rfl, by decide +kernel, by decide +kernel⟩
abbrev s_with_set : Stmt := topS 32
abbrev N_with_set : List Str := ["system", "chosen"]
theorem sc_with_set : FnScope N_with_set ["system", "chosen"] (defScope s_with_set) := ⟨rfl, rfl, rfl, by decide +kernel, rfl, by decide +kernel, by decide +kernel⟩
abbrev s_against_first : Stmt := topS 33
abbrev N_against_first : List Str := ["system", "x", "y", "ends", "pair"]
theorem sc_against_first : FnScope N_against_first ["system", "x"] (defScope s_against_first) := ⟨rfl, rfl, rfl, by decide +kernel, rfl, by decide +kernel, by decide +kernel⟩
abbrev s_never_chain : Stmt := topS 34
abbrev N_never_chain : List Str := ["system", "asked", "pair", "other", "ends"]
theorem sc_never_chain : FnScope N_never_chain ["system", "asked"] (defScope s_never_chain) := ⟨rfl, rfl, rfl, by decide +kernel, rfl, by decide +kernel, by decide +kernel⟩
abbrev s_told_of : Stmt := topS 35
abbrev N_told_of : List Str := ["system", "asked"]
theorem sc_told_of : FnScope N_told_of ["system", "asked"] (defScope s_told_of) := ⟨rfl, rfl, rfl, by decide +kernel, rfl, by decide +kernel, by decide +kernel⟩
abbrev s_check_possible : Stmt := topS 36
abbrev N_check_possible : List Str := ["system", "asked"]
theorem sc_check_possible : FnScope N_check_possible ["system", "asked"] (defScope s_check_possible) := ⟨rfl, rfl, rfl, by decide +kernel, rfl, by decide +kernel, by decide +kernel⟩
abbrev s_told : Stmt := topS 37
abbrev N_told : List Str := ["system", "asked"]
theorem sc_told : FnScope N_told ["system", "asked"] (defScope s_told) := ⟨rfl, rfl, rfl, by decide +kernel, rfl, by decide +kernel, by decide +kernel⟩
abbrev s_law_stream : Stmt := topS 39
abbrev N_law_stream : List Str := ["_law_script"]
theorem sc_law_stream : FnScope N_law_stream ["_law_script"] (defScope s_law_stream) := ⟨rfl, rfl, rfl, by decide +kernel, rfl, by decide +kernel, by decide +kernel⟩
abbrev s_law_next : Stmt := topS 40
abbrev N_law_next : List Str := ["_law_stream_here", "_law_many", "_law_digit", "_law_k", "_law_cell"]
theorem sc_law_next : FnScope N_law_next ["_law_stream_here", "_law_many"] (defScope s_law_next) := ⟨rfl, rfl, rfl, by decide +kernel, rfl, by decide +kernel, by decide +kernel⟩
abbrev s_law_shuffled : Stmt := topS 41
abbrev N_law_shuffled : List Str := ["_law_stream_here", "_law_many", "_law_left", "_law_found", "_law_turn"]
theorem sc_law_shuffled : FnScope N_law_shuffled ["_law_stream_here", "_law_many"] (defScope s_law_shuffled) := ⟨rfl, rfl, rfl, by decide +kernel, rfl, by decide +kernel, by decide +kernel⟩
abbrev s_law_set : Stmt := topS 42
abbrev N_law_set : List Str := ["_law_stream_here", "_law_row", "_law_low", "_law_high", "_law_one"]
theorem sc_law_set : FnScope N_law_set ["_law_stream_here", "_law_row"] (defScope s_law_set) := ⟨rfl, rfl, rfl, by decide +kernel, rfl, by decide +kernel, by decide +kernel⟩
abbrev s_law_system : Stmt := topS 43
abbrev N_law_system : List Str := ["_law_stream_here", "_law_least", "_law_most", "_law_many", "_law_size", "_law_row", "_law_wild", "_law_sets", "_law_turn", "_law_low", "_law_high"]
theorem sc_law_system : FnScope N_law_system ["_law_stream_here", "_law_least", "_law_most", "_law_many"] (defScope s_law_system) := ⟨rfl, rfl, rfl, by decide +kernel, rfl, by decide +kernel, by decide +kernel⟩
abbrev s_law_rows : Stmt := topS 44
abbrev N_law_rows : List Str := ["_law_size", "_law_rows_here", "_law_turn", "_law_longer", "_law_row", "_law_one"]
theorem sc_law_rows : FnScope N_law_rows ["_law_size"] (defScope s_law_rows) := ⟨rfl, rfl, rfl, by decide +kernel, rfl, by decide +kernel, by decide +kernel⟩
abbrev s_law_is_together : Stmt := topS 45
abbrev N_law_is_together : List Str := ["_law_chosen", "_law_row", "_law_places", "_law_at"]
theorem sc_law_is_together : FnScope N_law_is_together ["_law_chosen", "_law_row"] (defScope s_law_is_together) := ⟨rfl, rfl, rfl, by decide +kernel, rfl, by decide +kernel, by decide +kernel⟩
abbrev s_law_keeps : Stmt := topS 46
abbrev N_law_keeps : List Str := ["_law_system_here", "_law_row", "_law_chosen"]
theorem sc_law_keeps : FnScope N_law_keeps ["_law_system_here", "_law_row"] (defScope s_law_keeps) := ⟨rfl, rfl, rfl, by decide +kernel, rfl, by decide +kernel, by decide +kernel⟩
abbrev s_law_keeping : Stmt := topS 47
abbrev N_law_keeping : List Str := ["_law_system_here", "_law_row"]
theorem sc_law_keeping : FnScope N_law_keeping ["_law_system_here"] (defScope s_law_keeping) := ⟨rfl, rfl, rfl, by decide +kernel, rfl, by decide +kernel, by decide +kernel⟩
abbrev s_law_pairs : Stmt := topS 48
abbrev N_law_pairs : List Str := ["_law_size", "_law_found", "_law_x", "_law_y"]
theorem sc_law_pairs : FnScope N_law_pairs ["_law_size"] (defScope s_law_pairs) := ⟨rfl, rfl, rfl, by decide +kernel, rfl, by decide +kernel, by decide +kernel⟩
abbrev s_law : Stmt := topS 49
abbrev N_law : List Str := ["_law_script", "_law_stream_here", "_law_system_here", "_law_pairs_here", "_law_one", "_law_other", "_law_both", "_law_sure", "_law_x", "_law_y", "_law_z", "_law_between", "_law_chosen"]
theorem sc_law : FnScope N_law ["_law_script"] (defScope s_law) := ⟨rfl, rfl, rfl, by decide +kernel, rfl, by decide +kernel, by decide +kernel⟩

/-! ### what the names of the module hold -/
structure Bi (mg : Str → Option Value) : Prop where
  len : mg "len" = none
  isinstance : mg "isinstance" = none
  all : mg "all" = none
  any : mg "any" = none
  sorted : mg "sorted" = none
  enumerate : mg "enumerate" = none
  range : mg "range" = none
  zip : mg "zip" = none
  abs : mg "abs" = none
  min : mg "min" = none
  max : mg "max" = none
  int : mg "int" = none
  bool : mg "bool" = none
  str : mg "str" = none
  tuple : mg "tuple" = none
  list : mg "list" = none
  mostE : ∃ t, mg "MOST_ELEMENTS" = some (.int 8 t)
  mostS : ∃ t, mg "MOST_SETS" = some (.int 8 t)
  always : ∃ t, mg "ALWAYS" = some (.str "always" t)
  sometimes : ∃ t, mg "SOMETIMES" = some (.str "sometimes" t)
  never : ∃ t, mg "NEVER" = some (.str "never" t)
/-- a def of the text, kept -/
structure Ok (P : Program) (w : World) (K : PySem.W.Frag) (mg : Str → Option Value) (base : Heap) (name : Str) (k : Nat) (ps : List Str) (sp : Sp) : Prop where
  ex : ∃ f fd, mg name = some (.ref f) ∧ PySem.W.keepIn K (.ref f) = true ∧ Binds K fd ps [] ∧ FnOk P w K mg base CX0 k f fd ps sp
/-- .. as it stands -/
structure Df (K : PySem.W.Frag) (mg : Str → Option Value) (name : Str) (st : Stmt) (ps : List Str) : Prop where
  ex : ∃ f fd, mg name = some (.ref f) ∧ Binds K fd ps [] ∧ Fun K name name st f fd
theorem pe_callOk {X : Cx} {name : Str} {k : Nat} {ps : List Str} {sp : Sp} {e : Expr} {es : List Expr} {t : TA} {p pos : Pos} (O : Ok X.prog X.w X.K X.mg X.base name k ps sp) (hr : Room k X.A) (hg : Gl X name)
    (ha : PA X (e :: es) t) (hdb : (name == ("__debug__" : Str)) = false := by decide) (he : starEach (e :: es) X.env = (false, eval e X.env) :: starEach es X.env := by rfl) (hpl : (backTo pos (starEach es X.env)).any (·.1) = false := by rfl) :
    PE X (.Call (.Name name p) (e :: es) [] pos) (tCall sp [] E0 t) := by
  obtain ⟨f, fd, hm, hk, hb, F⟩ := O.ex
  exact pe_call F hr hg hm hk hb .nil pass0 ha hdb he hpl
theorem Df.ok {P : Program} {w : World} {K : PySem.W.Frag} {mg : Str → Option Value} {base : Heap} {name : Str} {st : Stmt} {N ps : List Str} {k : Nat} {sp : Sp} (D : Df K mg name st ps) (S : FnScope N ps (defScope st)) (len : ∀ vs H Q E, sp vs H Q E → vs.length = ps.length)
    (hbody : ∀ (f : Addr) (cdv : Value) (A : Around) (outer : List Env) (s : Shared) (H : Hp) (vs : List V) (Q : VK) (E : XK), Room k (A.deeper (envOfC name (defScope st) s.heap.objs.size f cdv)) → sp vs H Q E →
      ∃ t, PSs (cxOf CX0 P w K mg base N name (defScope st) f cdv A outer s H E).nox (defBody st) t ∧ t { nx := fun _ H' => Q .non H', rt := Q } (start N vs) H) : Ok P w K mg base name (k + 1) ps sp := by
  obtain ⟨f, fd, hm, hb, F⟩ := D.ex
  exact ⟨f, fd, hm, F.kp, hb, F.ok S len fun cdv A outer s H vs Q E hr h => hbody f cdv A outer s H vs Q E hr h⟩
/-- a module's constant -/
theorem pe_gI {X : Cx} {x : Str} {i : Int} {pos : Pos} (hg : Gl X x) (hm : ∃ t, X.mg x = some (.int i t)) (hd : (x == ("__debug__" : Str)) = false := by decide) : PE X (.Name x pos) (tC (.int i)) := by
  obtain ⟨t, hm⟩ := hm
  exact pe_glob hg hm ⟨t, rfl⟩ hd
theorem pe_gS {X : Cx} {x i : Str} {pos : Pos} (hg : Gl X x) (hm : ∃ t, X.mg x = some (.str i t)) (hd : (x == ("__debug__" : Str)) = false := by decide) : PE X (.Name x pos) (tC (.str i)) := by
  obtain ⟨t, hm⟩ := hm
  exact pe_glob hg hm ⟨t, rfl⟩ hd

/-! ### rules with the written part told (a comprehension's block may not name its own) -/
section
variable {X : Cx} {K : PySem.W.Frag}
theorem ixT (h : X.K = K := by rfl) : IxR X (rIxT K) := h ▸ ix_tup
theorem inS (h : X.K = K := by rfl) : OpR X (compareOp .In) (rIn K false) := h ▸ op_in_seq
theorem niS (h : X.K = K := by rfl) : OpR X (compareOp .NotIn) (rIn K true) := h ▸ op_notIn_seq
theorem pgT {pos : Pos} {es : List Expr} {k : Nat} {t : TGs} {n : Nat} (hK : X.K = K) (hc : X.calm = true) (h : PGs X es t)
    (hn : (assignEach es X.env).length = n := by rfl) (hst : (assignEach es X.env).findIdx? (·.1) = none := by rfl) : PG X (.Tuple es k pos) (gTup K n t) := hK ▸ pg_tup hc h hn hst
theorem catA (h : X.K = K := by rfl) : OpR X (binaryOp .Add) (rCatA K) := h ▸ op_catA
end
/-! ### isinstance, truth -/
theorem Dt.ty {K : PySem.W.Frag} {H : Hp} {v : V} {d : PyData} (h : Dt H v d) : TyX K H v (.type (tyD d)) := by
  cases h with
  | non => exact .base .non
  | bl b => exact .base (.bl b)
  | int i => exact .base (.int i)
  | str x => exact .base (.str x)
  | tup h hs => exact .base (.tup h)
section
variable {K : PySem.W.Frag} {σ : L2.St} {H H' : Hp} {ta tb tc te tx : TE} {t u : TT} {d d1 d2 : PyData} {ds : List PyData}
theorem xisi {T : String} {b : Bool} (ha : EvD ta σ H d) (h : kitB (tyD d) T = some b) : EvD (tCB (rIsi K) (tCons ta (tCons (tC (.ty T)) tNil))) σ H (.bool b) := fun H1 e _ q =>
  ha H1 e _ fun x H2 e2 hx => ⟨x, .ty T, .type (tyD d), .type T, b, rfl, .ty T, hx.ty, kit_ty h, q _ H2 e2 (.bl b)⟩
/-- a tuple's truth -/
def tTruth (K : PySem.W.Frag) (ta : TE) : TT := fun σ H Q => ta σ H fun x H' => ∃ k, TruV K x H' k ∧ Q k H'
theorem xtrT (ha : EvD ta σ H (.tuple ds)) : EvT (fun σ H Q => ta σ H fun x H' => ∃ k, TruV K x H' k ∧ Q k H') σ H (!ds.isEmpty) := fun H1 e _ q =>
  ha H1 e _ fun x H2 e2 hx => by
    obtain ⟨a, xs, rfl, hh, hs⟩ := hx.tup_inv
    refine ⟨!ds.isEmpty, .inr (.inl ⟨xs, SqT.of hh, ?_⟩), q H2 e2⟩
    cases hs <;> rfl
end
end Kt
/-! The plain part: pairs, steps, links, rows. -/
namespace Kt
open PySem

abbrev Pr := Int × Int
def rv (p : Pr) : Pr := (p.2, p.1)
/-- a pair of elements -/
structure Vp (n : Int) (p : Pr) : Prop where
  a0 : 0 ≤ p.1
  a1 : p.1 < n
  b0 : 0 ≤ p.2
  b1 : p.2 < n
  ne : p.1 ≠ p.2
theorem Vp.rv {n : Int} {p : Pr} (h : Vp n p) : Vp n (rv p) := ⟨h.b0, h.b1, h.a0, h.a1, h.ne.symm⟩
/-- a set of elements -/
structure SetOk (n : Int) (c : List Int) : Prop where
  inc : c.Pairwise (· < ·)
  mem : ∀ e ∈ c, 0 ≤ e ∧ e < n
  len : c.length ≤ 8
structure SysOk (n : Int) (S : List (List Int)) : Prop where
  n2 : 2 ≤ n
  n5 : n ≤ 5
  few : S.length ≤ 8
  sets : ∀ c ∈ S, SetOk n c

/-! ### steps and links -/
def StepBy (c : List Int) (p q : Pr) : Prop :=
  (p.1 ∉ c ∧ p.2 ∈ c ∧ q.1 = p.1 ∧ q.2 ∈ c ∧ q.2 ≠ p.2) ∨ (p.2 ∉ c ∧ p.1 ∈ c ∧ q.2 = p.2 ∧ q.1 ∈ c ∧ q.1 ≠ p.1)
def Step (S : List (List Int)) (p q : Pr) : Prop := ∃ c ∈ S, StepBy c p q
inductive Lk (S : List (List Int)) : Pr → Pr → Prop
  | refl (p : Pr) : Lk S p p
  | tail {p q r : Pr} : Lk S p q → Step S q r → Lk S p r
theorem StepBy.symm {c : List Int} {p q : Pr} (h : StepBy c p q) : StepBy c q p := by
  rcases h with ⟨h1, h2, h3, h4, h5⟩ | ⟨h1, h2, h3, h4, h5⟩
  · exact .inl ⟨by rw [h3]; exact h1, h4, h3.symm, h2, h5.symm⟩
  · exact .inr ⟨by rw [h3]; exact h1, h4, h3.symm, h2, h5.symm⟩
theorem StepBy.rv {c : List Int} {p q : Pr} (h : StepBy c p q) : StepBy c (rv p) (rv q) := by
  rcases h with h | h
  · exact .inr h
  · exact .inl h
variable {S : List (List Int)}
theorem Step.symm {p q : Pr} (h : Step S p q) : Step S q p := let ⟨c, m, h⟩ := h; ⟨c, m, h.symm⟩
theorem Step.rv {p q : Pr} (h : Step S p q) : Step S (rv p) (rv q) := let ⟨c, m, h⟩ := h; ⟨c, m, h.rv⟩
theorem Lk.one {p q : Pr} (h : Step S p q) : Lk S p q := .tail (.refl p) h
theorem Lk.trans {p q r : Pr} (a : Lk S p q) (b : Lk S q r) : Lk S p r := by
  induction b with
  | refl => exact a
  | tail _ s ih => exact .tail ih s
theorem Lk.symm {p q : Pr} (a : Lk S p q) : Lk S q p := by
  induction a with
  | refl => exact .refl _
  | tail _ s ih => exact (Lk.one s.symm).trans ih
theorem Lk.rv {p q : Pr} (a : Lk S p q) : Lk S (rv p) (rv q) := by
  induction a with
  | refl => exact .refl _
  | tail _ s ih => exact .tail ih s.rv
theorem Step.vp {n : Int} (hs : ∀ c ∈ S, SetOk n c) {p q : Pr} (h : Step S p q) (v : Vp n p) : Vp n q := by
  obtain ⟨c, m, h⟩ := h
  rcases h with ⟨h1, h2, h3, h4, h5⟩ | ⟨h1, h2, h3, h4, h5⟩
  · obtain ⟨b0, b1⟩ := (hs c m).mem _ h4
    refine ⟨by rw [h3]; exact v.a0, by rw [h3]; exact v.a1, b0, b1, fun e => ?_⟩
    rw [h3] at e
    rw [← e] at h4
    exact h1 h4
  · obtain ⟨b0, b1⟩ := (hs c m).mem _ h4
    refine ⟨b0, b1, by rw [h3]; exact v.b0, by rw [h3]; exact v.b1, fun e => ?_⟩
    rw [h3] at e
    rw [e] at h4
    exact h1 h4
theorem Lk.vp {n : Int} (hs : ∀ c ∈ S, SetOk n c) {p q : Pr} (h : Lk S p q) (v : Vp n p) : Vp n q := by
  induction h with
  | refl => exact v
  | tail _ s ih => exact s.vp hs ih
/-- no pair is linked to its reverse -/
def Nc (n : Int) (S : List (List Int)) : Prop := ∀ p, Vp n p → ¬ Lk S p (rv p)

/-! ### rows -/
structure RowOk (n : Int) (r : List Int) : Prop where
  nd : r.Nodup
  all : ∀ e, 0 ≤ e → e < n → e ∈ r
/-- the places of a set's elements -/
def places (c r : List Int) : List Nat := (List.range r.length).filter fun i => decide (r.getD i 0 ∈ c)
/-- as the law asks it -/
def tog (c r : List Int) : Bool := match places c r with
  | [] => true
  | a :: l => decide (((a :: l).getLastD 0 : Int) - (a : Int) + 1 = (((a :: l).length : Nat) : Int))
def hasP (r : List Int) (p : Pr) : Prop := r.idxOf p.1 < r.idxOf p.2

theorem inc_gap {l : List Nat} (h : l.Pairwise (· < ·)) : ∀ (d i : Nat) (h1 : i + d < l.length), l[i]'(by omega) + d ≤ l[i + d] := by
  intro d
  induction d with
  | zero => intro i h1; exact Nat.le_refl _
  | succ d ih =>
    intro i h1
    have h2 := ih i (by omega)
    have h3 := List.pairwise_iff_getElem.mp h (i + d) (i + (d + 1)) (by omega) h1 (by omega)
    omega
theorem inc_full {a : Nat} {l : List Nat} (h : (a :: l).Pairwise (· < ·)) (e : ((a :: l).getLastD 0 : Int) - (a : Int) + 1 = (((a :: l).length : Nat) : Int)) {k : Nat} (h1 : a ≤ k) (h2 : k ≤ (a :: l).getLastD 0) : k ∈ a :: l := by
  have hl : (a :: l).getLastD 0 = (a :: l)[l.length]'(by simp) := by
    rw [List.getLastD_eq_getLast?, List.getLast?_eq_getElem?]
    simp
  rw [hl] at e h2
  have hlen : (a :: l).length = l.length + 1 := rfl
  have hk : k - a < (a :: l).length := by omega
  have g1 := inc_gap h (k - a) 0 (by omega)
  have g2 := inc_gap h (l.length - (k - a)) (k - a) (by omega)
  have e0 : (a :: l)[0] = a := rfl
  have e1 : (a :: l)[0 + (k - a)]'(by omega) = (a :: l)[k - a] := by congr 1; omega
  have e2 : (a :: l)[k - a + (l.length - (k - a))]'(by omega) = (a :: l)[l.length] := by congr 1; omega
  rw [e1] at g1
  rw [e2] at g2
  have : (a :: l)[k - a] = k := by omega
  rw [← this]
  exact List.getElem_mem hk
theorem inc_last {l : List Nat} (h : l.Pairwise (· < ·)) {k : Nat} (hk : k ∈ l) : k ≤ l.getLastD 0 := by
  obtain ⟨i, hi, rfl⟩ := List.mem_iff_getElem.mp hk
  have hl : l.getLastD 0 = l[l.length - 1]'(by omega) := by
    rw [List.getLastD_eq_getLast?, List.getLast?_eq_getElem?, List.getElem?_eq_getElem (by omega)]
    rfl
  rw [hl]
  have g := inc_gap h (l.length - 1 - i) i (by omega)
  have e : l[i + (l.length - 1 - i)]'(by omega) = l[l.length - 1] := by congr 1; omega
  omega
theorem inc_head {a : Nat} {l : List Nat} (h : (a :: l).Pairwise (· < ·)) {k : Nat} (hk : k ∈ a :: l) : a ≤ k := by
  rcases List.mem_cons.mp hk with e | m
  · omega
  · exact Nat.le_of_lt ((List.pairwise_cons.mp h).1 k m)
theorem places_inc (c r : List Int) : (places c r).Pairwise (· < ·) := List.Pairwise.filter _ List.pairwise_lt_range
theorem mem_places {c r : List Int} {k : Nat} (hk : k < r.length) : k ∈ places c r ↔ r[k] ∈ c := by
  unfold places
  rw [List.mem_filter, List.mem_range, decide_eq_true_eq, List.getD_eq_getElem?_getD, List.getElem?_eq_getElem hk]
  exact ⟨fun h => h.2, fun h => ⟨hk, h⟩⟩
/-- what stands between two elements of a set that is together belongs to it -/
theorem tog_between {c r : List Int} (h : tog c r = true) {i j k : Nat} (hi : i < r.length) (hj : j < r.length) (hik : i ≤ k) (hkj : k ≤ j) (h1 : r[i] ∈ c) (h2 : r[j] ∈ c) : r[k]'(by omega) ∈ c := by
  have m1 : i ∈ places c r := (mem_places hi).mpr h1
  have m2 : j ∈ places c r := (mem_places hj).mpr h2
  have inc := places_inc c r
  unfold tog at h
  cases hp : places c r with
  | nil => rw [hp] at m1; cases m1
  | cons a l =>
    rw [hp] at h m1 m2 inc
    have e := of_decide_eq_true h
    have k1 := inc_head inc m1
    have k2 := inc_last inc m2
    have m3 : k ∈ places c r := by rw [hp]; exact inc_full inc e (by omega) (by omega)
    exact (mem_places (by omega)).mp m3
theorem at_idx {r : List Int} {x : Int} (h : x ∈ r) : ∃ hi : r.idxOf x < r.length, r[r.idxOf x] = x := ⟨List.idxOf_lt_length_of_mem h, List.getElem_idxOf _⟩
theorem idx_ne {r : List Int} {x y : Int} (hx : x ∈ r) (hy : y ∈ r) (ne : x ≠ y) : r.idxOf x ≠ r.idxOf y := fun e => by
  obtain ⟨h1, e1⟩ := at_idx hx
  obtain ⟨h2, e2⟩ := at_idx hy
  apply ne
  rw [← e1, ← e2]
  congr 1
/-- an element that is not in the set stands on one side of it -/
theorem tog_side {c r : List Int} (h : tog c r = true) {x y z : Int} (hx : x ∈ r) (hy : y ∈ r) (hz : z ∈ r) (cx : x ∈ c) (cy : y ∈ c) (cz : z ∉ c) (l : r.idxOf x < r.idxOf z) : r.idxOf y < r.idxOf z := by
  obtain ⟨ix, ex⟩ := at_idx hx
  obtain ⟨iy, ey⟩ := at_idx hy
  obtain ⟨iz, ez⟩ := at_idx hz
  refine Classical.byContradiction fun n => cz ?_
  have m := tog_between h ix iy (Nat.le_of_lt l) (Nat.le_of_not_lt n) (by rw [ex]; exact cx) (by rw [ey]; exact cy)
  rw [ez] at m
  exact m
theorem tog_iff {c r : List Int} (h : tog c r = true) {x y z : Int} (hx : x ∈ r) (hy : y ∈ r) (hz : z ∈ r) (cx : x ∈ c) (cy : y ∈ c) (cz : z ∉ c) : (r.idxOf x < r.idxOf z ↔ r.idxOf y < r.idxOf z) ∧ (r.idxOf z < r.idxOf x ↔ r.idxOf z < r.idxOf y) := by
  have nx : r.idxOf x ≠ r.idxOf z := idx_ne hx hz fun e => cz (e ▸ cx)
  have ny : r.idxOf y ≠ r.idxOf z := idx_ne hy hz fun e => cz (e ▸ cy)
  have a := tog_side h hx hy hz cx cy cz
  have b := tog_side h hy hx hz cy cx cz
  constructor <;> constructor <;> intro l <;> omega
/-- a step keeps what a keeping row has -/
theorem Step.has {n : Int} {r : List Int} (hr : RowOk n r) (hk : ∀ c ∈ S, tog c r = true) {p q : Pr} (v : Vp n p) (w : Vp n q) (h : Step S p q) : hasP r p ↔ hasP r q := by
  obtain ⟨c, m, h⟩ := h
  have p1 := hr.all _ v.a0 v.a1
  have p2 := hr.all _ v.b0 v.b1
  have q1 := hr.all _ w.a0 w.a1
  have q2 := hr.all _ w.b0 w.b1
  unfold hasP
  rcases h with ⟨h1, h2, h3, h4, h5⟩ | ⟨h1, h2, h3, h4, h5⟩
  · rw [h3]
    exact (tog_iff (hk c m) p2 q2 p1 h2 h4 h1).2
  · rw [h3]
    exact (tog_iff (hk c m) p1 q1 p2 h2 h4 h1).1
theorem Lk.has {n : Int} {r : List Int} (hs : ∀ c ∈ S, SetOk n c) (hr : RowOk n r) (hk : ∀ c ∈ S, tog c r = true) {p q : Pr} (v : Vp n p) (h : Lk S p q) : hasP r p ↔ hasP r q := by
  induction h with
  | refl => exact Iff.rfl
  | tail a s ih => exact ih.trans (s.has hr hk (a.vp hs v) (s.vp hs (a.vp hs v)))
/-- where some row keeps all sets, no pair is linked to its reverse -/
theorem nc_of {n : Int} {r : List Int} (hs : ∀ c ∈ S, SetOk n c) (hr : RowOk n r) (hk : ∀ c ∈ S, tog c r = true) : Nc n S := fun p v h => by
  have e := h.has hs hr hk v
  have n := idx_ne (hr.all _ v.a0 v.a1) (hr.all _ v.b0 v.b1) v.ne
  unfold hasP rv at e
  dsimp only at e
  omega

/-! ### what is told -/
inductive Ask where
  | eqv (p q : Pr) | btw (x y z : Int) | tog (c : List Int) | fst (x : Int)
def Ask.prs : Ask → Pr × Pr
  | .eqv p q => (p, q)
  | .btw x y z => ((x, y), (y, z))
  | _ => ((0, 0), (0, 0))
def Ask.ok (n : Int) : Ask → Prop
  | .eqv p q => Vp n p ∧ Vp n q
  | .btw x y z => (0 ≤ x ∧ x < n) ∧ (0 ≤ y ∧ y < n) ∧ (0 ≤ z ∧ z < n) ∧ x ≠ y ∧ y ≠ z ∧ x ≠ z
  | .tog c => SetOk n c
  | .fst x => 0 ≤ x ∧ x < n
/-- each z outside, each two neighbours x, y in c -/
def togLinks (n : Nat) (c : List Int) : List (Pr × Pr) :=
  (List.range n).flatMap fun z : Nat => if (z : Int) ∈ c then [] else (c.zip (c.drop 1)).map fun p => ((p.1, (z : Int)), (p.2, (z : Int)))
/-- all links that are asked stand -/
def TogAll (n : Int) (S : List (List Int)) (c : List Int) : Prop := ∀ l ∈ togLinks n.toNat c, Lk S l.1 l.2
theorem zip_mem {c : List Int} {p : Int × Int} (h : p ∈ c.zip (c.drop 1)) : p.1 ∈ c ∧ p.2 ∈ c := by
  obtain ⟨x, y⟩ := p
  have m := List.of_mem_zip h
  exact ⟨m.1, List.mem_of_mem_drop m.2⟩
theorem togAll_of {n : Int} {c : List Int} (h : ∀ z x y : Int, z ∉ c → 0 ≤ z → z < n → x ∈ c → y ∈ c → (x, y) ∈ c.zip (c.drop 1) → Lk S (x, z) (y, z)) : TogAll n S c := by
  intro l hl
  unfold togLinks at hl
  obtain ⟨z, hz, hm⟩ := List.mem_flatMap.mp hl
  have hz' := List.mem_range.mp hz
  by_cases hc : (z : Int) ∈ c
  · rw [if_pos hc] at hm; cases hm
  · rw [if_neg hc] at hm
    obtain ⟨p, hp, rfl⟩ := List.mem_map.mp hm
    have m := zip_mem hp
    exact h z p.1 p.2 hc (by omega) (by omega) m.1 m.2 hp
theorem togAll_set {n : Int} {c : List Int} (h : c ∈ S) : TogAll n S c := togAll_of fun z x y hz _ _ hx hy _ => by
  by_cases e : x = y
  · rw [e]; exact .refl _
  · exact Lk.one ⟨c, h, .inr ⟨hz, hx, rfl, hy, fun q => e q.symm⟩⟩
theorem togAll_nil {n : Int} : TogAll n S [] := togAll_of fun _ _ _ _ _ _ hx => by cases hx
theorem togAll_one {n k : Int} : TogAll n S [k] := togAll_of fun _ _ _ _ _ _ _ _ h => by simp at h
theorem togAll_full {n : Int} {c : List Int} (h : ∀ z : Int, 0 ≤ z → z < n → z ∈ c) : TogAll n S c := togAll_of fun z _ _ hz h0 h1 => absurd (h z h0 h1) hz

/-! ### the words that come back -/
open Classical in
noncomputable def lkB (S : List (List Int)) (p q : Pr) : Bool := decide (Lk S p q)
theorem lkB_iff {p q : Pr} : lkB S p q = true ↔ Lk S p q := by simp [lkB]
theorem lkB_eq {p q p' q' : Pr} (h : Lk S p q ↔ Lk S p' q') : lkB S p q = lkB S p' q' := by
  cases e : lkB S p' q' with
  | true => exact lkB_iff.mpr (h.mpr (lkB_iff.mp e))
  | false =>
    cases e2 : lkB S p q with
    | false => rfl
    | true =>
      have := lkB_iff.mpr (h.mp (lkB_iff.mp e2))
      rw [e] at this
      cases this
noncomputable def eqvW (S : List (List Int)) (p q : Pr) : Str := if lkB S p q then "always" else if lkB S p (rv q) then "never" else "sometimes"
theorem rv_rv (p : Pr) : rv (rv p) = p := rfl
theorem Lk.comm {p q : Pr} : Lk S p q ↔ Lk S q p := ⟨Lk.symm, Lk.symm⟩
theorem Lk.rvs {p q : Pr} : Lk S (Kt.rv p) (Kt.rv q) ↔ Lk S p q := ⟨fun h => Lk.rv h, Lk.rv⟩
/-- the second asked the other way round -/
theorem eqvW_rev {n : Int} (nc : Nc n S) {p q : Pr} (vq : Vp n q) : (eqvW S p q = "always" ∧ eqvW S p (rv q) = "never") ∨ (eqvW S p q = "never" ∧ eqvW S p (rv q) = "always") ∨ (eqvW S p q = "sometimes" ∧ eqvW S p (rv q) = "sometimes") := by
  unfold eqvW
  rw [rv_rv]
  cases e1 : lkB S p q with
  | true =>
    cases e2 : lkB S p (rv q) with
    | true => exact absurd ((lkB_iff.mp e1).symm.trans (lkB_iff.mp e2)) (nc q vq)
    | false => exact .inl ⟨rfl, rfl⟩
  | false =>
    cases e2 : lkB S p (rv q) with
    | true => exact .inr (.inl ⟨rfl, rfl⟩)
    | false => exact .inr (.inr ⟨rfl, rfl⟩)
theorem eqvW_comm {p q : Pr} : eqvW S q p = eqvW S p q := by
  unfold eqvW
  rw [lkB_eq (S := S) (p := q) (q := p) (p' := p) (q' := q) Lk.comm]
  have h : Lk S q (rv p) ↔ Lk S p (rv q) := by
    rw [← Lk.rvs (S := S) (p := q) (q := rv p)]
    exact Lk.comm
  rw [lkB_eq h]
/-- between, its ends exchanged -/
theorem eqvW_turn {x y z : Int} : eqvW S (z, y) (y, x) = eqvW S (x, y) (y, z) := by
  unfold eqvW
  have h1 : Lk S (z, y) (y, x) ↔ Lk S (x, y) (y, z) := by
    rw [← Lk.rvs (S := S) (p := (z, y)) (q := (y, x))]
    exact Lk.comm
  have h2 : Lk S (z, y) (rv (y, x)) ↔ Lk S (x, y) (rv (y, z)) := Lk.comm
  rw [lkB_eq h1, lkB_eq h2]
end Kt
namespace Kt
open PySem PySem.Spec PyProof.Rows L2
open Evl (Ex Ev EvT EvO)
/-! ### data -/
abbrev iD (i : Int) : PyData := .int i
def pD (p : Pr) : PyData := .tuple [.int p.1, .int p.2]
def sD (c : List Int) : PyData := .tuple (c.map .int)
def SD (n : Int) (S : List (List Int)) : PyData := .tuple [.int n, .tuple (S.map sD)]
theorem DtAll.inv1 {H : Hp} {vs : List V} {a : PyData} (h : DtAll H vs [a]) : ∃ x, vs = [x] ∧ Dt H x a := by
  cases h with | cons h hs => cases hs; exact ⟨_, rfl, h⟩
theorem DtAll.inv2 {H : Hp} {vs : List V} {a b : PyData} (h : DtAll H vs [a, b]) : ∃ x y, vs = [x, y] ∧ Dt H x a ∧ Dt H y b := by
  cases h with | cons h hs => cases hs with | cons h' hs => cases hs; exact ⟨_, _, rfl, h, h'⟩
theorem DtAll.inv3 {H : Hp} {vs : List V} {a b c : PyData} (h : DtAll H vs [a, b, c]) : ∃ x y z, vs = [x, y, z] ∧ Dt H x a ∧ Dt H y b ∧ Dt H z c := by
  cases h with | cons h hs => cases hs with | cons h' hs => cases hs with | cons h'' hs => cases hs; exact ⟨_, _, _, rfl, h, h', h''⟩
theorem spN_len {R : List PyData → (PyData → Prop) → Prop} {n : Nat} (hR : ∀ ds P, R ds P → ds.length = n) {vs : List V} {H : Hp} {Q : VK} {E : XK} (h : spN R vs H Q E) : vs.length = n := by
  obtain ⟨ds, P, hv, r, _⟩ := h
  rw [hv.length, hR ds P r]
theorem spL_len {R : List PyData → (List PyData → Prop) → Prop} {n : Nat} (hR : ∀ ds P, R ds P → ds.length = n) {vs : List V} {H : Hp} {Q : VK} {E : XK} (h : spL R vs H Q E) : vs.length = n := by
  obtain ⟨ds, P, hv, r, _⟩ := h
  rw [hv.length, hR ds P r]
section
variable {P : Program} {w : World} {K : PySem.W.Frag} {mg : Str → Option Value} {base : Heap}

theorem kit_ii : kitB "int" "int" = some true := by decide +kernel
theorem kit_ib : kitB "int" "bool" = some false := by decide +kernel
theorem kit_tt : kitB "tuple" "tuple" = some true := by decide +kernel
theorem kit_ss : kitB "str" "str" = some true := by decide +kernel
section
variable {σ : L2.St} {H H' : Hp} {ta tb te : TE} {t : TT} {d : PyData} {ds : List PyData}
theorem map_const (ds : List PyData) : ds.map (fun _ => PyData.bool true) = (List.replicate ds.length true).map .bool := by
  rw [List.map_const', List.map_replicate]
theorem all_rep (n : Nat) : (List.replicate n true).all id = true := by
  rw [List.all_eq_true]
  intro x hx
  rw [(List.mem_replicate.mp hx).2]
  rfl
/-- all([.. for x in t]), all true -/
theorem xallT {j : Nat} {vs : List Nat} (h : EvD ta σ H (.tuple ds)) (hl : ds.length ≤ 50000) (hw : ∀ x, wipe ((wipe σ vs).set j (some x)) vs = wipe σ vs)
    (he : ∀ d v H1, d ∈ ds → Ex H H1 → Dt H1 v d → EvD te ((wipe σ vs).set j (some v)) H1 (.bool true)) :
    EvD (tCB (rAll K) (tCons (tLc (iTup K ta) (gName j) tYes te vs) tNil)) σ H (.bool true) := by
  have e := xlcT (K := K) (t := tYes) (te := te) (fun _ => true) (fun _ => .bool true) h hl hw (fun _ _ _ _ _ _ => etY) (fun d v H1 m e hd _ => he d v H1 m e hd)
  rw [giv_all _ _ fun _ _ => rfl, map_const] at e
  have q := xall (K := K) e
  rw [all_rep] at q
  exact q
theorem xallR {ta : TA} {j : Nat} {vs : List Nat} {m : Int} (h : EvA ta σ H [.int m]) (hl : m ≤ 50000) (hm : -50000 ≤ m) (hw : ∀ x, wipe ((wipe σ vs).set j (some x)) vs = wipe σ vs)
    (he : ∀ (i : Nat) H1, (i : Int) < m → Ex H H1 → EvD te ((wipe σ vs).set j (some (.int (i : Int)))) H1 (.bool true)) :
    EvD (tCB (rAll K) (tCons (tLc (iRng1 ta) (gName j) tYes te vs) tNil)) σ H (.bool true) := by
  have e := xlcR (t := tYes) (te := te) (fun _ => true) (fun _ => .bool true) h hl hm hw (fun _ _ _ _ => etY) (fun i H1 l e _ => he i H1 l e)
  rw [giv_all _ _ fun _ _ => rfl, map_const] at e
  have q := xall (K := K) e
  rw [all_rep] at q
  exact q
end
theorem len_ints (c : List Int) : (c.map PyData.int).length = c.length := List.length_map ..
theorem mem_ints {c : List Int} {d : PyData} (h : d ∈ c.map PyData.int) : ∃ e ∈ c, d = .int e := by
  obtain ⟨e, m, q⟩ := List.mem_map.mp h
  exact ⟨e, m, q.symm⟩
/-! ### is_between -/
def R_between : List PyData → (PyData → Prop) → Prop := fun ds P => ∃ i lo hi : Int, ds = [.int i, .int lo, .int hi] ∧ P = (· = .bool (decide (lo ≤ i) && decide (i ≤ hi)))
theorem ok_is_between (D : Df K mg "is_between" s_is_between ["value", "low", "high"]) (B : Bi mg) : Ok P w K mg base "is_between" 1 ["value", "low", "high"] (spN R_between) := by
  refine D.ok sc_is_between (fun vs H Q E h => spN_len (fun ds P ⟨_, _, _, e, _⟩ => by rw [e]; rfl) h) (fun f cdv A outer s H vs Q E hr h => ?_)
  obtain ⟨ds, P, hv, ⟨i, lo, hi, rfl, rfl⟩, q⟩ := h
  obtain ⟨v0, v1, v2, rfl, h0, h1, h2⟩ := hv.inv3
  refine ⟨_, (pss_one (ps_ret (pe_and (pe_callB call_isi (by rfl) B.isinstance (by decide +kernel) (pa_cons (pv 0) (pa_cons (pe_bltn (v := .ty "int") rfl B.int (by decide +kernel) rfl) pa_nil))) (pe_and (pe_not (pe_callB call_isi (by rfl) B.isinstance (by decide +kernel) (pa_cons (pv 0) (pa_cons (pe_bltn (v := .ty "bool") rfl B.bool (by decide +kernel) rfl) pa_nil)))) (pe_one (pe_chain op_le op_le (pv 1) (pv 0) (pv 2))))))), ?_⟩
  refine e_ret (d := .bool (true && (true && (decide (lo ≤ i) && decide (i ≤ hi))))) ?_ fun v H1 e hd => q v _ H1 rfl e (by simpa using hd)
  refine xand (xisi (xvar rfl h0) kit_ii) fun _ => ?_
  refine xand (xnot (xisi (b := false) (xvar rfl h0) kit_ib)) fun _ => ?_
  exact xchain (xvar rfl h1) (xvar rfl h0) (xvar rfl h2) rfl rfl

/-! ### is_set -/
def R_set : List PyData → (PyData → Prop) → Prop := fun ds P => ∃ n c, ds = [sD c, .int n] ∧ SetOk n c ∧ P = (· = .bool true)
theorem ok_is_set (D : Df K mg "is_set" s_is_set ["value", "size"]) (B : Bi mg) (O_is_between : Ok P w K mg base "is_between" 1 ["value", "low", "high"] (spN R_between)) : Ok P w K mg base "is_set" 2 ["value", "size"] (spN R_set) := by
  refine D.ok sc_is_set (fun vs H Q E h => spN_len (fun ds P ⟨_, _, e, _⟩ => by rw [e]; rfl) h) (fun f cdv A outer s H vs Q E hr h => ?_)
  obtain ⟨ds, P, hv, ⟨n, c, rfl, hc, rfl⟩, q⟩ := h
  obtain ⟨v0, v1, rfl, h0, h1⟩ := hv.inv2
  have hlen : c.length ≤ 8 := hc.len
  refine ⟨_, (pss_cons (ps_if (PW.pt (pw_or (pt_not (pt_val (pe_callB call_isi (by rfl) B.isinstance (by decide +kernel) (pa_cons (pv 0) (pa_cons (pe_bltn (v := .ty "tuple") rfl B.tuple (by decide +kernel) rfl) pa_nil))))) (pw_or1 (pt_not (pt_val (pe_callB (cr_all rfl) (by rfl) B.all (by decide +kernel) (pa_cons (pe_lc (own := [("one", 3)]) (g := gName 3) (tt := tYes) rfl sc_is_set.nd (pi_tup (pv 0)) (blkOk_by (N := N_is_set) (sc := defScope s_is_set) (by decide +kernel)) (fun _ _ _ _ _ => (pg_name (i := 3) sc_is_set.nd rfl (.inl rfl))) (fun _ _ _ _ _ => pts_nil) (fun _ _ _ _ _ => (pe_callOk O_is_between (hr.mono (by decide)) (by rfl) (pa_cons (pv 3) (pa_cons pe_int (pa_cons (pe_op op_sub (pv 1) pe_int) pa_nil)))))) pa_nil))))))) (pss_one (ps_ret pe_bl)) pss_nil)
      (pss_one (ps_ret (pe_callB (cr_all rfl) (by rfl) B.all (by decide +kernel) (pa_cons (pe_lc (own := [("at", 2)]) (g := gName 2) (tt := tYes) rfl sc_is_set.nd (pi_range1 rfl B.range (pa_cons (pe_op op_sub (pe_callB call_len_seq (by rfl) B.len (by decide +kernel) (pa_cons (pv 0) pa_nil)) pe_int) pa_nil)) (blkOk_by (N := N_is_set) (sc := defScope s_is_set) (by decide +kernel)) (fun _ _ _ _ _ => (pg_name (i := 2) sc_is_set.nd rfl (.inl rfl))) (fun _ _ _ _ _ => pts_nil) (fun _ _ _ _ _ => (pe_cmpR op_lt (pe_ix (ixT (K := K)) (pv 0) (pv 2) (fun _ _ => rfl)) (pe_ix (ixT (K := K)) (pv 0) (pe_op op_add (pv 2) pe_int) (fun _ _ => rfl)) (nomark _)))) pa_nil))))), ?_⟩
  refine z_skip (Evl.et_or (a := false) (b := false) (Evl.et_not (a := true) (xB (xisi (xvar rfl h0) kit_tt))) fun _ => Evl.et_not (a := true) (xB (xallT (xvar rfl h0) (by rw [len_ints]; omega) (fun _ => rfl) fun d v H1 m e hd => ?_))) fun H1 e1 => ?_
  · obtain ⟨i, hi, rfl⟩ := mem_ints m
    obtain ⟨b0, b1⟩ := hc.mem i hi
    refine xcall (xacons (xvar rfl hd) (xacons xint (xacons (xsub (xvar rfl (h1.mono (tx e))) xint) xanil))) ⟨i, 0, n - 1, rfl, ?_⟩
    funext d
    rw [decide_eq_true b0, decide_eq_true (show i ≤ n - 1 by omega)]
    rfl
  · refine e_ret (xallR (xacons (xsub (xlen (xvar rfl (h0.mono (tx e1)))) xint) xanil) (by rw [len_ints]; omega) (by rw [len_ints]; omega) (fun _ => rfl) fun i H2 hi e2 => ?_) fun v H2 e2 hd => q v _ H2 rfl (e1.trans e2) hd
    rw [len_ints] at hi
    have l1 : i < c.length := by omega
    have l2 : i + 1 < c.length := by omega
    have hh := (h0.mono (tx e1)).mono (tx e2)
    have g1 : atI (c.map PyData.int) (i : Int) = some (.int c[i]) := atI_nat (by rw [List.getElem?_map, List.getElem?_eq_getElem l1]; rfl)
    have g2 : atI (c.map PyData.int) ((i : Int) + 1) = some (.int c[i + 1]) := atI_nat (j := i + 1) (by rw [List.getElem?_map, List.getElem?_eq_getElem l2]; rfl)
    have lt := List.pairwise_iff_getElem.mp hc.inc i (i + 1) l1 l2 (by omega)
    refine (xlt (xix (xvar rfl hh) (xvar rfl (.int _)) g1) (xix (xvar rfl hh) (xadd (xvar rfl (.int _)) xint) g2)).is ?_
    rw [decide_eq_true lt]

/-! ### is_system, check_system -/
def R_sys : List PyData → (PyData → Prop) → Prop := fun ds P => ∃ n S, ds = [SD n S] ∧ SysOk n S ∧ P = (· = .bool true)
theorem ok_is_system (D : Df K mg "is_system" s_is_system ["value"]) (B : Bi mg) (O_is_between : Ok P w K mg base "is_between" 1 ["value", "low", "high"] (spN R_between)) (O_is_set : Ok P w K mg base "is_set" 2 ["value", "size"] (spN R_set)) :
    Ok P w K mg base "is_system" 3 ["value"] (spN R_sys) := by
  refine D.ok sc_is_system (fun vs H Q E h => spN_len (fun ds P ⟨_, _, e, _⟩ => by rw [e]; rfl) h) (fun f cdv A outer s H vs Q E hr h => ?_)
  obtain ⟨ds, P, hv, ⟨n, S, rfl, hS, rfl⟩, q⟩ := h
  obtain ⟨v0, rfl, h0⟩ := hv.inv1
  have h2 := hS.n2
  have h5 := hS.n5
  have h8 := hS.few
  refine ⟨_, (pss_cons (ps_if (PW.pt (pw_or (pt_not (pt_val (pe_callB call_isi (by rfl) B.isinstance (by decide +kernel) (pa_cons (pv 0) (pa_cons (pe_bltn (v := .ty "tuple") rfl B.tuple (by decide +kernel) rfl) pa_nil))))) (pw_or (pt_cmpR op_ne (pe_callB call_len_seq (by rfl) B.len (by decide +kernel) (pa_cons (pv 0) pa_nil)) pe_int (nomark _)) (pw_or1 (pt_not (pt_val (pe_callOk O_is_between (hr.mono (by decide)) (by rfl) (pa_cons (pe_ix (ixT (K := K)) (pv 0) pe_int (fun _ _ => rfl)) (pa_cons pe_int (pa_cons (pe_gI rfl B.mostE) pa_nil)))))))))) (pss_one (ps_ret pe_bl)) pss_nil)
      (pss_cons (ps_if (PW.pt (pw_or (pt_not (pt_val (pe_callB call_isi (by rfl) B.isinstance (by decide +kernel) (pa_cons (pe_ix (ixT (K := K)) (pv 0) pe_int (fun _ _ => rfl)) (pa_cons (pe_bltn (v := .ty "tuple") rfl B.tuple (by decide +kernel) rfl) pa_nil))))) (pw_or1 (pt_cmpR op_gt (pe_callB call_len_seq (by rfl) B.len (by decide +kernel) (pa_cons (pe_ix (ixT (K := K)) (pv 0) pe_int (fun _ _ => rfl)) pa_nil)) (pe_gI rfl B.mostS) (nomark _))))) (pss_one (ps_ret pe_bl)) pss_nil)
      (pss_one (ps_ret (pe_callB (cr_all rfl) (by rfl) B.all (by decide +kernel) (pa_cons (pe_lc (own := [("one", 1)]) (g := gName 1) (tt := tYes) rfl sc_is_system.nd (pi_tup (pe_ix (ixT (K := K)) (pv 0) pe_int (fun _ _ => rfl))) (blkOk_by (N := N_is_system) (sc := defScope s_is_system) (by decide +kernel)) (fun _ _ _ _ _ => (pg_name (i := 1) sc_is_system.nd rfl (.inl rfl))) (fun _ _ _ _ _ => pts_nil) (fun _ _ _ _ _ => (pe_callOk O_is_set (hr.mono (by decide)) (by rfl) (pa_cons (pv 1) (pa_cons (pe_ix (ixT (K := K)) (pv 0) pe_int (fun _ _ => rfl)) pa_nil))))) pa_nil)))))), ?_⟩
  have g0 : atI [PyData.int n, .tuple (S.map sD)] 0 = some (.int n) := rfl
  have g1 : atI [PyData.int n, .tuple (S.map sD)] 1 = some (.tuple (S.map sD)) := rfl
  refine z_skip (Evl.et_or (a := false) (b := false) (Evl.et_not (a := true) (xB (xisi (xvar rfl h0) kit_tt))) fun _ => Evl.et_or (a := false) (b := false) (Evl.et_is (xT (xneI (xlen (xvar rfl h0)) xint)) rfl) fun _ => Evl.et_not (a := true) (xB ?_)) fun H1 e1 => ?_
  · refine xcall (xacons (xix (xvar rfl h0) xint g0) (xacons xint (xacons xint xanil))) ⟨n, 1, 8, rfl, ?_⟩
    funext d
    rw [decide_eq_true (show 1 ≤ n by omega), decide_eq_true (show n ≤ 8 by omega)]
    rfl
  have h1 := h0.mono (tx e1)
  refine z_skip (Evl.et_or (a := false) (b := false) (Evl.et_not (a := true) (xB (xisi (xix (xvar rfl h1) xint g1) kit_tt))) fun _ => Evl.et_is (xT (xgt (xlen (xix (xvar rfl h1) xint g1)) xint)) ?_) fun H2 e2 => ?_
  · rw [List.length_map]
    exact decide_eq_false fun z => by omega
  have h2' := h1.mono (tx e2)
  refine e_ret (xallT (xix (xvar rfl h2') xint g1) (by rw [List.length_map]; omega) (fun _ => rfl) fun d v H3 m e3 hd => ?_) fun v H3 e3 hd => q v _ H3 rfl ((e1.trans e2).trans e3) hd
  obtain ⟨c, hc, rfl⟩ := List.mem_map.mp m
  exact xcall (xacons (xvar rfl hd) (xacons (xix (xvar rfl (h2'.mono (tx e3))) xint g0) xanil)) ⟨n, c, rfl, hS.sets c hc, rfl⟩
def R_chk : List PyData → (PyData → Prop) → Prop := fun ds P => ∃ n S, ds = [SD n S] ∧ SysOk n S ∧ P = (· = .none)
theorem ok_check_system (D : Df K mg "check_system" s_check_system ["value"]) (B : Bi mg) (O_is_system : Ok P w K mg base "is_system" 3 ["value"] (spN R_sys)) :
    Ok P w K mg base "check_system" 4 ["value"] (spN R_chk) := by
  refine D.ok sc_check_system (fun vs H Q E h => spN_len (fun ds P ⟨_, _, e, _⟩ => by rw [e]; rfl) h) (fun f cdv A outer s H vs Q E hr h => ?_)
  obtain ⟨ds, P, hv, ⟨n, S, rfl, hS, rfl⟩, q⟩ := h
  obtain ⟨v0, rfl, h0⟩ := hv.inv1
  refine ⟨_, (pss_one (ps_if (pt_not (pt_val (pe_callOk O_is_system (hr.mono (by decide)) (by rfl) (pa_cons (pv 0) pa_nil)))) (pss_one (ps_never)) pss_nil)), ?_⟩
  exact e_if (Evl.et_not (a := true) (xB (xcall (xacons (xvar rfl h0) xanil) ⟨n, S, rfl, hS, rfl⟩))) (fun z => nomatch z) fun _ H1 e1 => q .non _ H1 rfl e1 .non

/-! ### is_pair -/
def R_pair : List PyData → (PyData → Prop) → Prop := fun ds P => ∃ n p, ds = [pD p, .int n] ∧ Vp n p ∧ P = (· = .bool true)
theorem ok_is_pair (D : Df K mg "is_pair" s_is_pair ["value", "size"]) (B : Bi mg) (O_is_between : Ok P w K mg base "is_between" 1 ["value", "low", "high"] (spN R_between)) :
    Ok P w K mg base "is_pair" 2 ["value", "size"] (spN R_pair) := by
  refine D.ok sc_is_pair (fun vs H Q E h => spN_len (fun ds P ⟨_, _, e, _⟩ => by rw [e]; rfl) h) (fun f cdv A outer s H vs Q E hr h => ?_)
  obtain ⟨ds, P, hv, ⟨n, p, rfl, hp, rfl⟩, q⟩ := h
  obtain ⟨v0, v1, rfl, h0, h1⟩ := hv.inv2
  obtain ⟨a0, a1, b0, b1, ne⟩ := id hp
  refine ⟨_, (pss_cons (ps_if (PW.pt (pw_or (pt_not (pt_val (pe_callB call_isi (by rfl) B.isinstance (by decide +kernel) (pa_cons (pv 0) (pa_cons (pe_bltn (v := .ty "tuple") rfl B.tuple (by decide +kernel) rfl) pa_nil))))) (pw_or (pt_cmpR op_ne (pe_callB call_len_seq (by rfl) B.len (by decide +kernel) (pa_cons (pv 0) pa_nil)) pe_int (nomark _)) (pw_or1 (pt_not (pt_val (pe_callB (cr_all rfl) (by rfl) B.all (by decide +kernel) (pa_cons (pe_lc (own := [("one", 2)]) (g := gName 2) (tt := tYes) rfl sc_is_pair.nd (pi_tup (pv 0)) (blkOk_by (N := N_is_pair) (sc := defScope s_is_pair) (by decide +kernel)) (fun _ _ _ _ _ => (pg_name (i := 2) sc_is_pair.nd rfl (.inl rfl))) (fun _ _ _ _ _ => pts_nil) (fun _ _ _ _ _ => (pe_callOk O_is_between (hr.mono (by decide)) (by rfl) (pa_cons (pv 2) (pa_cons pe_int (pa_cons (pe_op op_sub (pv 1) pe_int) pa_nil)))))) pa_nil)))))))) (pss_one (ps_ret pe_bl)) pss_nil)
      (pss_one (ps_ret (pe_cmpR op_ne (pe_ix (ixT (K := K)) (pv 0) pe_int (fun _ _ => rfl)) (pe_ix (ixT (K := K)) (pv 0) pe_int (fun _ _ => rfl)) (nomark _))))), ?_⟩
  have g0 : atI [PyData.int p.1, .int p.2] 0 = some (.int p.1) := rfl
  have g1 : atI [PyData.int p.1, .int p.2] 1 = some (.int p.2) := rfl
  refine z_skip (Evl.et_or (a := false) (b := false) (Evl.et_not (a := true) (xB (xisi (xvar rfl h0) kit_tt))) fun _ => Evl.et_or (a := false) (b := false) (Evl.et_is (xT (xneI (xlen (xvar rfl h0)) xint)) rfl) fun _ => Evl.et_not (a := true) (xB (xallT (xvar rfl h0) (by show 2 ≤ 50000; decide) (fun _ => rfl) fun d v H1 m e hd => ?_))) fun H1 e1 => ?_
  · have hi : ∃ i, d = .int i ∧ 0 ≤ i ∧ i ≤ n - 1 := by
      rcases List.mem_cons.mp m with z | z
      · exact ⟨p.1, z, a0, by omega⟩
      · exact ⟨p.2, List.mem_singleton.mp z, b0, by omega⟩
    obtain ⟨i, rfl, l0, l1⟩ := hi
    refine xcall (xacons (xvar rfl hd) (xacons xint (xacons (xsub (xvar rfl (h1.mono (tx e))) xint) xanil))) ⟨i, 0, n - 1, rfl, ?_⟩
    funext d
    rw [decide_eq_true l0, decide_eq_true l1]
    rfl
  · refine e_ret ((xneI (xix (xvar rfl (h0.mono (tx e1))) xint g0) (xix (xvar rfl (h0.mono (tx e1))) xint g1)).is ?_) fun v H2 e2 hd => q v _ H2 rfl (e1.trans e2) hd
    rw [decide_eq_false ne]
    rfl
end
end Kt
namespace Kt
open PySem PySem.Spec PyProof.Rows L2
open Evl (Ex Ev EvT EvO)
section
variable {K : PySem.W.Frag} {σ : L2.St} {H H' : Hp} {ta tb te : TE} {t : TT} {d d1 d2 d3 : PyData} {ds : List PyData} {D : Ends} {tu tw tz : TS}
/-- x, y = a pair -/
theorem z_two {i j : Nat} (h : EvD te σ H (.tuple [d1, d2])) (k : ∀ u v H1, Ex H H1 → Dt H1 u d1 → Dt H1 v d2 → tz D ((σ.set i (some u)).set j (some v)) H1) :
    tSeq (tAsg te (gTup K 2 (gCons (gName i) (gCons (gName j) gNil)))) tz D σ H := h H (Ex.refl H) _ fun v H1 e hv => by
  obtain ⟨a, xs, rfl, hh, hs⟩ := hv.tup_inv
  obtain ⟨u, w, rfl, h1, h2⟩ := hs.inv2
  exact ⟨a, [u, w], rfl, SqT.of hh, rfl, u, [w], rfl, w, [], rfl, rfl, k u w H1 e h1 h2⟩
/-- return of a slot -/
theorem e_retV {i : Nat} {v : V} (h : σ[i]? = some (some v)) (k : D.rt v H) : tRet (tVar i) D σ H := ⟨v, h, k⟩
theorem DtAll.map_of {α : Type} {f : α → PyData} {H : Hp} : ∀ {l : List α} {vs : List V}, DtAll H vs (l.map f) → ∀ x ∈ vs, ∃ a ∈ l, Dt H x (f a)
  | [], _, h => by cases h; intro x hx; cases hx
  | a :: l, _, h => by
    cases h with
    | cons h hs =>
      intro x hx
      rcases List.mem_cons.mp hx with e | m
      · exact ⟨a, List.mem_cons_self, e ▸ h⟩
      · obtain ⟨b, mb, hb⟩ := DtAll.map_of hs x m
        exact ⟨b, List.mem_cons_of_mem _ mb, hb⟩
end
/-- what a comprehension over ints gives -/
theorem giv_ints {β : Type} (f : Int → Bool) (g : Int → β) (h : β → PyData) (F : PyData → Bool) (G : PyData → PyData) (hF : ∀ i, F (.int i) = f i) (hG : ∀ i, G (.int i) = h (g i)) : ∀ c : List Int, giv F G (c.map .int) = ((c.filter f).map g).map h
  | [] => rfl
  | i :: c => by
    have ih := giv_ints f g h F G hF hG c
    unfold giv at ih ⊢
    rw [List.map_cons, List.filter_cons, List.filter_cons, hF]
    cases f i with
    | true =>
      show G (.int i) :: _ = h (g i) :: _
      rw [hG, ih]
    | false => exact ih
def intOf : PyData → Int
  | .int i => i
  | _ => 0
section
variable {P : Program} {w : World} {K : PySem.W.Frag} {mg : Str → Option Value} {base : Heap}
/-! ### steps_by -/
def R_stepsBy : List PyData → (List PyData → Prop) → Prop := fun ds P => ∃ n c p, ds = [sD c, pD p] ∧ SetOk n c ∧ P = fun es => ∃ l : List Pr, es = l.map pD ∧ (∀ q, q ∈ l ↔ StepBy c p q) ∧ l.length ≤ 8
theorem mem_fm {c : List Int} {y : Int} {g : Int → Pr} {q : Pr} : q ∈ (c.filter fun o => !decide (o = y)).map g ↔ ∃ o, o ∈ c ∧ o ≠ y ∧ g o = q := by
  rw [List.mem_map]
  constructor
  · rintro ⟨o, m, e⟩
    rw [List.mem_filter] at m
    exact ⟨o, m.1, by simpa using m.2, e⟩
  · rintro ⟨o, m, n, e⟩
    exact ⟨o, List.mem_filter.mpr ⟨m, by simpa using n⟩, e⟩
theorem ok_steps_by (D : Df K mg "steps_by" s_steps_by ["chosen", "pair"]) (B : Bi mg) : Ok P w K mg base "steps_by" 1 ["chosen", "pair"] (spL R_stepsBy) := by
  refine D.ok sc_steps_by (fun vs H Q E h => spL_len (fun ds P ⟨_, _, _, e, _⟩ => by rw [e]; rfl) h) (fun f cdv A outer s H vs Q E hr h => ?_)
  obtain ⟨ds, P, hv, ⟨n, c, p, rfl, hc, rfl⟩, q⟩ := h
  obtain ⟨v0, v1, rfl, h0, h1⟩ := hv.inv2
  have hlen : c.length ≤ 8 := hc.len
  refine ⟨_, (pss_cons (ps_asg (pv 1) (pgT (K := K) (n := 2) rfl rfl (pgs_cons (pg_name (i := 2) sc_steps_by.nd rfl (.inr rfl)) (pgs_cons (pg_name (i := 3) sc_steps_by.nd rfl (.inr rfl)) pgs_nil))))
      (pss_cons (ps_set (i := 4) sc_steps_by.nd rfl (.inl rfl) (pe_lst pa_nil))
      (pss_cons (ps_if (PW.pt (pw_and (pt_cmpR (niS (K := K)) (pv 2) (pv 0) rfl) (pw_and1 (pt_cmpR (inS (K := K)) (pv 3) (pv 0) rfl)))) (pss_one (ps_setLc (i := 4) (own := [("other", 5)]) (g := gName 5) rfl sc_steps_by.nd rfl rfl (sw_true rfl rfl rfl (by decide +kernel)) (pi_tup (pv 0)) (blkOk_by (N := N_steps_by) (sc := defScope s_steps_by) (by decide +kernel)) (fun _ _ _ _ _ => (pg_name (i := 5) sc_steps_by.nd rfl (.inl rfl))) (fun _ _ _ _ _ => pts_one (pt_cmpR op_ne (pv 5) (pv 3) (nomark _))) (fun _ _ _ _ _ => (pe_tup (pa_cons (pv 2) (pa_cons (pv 5) pa_nil)))))) pss_nil)
      (pss_cons (ps_if (PW.pt (pw_and (pt_cmpR (niS (K := K)) (pv 3) (pv 0) rfl) (pw_and1 (pt_cmpR (inS (K := K)) (pv 2) (pv 0) rfl)))) (pss_one (ps_setLc (i := 4) (own := [("other", 5)]) (g := gName 5) rfl sc_steps_by.nd rfl rfl (sw_true rfl rfl rfl (by decide +kernel)) (pi_tup (pv 0)) (blkOk_by (N := N_steps_by) (sc := defScope s_steps_by) (by decide +kernel)) (fun _ _ _ _ _ => (pg_name (i := 5) sc_steps_by.nd rfl (.inl rfl))) (fun _ _ _ _ _ => pts_one (pt_cmpR op_ne (pv 5) (pv 2) (nomark _))) (fun _ _ _ _ _ => (pe_tup (pa_cons (pv 5) (pa_cons (pv 3) pa_nil)))))) pss_nil)
      (pss_one (ps_ret (pv 4))))))), ?_⟩
  refine z_two (d1 := .int p.1) (d2 := .int p.2) (xvar rfl h1) fun u v H1 e1 hu hv' => ?_
  obtain rfl := hu.int_inv
  obtain rfl := hv'.int_inv
  refine z_setS (xlst xanil (by decide)) fun L0 xs0 H2 n0 e2 hx0 hd0 => ?_
  have c0 := h0.mono (tx (e1.trans e2))
  have nx : ∀ {v : V}, Dt H2 v (.int p.1) → v = .int p.1 := fun h => h.int_inv
  have t1 : ∀ {H3 : Hp} {σ : L2.St} {i j : Nat} {x y : Int} {vc : V}, σ[0]? = some (some vc) → Dt H3 vc (sD c) → σ[i]? = some (some (.int x)) → σ[j]? = some (some (.int y)) →
      EvT (tAnd (tTest (tOp (rIn K true) (tVar i) (tVar 0))) (tTest (tOp (rIn K false) (tVar j) (tVar 0)))) σ H3 (!decide (x ∈ c) && decide (y ∈ c)) := fun hvc hd hi hj =>
    Evl.et_and (xT (xin (neg := true) (xvar hi (.int _)) (xvar hvc hd))) fun _ => xT (xin (neg := false) (xvar hj (.int _)) (xvar hvc hd))
  have base0 : H L0 = none := Evl.fresh_back e1 n0
  have e12 := e1.trans e2
  have len8 : ∀ {g : Int → Pr} {y : Int}, ((c.filter fun o => !decide (o = y)).map g).length ≤ 8 := fun {g y} => by
    rw [List.length_map]
    exact Nat.le_trans (List.length_filter_le _ _) hlen
  refine z_if (b := !decide (p.1 ∈ c) && decide (p.2 ∈ c)) (t1 (vc := v0) rfl c0 rfl rfl) (fun hb H3 e3 => ?_) (fun hb H3 e3 => ?_)
  · -- x without, y within
    rw [Bool.and_eq_true] at hb
    have b1 : p.1 ∉ c := by simpa using hb.1
    have b2 : p.2 ∈ c := by simpa using hb.2
    have c3 := c0.mono (tx e3)
    refine e_setS (xlcT (fun d => !decide (intOf d = p.2)) (fun d => pD (p.1, intOf d)) (xvar rfl c3) (by rw [len_ints]; omega) (fun _ => rfl) (fun d v H4 m e4 hd => ?_) (fun d v H4 m e4 hd _ => ?_)) fun L xs H4 hL e4 hx hd => ?_
    · obtain ⟨i, _, rfl⟩ := mem_ints m
      obtain rfl := hd.int_inv
      exact xT (xneI (xvar rfl (.int _)) (xvar rfl (.int _)))
    · obtain ⟨i, _, rfl⟩ := mem_ints m
      obtain rfl := hd.int_inv
      exact xtup (xacons (xvar rfl (.int _)) (xacons (xvar rfl (.int _)) xanil)) (by show 2 ≤ 100000; decide)
    · rw [giv_ints (fun o => !decide (o = p.2)) (fun o => (p.1, o)) pD _ _ (fun _ => rfl) (fun _ => rfl)] at hd
      refine z_skip (Evl.et_is (t1 (vc := v0) rfl (c3.mono (tx e4)) rfl rfl) (by simp [b1])) fun H5 e5 => ?_
      refine e_retV rfl (q L xs _ H5 ⟨_, rfl, fun r => ?_, len8⟩ (Evl.fresh_back (e12.trans e3) hL) (((e12.trans e3).trans e4).trans e5) (e5 L _ hx) (hd.mono (tx e5)))
      rw [mem_fm]
      constructor
      · rintro ⟨o, mo, no, rfl⟩
        exact .inl ⟨b1, b2, rfl, mo, no⟩
      · rintro (⟨h1, h2, h3, h4, h5⟩ | ⟨h1, h2, h3, h4, h5⟩)
        · exact ⟨r.2, h4, h5, by rw [← h3]⟩
        · exact absurd h2 b1
  · have t2 := t1 (σ := (((start N_steps_by [v0, v1]).set 2 (some (.int p.1))).set 3 (some (.int p.2))).set 4 (some (.ref L0))) (H3 := H3) (i := 3) (j := 2) (x := p.2) (y := p.1) (vc := v0) rfl (c0.mono (tx e3)) rfl rfl
    refine z_if (b := !decide (p.2 ∈ c) && decide (p.1 ∈ c)) t2 (fun hb2 H4 e4 => ?_) (fun hb2 H4 e4 => ?_)
    · rw [Bool.and_eq_true] at hb2
      have b1 : p.2 ∉ c := by simpa using hb2.1
      have b2 : p.1 ∈ c := by simpa using hb2.2
      have c4 := (c0.mono (tx e3)).mono (tx e4)
      refine e_setS (xlcT (fun d => !decide (intOf d = p.1)) (fun d => pD (intOf d, p.2)) (xvar rfl c4) (by rw [len_ints]; omega) (fun _ => rfl) (fun d v H4 m e4 hd => ?_) (fun d v H4 m e4 hd _ => ?_)) fun L xs H5 hL e5 hx hd => ?_
      · obtain ⟨i, _, rfl⟩ := mem_ints m
        obtain rfl := hd.int_inv
        exact xT (xneI (xvar rfl (.int _)) (xvar rfl (.int _)))
      · obtain ⟨i, _, rfl⟩ := mem_ints m
        obtain rfl := hd.int_inv
        exact xtup (xacons (xvar rfl (.int _)) (xacons (xvar rfl (.int _)) xanil)) (by show 2 ≤ 100000; decide)
      · rw [giv_ints (fun o => !decide (o = p.1)) (fun o => (o, p.2)) pD _ _ (fun _ => rfl) (fun _ => rfl)] at hd
        refine e_retV rfl (q L xs _ H5 ⟨_, rfl, fun r => ?_, len8⟩ (Evl.fresh_back ((e12.trans e3).trans e4) hL) (((e12.trans e3).trans e4).trans e5) hx hd)
        rw [mem_fm]
        constructor
        · rintro ⟨o, mo, no, rfl⟩
          exact .inr ⟨b1, b2, rfl, mo, no⟩
        · rintro (⟨h1, h2, h3, h4, h5⟩ | ⟨h1, h2, h3, h4, h5⟩)
          · exact absurd h2 b1
          · exact ⟨r.1, h4, h5, by rw [← h3]⟩
    · refine e_retV rfl (q L0 xs0 _ H4 ⟨[], ?_, fun r => ?_, Nat.zero_le _⟩ base0 ((e12.trans e3).trans e4) (e4 L0 _ (e3 L0 _ hx0)) (hd0.mono (tx (e3.trans e4))))
      · rfl
      · constructor
        · intro h; cases h
        · rintro (⟨h1, h2, h3, h4, h5⟩ | ⟨h1, h2, h3, h4, h5⟩)
          · exact absurd hb (by simp [h1, h2])
          · exact absurd hb2 (by simp [h1, h2])
end
end Kt
namespace Kt
open PySem PySem.Spec PyProof.Rows L2
open Evl (Ex Ev EvT EvO)
section
variable {K : PySem.W.Frag} {σ : L2.St} {H H' : Hp} {ta tb te : TE} {t : TT} {d d1 d2 d3 : PyData} {ds : List PyData} {D : Ends} {tu tw tz : TS}
/-- for a, b in enumerate(t) -/
theorem z_forEn {i j : Nat} (h : EvD te σ H (.tuple ds)) (Pv : Hp → Nat → L2.St → Hp → Prop) (h0 : ∀ H1, Ex H H1 → Pv H1 0 σ H1) (hx : ∀ H1 m σ' H', Pv H1 m σ' H' → Tx H1 H')
    (hs : ∀ H1 m d x σ' H' H2, Ex H H1 → ds[m]? = some d → Pv H1 m σ' H' → Ex H' H2 → Dt H2 x d → tu { D with nx := Pv H1 (m + 1), ct := Pv H1 (m + 1), bk := tz D } ((σ'.set i (some (.int (m : Nat)))).set j (some x)) H2) (hd : ∀ H1 σ' H', Ex H H1 → Pv H1 ds.length σ' H' → tz D σ' H') :
    tSeq (tFor (iEnT K (tCons te tNil)) (gTup K 2 (gCons (gName i) (gCons (gName j) gNil))) tu) tz D σ H := h H (Ex.refl H) _ fun v H1 e hv => by
  obtain ⟨a, xs, rfl, hh, hds⟩ := hv.tup_inv
  refine ⟨a, xs, rfl, SqT.of hh, for_enT (D := { D with nx := tz D }) (Pv H1) (h0 H1 e) (fun m σ' H' _ p => SqT.of (hx H1 m σ' H' p a xs hh)) (fun m x T σ' H' hm p nT => ?_) fun σ' H' p => ?_⟩
  · obtain ⟨d, hd', hdx⟩ := hds.getV hm
    have ex : Ex H' (upd H' T (.tup [.int (m : Nat), x])) := Ex.new nT
    exact ⟨T, _, rfl, SqT.of upd_same, rfl, .int (m : Nat), [x], rfl, x, [], rfl, rfl, hs H1 m d x σ' H' _ e hd' p ex ((hdx.mono (hx H1 m σ' H' p)).mono (tx ex))⟩
  · rw [hds.length] at p
    exact hd H1 σ' H' e p
theorem xcatVN {P : List PyData → Prop} {i : Nat} {p : Addr} {xs : List V} (hv : σ[i]? = some (some (.ref p))) (hp : H p = some (.lst xs)) (hd : DtAll H xs ds) (hb : EvSN tb σ H P) (hl : ∀ es, P es → ds.length + es.length ≤ 100000) :
    EvSN (tOp rCat (tVar i) tb) σ H (fun fs => ∃ es, P es ∧ fs = ds ++ es) := fun H1 e _ q =>
  ⟨.ref p, hv, hb H1 e _ fun p' ys es H3 hP hp' e3 h3 hd' =>
    ⟨p, p', xs, ys, rfl, rfl, e3 p _ (e p _ hp), h3, Evl.sz_of (by rw [hd.length, hd'.length]; exact hl es hP), fun l hn => q l _ _ _ ⟨es, hP, rfl⟩ (Evl.fresh_back e3 hn) (e3.trans (Ex.new hn)) upd_same (((hd.mono (tx (e.trans e3))).append hd').mono (tx (Ex.new hn)))⟩⟩
theorem e_setSN {i : Nat} {P : List PyData → Prop} (h : EvSN te σ H P) (k : ∀ p xs ds H1, P ds → H p = none → Ex H H1 → H1 p = some (.lst xs) → DtAll H1 xs ds → D.nx (σ.set i (some (.ref p))) H1) : tAsg te (gName i) D σ H := h H (Ex.refl H) _ k
theorem DtAll.perm {α : Type} {f : α → PyData} {H : Hp} {vs ws : List V} (h : vs.Perm ws) : ∀ {l : List α}, DtAll H vs (l.map f) → ∃ l' : List α, l'.Perm l ∧ DtAll H ws (l'.map f) := by
  induction h with
  | nil => intro l h; exact ⟨l, .refl _, h⟩
  | cons x _ ih =>
    intro l h
    cases l with
    | nil => cases h
    | cons a l =>
      cases h with
      | cons h hs =>
        obtain ⟨l', p, hl⟩ := ih hs
        exact ⟨a :: l', .cons a p, .cons h hl⟩
  | swap x y l0 =>
    intro l h
    cases l with
    | nil => cases h
    | cons a l =>
      cases l with
      | nil => cases h with | cons _ hs => cases hs
      | cons b l =>
        cases h with
        | cons h hs =>
          cases hs with
          | cons h' hs => exact ⟨b :: a :: l, .swap _ _ _, .cons h' (.cons h hs)⟩
  | trans _ _ ih1 ih2 =>
    intro l h
    obtain ⟨l1, p1, h1⟩ := ih1 h
    obtain ⟨l2, p2, h2⟩ := ih2 h1
    exact ⟨l2, p2.trans p1, h2⟩
end
theorem room65 {A : Around} {k : Nat} (hr : Room k A) : A.units + 65 < cLine := by have q := hr.un; omega
theorem room8 {A : Around} {k : Nat} (hr : Room k A) : A.units + 8 < cLine := by have q := hr.un; omega
/-- (i, (x, y)) -/
def tD (z : Int × Pr) : PyData := .tuple [.int z.1, pD z.2]
section
variable {P : Program} {w : World} {K : PySem.W.Frag} {mg : Str → Option Value} {base : Heap}
def R_stepsOf : List PyData → (List PyData → Prop) → Prop := fun ds P => ∃ n S p, ds = [SD n S, pD p] ∧ SysOk n S ∧ P = fun es => ∃ l : List (Int × Pr), es = l.map tD ∧ (∀ q, (∃ a, (a, q) ∈ l) ↔ Step S p q) ∧ l.length ≤ 64
theorem sd1 {n : Int} {S : List (List Int)} : atI [PyData.int n, .tuple (S.map sD)] 1 = some (.tuple (S.map sD)) := rfl
theorem sd0 {n : Int} {S : List (List Int)} : atI [PyData.int n, .tuple (S.map sD)] 0 = some (.int n) := rfl
theorem ok_steps_of (D : Df K mg "steps_of" s_steps_of ["system", "pair"]) (B : Bi mg) (O_steps_by : Ok P w K mg base "steps_by" 1 ["chosen", "pair"] (spL R_stepsBy)) : Ok P w K mg base "steps_of" 2 ["system", "pair"] (spL R_stepsOf) := by
  refine D.ok sc_steps_of (fun vs H Q E h => spL_len (fun ds P ⟨_, _, _, e, _⟩ => by rw [e]; rfl) h) (fun f cdv A outer s H vs Q E hr h => ?_)
  obtain ⟨ds, P, hv, ⟨n, S, p, rfl, hS, rfl⟩, q⟩ := h
  obtain ⟨v0, v1, rfl, h0, h1⟩ := hv.inv2
  have h8 := hS.few
  have hu8 := room8 hr
  refine ⟨_, (pss_cons (ps_set (i := 2) sc_steps_of.nd rfl (.inl rfl) (pe_lst pa_nil))
      (pss_cons (ps_for PassesOwn.never rfl (pi_enT (by rfl) B.enumerate (pa_cons (pe_ix (ixT (K := K)) (pv 0) pe_int (fun _ _ => rfl)) pa_nil)) (pgT (K := K) (n := 2) rfl rfl (pgs_cons (pg_name (i := 3) sc_steps_of.nd rfl (.inr rfl)) (pgs_cons (pg_name (i := 4) sc_steps_of.nd rfl (.inl rfl)) pgs_nil))) (pss_one (ps_set (i := 2) sc_steps_of.nd rfl (.inl rfl) (pe_op op_cat (pv 2) (pe_lc (own := [("other", 5)]) (g := gName 5) (tt := tYes) rfl sc_steps_of.nd (pi_list (pe_callOk O_steps_by (hr.mono (by decide)) (by rfl) (pa_cons (pv 4) (pa_cons (pv 1) pa_nil)))) (blkOk_by (N := N_steps_of) (sc := defScope s_steps_of) (by decide +kernel)) (fun _ _ _ _ _ => (pg_name (i := 5) sc_steps_of.nd rfl (.inl rfl))) (fun _ _ _ _ _ => pts_nil) (fun _ _ _ _ _ => (pe_tup (pa_cons (pv 3) (pa_cons (pv 5) pa_nil)))))))))
      (pss_one (ps_ret (pe_callB (cr_sorted3 hu8) (by rfl) B.sorted (by decide +kernel) (pa_cons (pv 2) pa_nil)))))), ?_⟩
  refine z_setS (xlst xanil (by decide)) fun L0 xs0 H1 n0 e1 hx0 hd0 => ?_
  have s1 := h0.mono (tx e1)
  refine z_forEn (xix (xvar rfl s1) xint sd1) (fun Hc m σ' H' => ∃ L xs l v3 v4, σ' = [some v0, some v1, some (.ref L), v3, v4, none] ∧ H L = none ∧ Ex H Hc ∧ Ex Hc H' ∧ H' L = some (.lst xs) ∧ DtAll H' xs (List.map tD l) ∧ (∀ q, (∃ a, (a, q) ∈ l) ↔ ∃ c ∈ S.take m, StepBy c p q) ∧ l.length ≤ 8 * m)
    (fun H2 e2 => ⟨L0, xs0, [], none, none, rfl, n0, e1.trans e2, Ex.refl _, e2 L0 _ hx0, hd0.mono (tx e2), fun q => ?_, Nat.zero_le _⟩) (fun Hc m σ' H' hp => by obtain ⟨_, _, _, _, _, _, _, _, e, _⟩ := hp; exact tx e) (fun Hc m d x σ' H' H2 ec hm hp e2 hx => ?_) (fun Hc σ' H' ec hp => ?_)
  · constructor
    · rintro ⟨a, h⟩; cases h
    · rintro ⟨c, h, _⟩; cases h
  · obtain ⟨L, xs, l, v3, v4, rfl, nL, eH, eC, hL, hdl, hq, hlen⟩ := hp
    obtain ⟨c, hc, rfl⟩ : ∃ c, S[m]? = some c ∧ sD c = d := by
      rw [List.getElem?_map] at hm
      cases e : S[m]? with
      | none => rw [e] at hm; cases hm
      | some c => rw [e] at hm; exact ⟨c, rfl, Option.some.inj hm⟩
    have mc : c ∈ S := List.mem_of_getElem? hc
    have ex2 := (eH.trans eC).trans e2
    have hp1 := h1.mono (tx ex2)
    have hm8 : m < S.length := (List.getElem?_eq_some_iff.mp hc).1
    refine e_setSN (xcatVN (P := fun es => ∃ l : List Pr, es = l.map (fun q => tD ((m : Int), q)) ∧ (∀ q, q ∈ l ↔ StepBy c p q) ∧ l.length ≤ 8) rfl (e2 L _ hL) (hdl.mono (tx e2)) ?_ fun es ⟨l', he, _, hl'⟩ => ?_) fun p' xs' es H3 ⟨es', ⟨l', he, hq', hl'⟩, hes⟩ np e3 hx3 hd3 => ?_
    · have cs := xlcSN (K := K) (σ := [some v0, some v1, some (.ref L), some (.int (m : Nat)), some x, none]) (H := H2) (j := 5) (vs := [5]) (t := tYes) (te := tTup (tCons (tVar 3) (tCons (tVar 5) tNil))) (fun es => ∃ l : List Pr, es = l.map pD ∧ (∀ q, q ∈ l ↔ StepBy c p q) ∧ l.length ≤ 8) (fun _ => true) (fun d => .tuple [.int (m : Int), d])
        (xcallL (R := R_stepsBy) (E := E0) (xacons (xvar (i := 4) rfl hx) (xacons (xvar (i := 1) rfl hp1) xanil)) ⟨n, c, p, rfl, hS.sets c mc, rfl⟩) (fun ds ⟨l, e, _, hl⟩ => by rw [e, List.length_map]; omega) (fun _ => rfl) (fun _ _ _ _ _ _ _ _ => etY)
        (fun ds d v H4 _ _ e4 hd _ => xtup (xacons (xvar rfl (.int _)) (xacons (xvar rfl hd) xanil)) (by show 2 ≤ 100000; decide))
      intro H4 e4 Q' q'
      refine cs H4 e4 Q' fun pp xx es H5 ⟨ds', ⟨l', e', hq', hl'⟩, hes⟩ np e5 hx5 hd5 => q' pp xx es H5 ⟨l', ?_, hq', hl'⟩ np e5 hx5 hd5
      rw [hes, giv_all _ _ fun _ _ => rfl, e', List.map_map]
      rfl
    · rw [he, List.length_map, List.length_map]
      omega
    · refine ⟨p', xs', l ++ l'.map (fun q => ((m : Int), q)), _, _, rfl, Evl.fresh_back ex2 np, eH, (eC.trans e2).trans e3, hx3, ?_, fun r => ?_, ?_⟩
      · rw [hes, he] at hd3
        rw [List.map_append, List.map_map]
        exact hd3
      · rw [take_snoc hc]
        constructor
        · rintro ⟨a, ha⟩
          rcases List.mem_append.mp ha with h | h
          · obtain ⟨c', mc', sc⟩ := (hq r).mp ⟨a, h⟩
            exact ⟨c', List.mem_append_left _ mc', sc⟩
          · obtain ⟨r', mr, e⟩ := List.mem_map.mp h
            cases e
            exact ⟨c, List.mem_append_right _ List.mem_cons_self, (hq' r).mp mr⟩
        · rintro ⟨c', mc', sc⟩
          rcases List.mem_append.mp mc' with h | h
          · obtain ⟨a, ha⟩ := (hq r).mpr ⟨c', h, sc⟩
            exact ⟨a, List.mem_append_left _ ha⟩
          · cases List.mem_singleton.mp h
            exact ⟨m, List.mem_append_right _ (List.mem_map.mpr ⟨r, (hq' r).mpr sc, rfl⟩)⟩
      · rw [List.length_append, List.length_map]
        omega
  · obtain ⟨L, xs, l, v3, v4, rfl, nL, eH, eC, hL, hdl, hq, hlen⟩ := hp
    have eHH := eH.trans eC
    rw [List.length_map] at hq hlen
    rw [List.take_of_length_le (Nat.le_refl _)] at hq
    refine ⟨.ref L, rfl, L, xs, rfl, SqL.of hL, fun x hx => ?_, fun ys pn pm nn => ?_⟩
    · obtain ⟨z, mz, hz⟩ := hdl.map_of x hx
      obtain ⟨t, ts, rfl, ht, hts⟩ := hz.tup_inv
      obtain ⟨u, v, rfl, hu, hv⟩ := hts.inv2
      obtain ⟨b, bs, rfl, hb, hbs⟩ := hv.tup_inv
      obtain ⟨u1, u2, rfl, g1, g2⟩ := hbs.inv2
      rw [hu.int_inv] at ht
      rw [g1.int_inv, g2.int_inv] at hb
      exact ⟨t, b, _, _, _, rfl, ht, hb⟩
    · obtain ⟨l', pl, hd'⟩ := DtAll.perm pm.symm hdl
      refine q pn ys (l'.map tD) _ ⟨l', rfl, fun r => ?_, ?_⟩ (Evl.fresh_back eHH nn) (eHH.trans (Ex.new nn)) upd_same (hd'.mono (tx (Ex.new nn)))
      · rw [← (show (∃ a, (a, r) ∈ l) ↔ Step S p r from hq r)]
        exact ⟨fun ⟨a, ha⟩ => ⟨a, pl.mem_iff.mp ha⟩, fun ⟨a, ha⟩ => ⟨a, pl.mem_iff.mpr ha⟩⟩
      · rw [pl.length_eq]
        omega
end
end Kt
namespace Kt
open PySem PySem.Spec PyProof.Rows L2
open Evl (Ex Ev EvT EvO)
/-! ### the search: what is seen, what waits -/
def kp (p : Pr) : List Key := [.inl p.1, .inl p.2]
theorem kp_inj {p q : Pr} (h : kp p = kp q) : p = q := by
  obtain ⟨a, b⟩ := p
  obtain ⟨c, d⟩ := q
  unfold kp at h
  simp only [List.cons.injEq, Sum.inl.injEq, and_true] at h
  rw [h.1, h.2]
theorem Dt.pair {H : Hp} {v : V} {p : Pr} (h : Dt H v (pD p)) : ∃ b, v = .ref b ∧ H b = some (.tup ((kp p).map kV)) := by
  obtain ⟨b, bs, rfl, hb, hbs⟩ := h.tup_inv
  obtain ⟨u1, u2, rfl, g1, g2⟩ := hbs.inv2
  rw [g1.int_inv, g2.int_inv] at hb
  exact ⟨b, rfl, hb⟩
theorem pair_of {H : Hp} {b : Addr} {p : Pr} (h : H b = some (.tup ((kp p).map kV))) : Dt H (.ref b) (pD p) := .tup h (.cons (.int _) (.cons (.int _) .nil))
/-- the dict at d holds the data sn, in this order -/
structure DcAt (H : Hp) (d : Addr) (sn : List (Pr × PyData)) : Prop where
  ex : ∃ kvs : List (List Key × V), H d = some (.dT kvs) ∧ kvs.map (·.1) = sn.map (fun z => kp z.1) ∧ DtAll H (kvs.map (·.2)) (sn.map (·.2))
/-- the list at l holds the pairs wl -/
structure LsAt (H : Hp) (l : Addr) (wl : List Pr) : Prop where
  ex : ∃ xs, H l = some (.lst xs) ∧ DtAll H xs (wl.map pD)
theorem DcAt.keep {H H' : Hp} {d : Addr} {sn : List (Pr × PyData)} (h : DcAt H d sn) (e : H' d = H d) (t : Tx H H') : DcAt H' d sn := by
  obtain ⟨kvs, h1, h2, h3⟩ := h.ex
  exact ⟨kvs, by rw [e]; exact h1, h2, h3.mono t⟩
theorem LsAt.keep {H H' : Hp} {l : Addr} {wl : List Pr} (h : LsAt H l wl) (e : H' l = H l) (t : Tx H H') : LsAt H' l wl := by
  obtain ⟨xs, h1, h2⟩ := h.ex
  exact ⟨xs, by rw [e]; exact h1, h2.mono t⟩
theorem DcAt.keepX {H H' : Hp} {d : Addr} {sn : List (Pr × PyData)} (h : DcAt H d sn) (e : Ex H H') : DcAt H' d sn := by
  obtain ⟨kvs, h1, _⟩ := h.ex
  exact h.keep (by rw [h1]; exact e d _ h1) (tx e)
theorem LsAt.keepX {H H' : Hp} {l : Addr} {wl : List Pr} (h : LsAt H l wl) (e : Ex H H') : LsAt H' l wl := by
  obtain ⟨xs, h1, _⟩ := h.ex
  exact h.keep (by rw [h1]; exact e l _ h1) (tx e)
theorem DcAt.ne {H : Hp} {d l : Addr} {sn : List (Pr × PyData)} {wl : List Pr} (h : DcAt H d sn) (h' : LsAt H l wl) : d ≠ l := by
  obtain ⟨kvs, h1, _⟩ := h.ex
  obtain ⟨xs, h2, _⟩ := h'.ex
  exact ne_of h1 h2 fun z => nomatch z
/-- look-up -/
theorem val_find {H : Hp} {q : Pr} : ∀ {kvs : List (List Key × V)} {sn : List (Pr × PyData)}, kvs.map (·.1) = sn.map (fun z => kp z.1) → DtAll H (kvs.map (·.2)) (sn.map (·.2)) →
    (valV kvs (kp q) = none ∧ q ∉ sn.map (·.1)) ∨ ∃ v d, valV kvs (kp q) = some v ∧ Dt H v d ∧ (q, d) ∈ sn
  | [], [], _, _ => .inl ⟨rfl, fun h => nomatch h⟩
  | [], _ :: _, keys, _ => by simp at keys
  | _ :: _, [], keys, _ => by simp at keys
  | (k, v) :: kvs, (p, d) :: sn, h, hd => by
    rw [List.map_cons, List.map_cons] at h hd
    injection h with hk ht
    cases hd with
    | cons hv hvs =>
      dsimp only at hk hv
      by_cases e : p = q
      · subst e
        exact .inr ⟨v, d, valV_pos hk, hv, List.mem_cons_self⟩
      · have ne : ¬ k = kp q := fun z => e (kp_inj (hk.symm.trans z))
        rcases val_find (q := q) ht hvs with ⟨h1, h2⟩ | ⟨v', d', h1, h2, h3⟩
        · refine .inl ⟨by rw [valV_neg (p := (k, v)) ne]; exact h1, fun m => ?_⟩
          rcases List.mem_cons.mp m with z | z
          · exact e z.symm
          · exact h2 z
        · exact .inr ⟨v', d', by rw [valV_neg (p := (k, v)) ne]; exact h1, h2, List.mem_cons_of_mem _ h3⟩
theorem DcAt.look {H : Hp} {d b : Addr} {sn : List (Pr × PyData)} {q : Pr} (h : DcAt H d sn) (hb : H b = some (.tup ((kp q).map kV))) :
    ∃ o, DGet H d (.ref b) o ∧ ((o = none ∧ q ∉ sn.map (·.1)) ∨ ∃ v z, o = some v ∧ Dt H v z ∧ (q, z) ∈ sn) := by
  obtain ⟨kvs, h1, h2, h3⟩ := h.ex
  refine ⟨_, DGet.t (k := kp q) h1 hb, ?_⟩
  rcases val_find (q := q) h2 h3 with a | ⟨v, z, a⟩
  · exact .inl a
  · exact .inr ⟨v, z, a⟩
/-- a new key -/
theorem DcAt.put {H : Hp} {d b : Addr} {sn : List (Pr × PyData)} {q : Pr} {v : V} {z : PyData} (h : DcAt H d sn) (hb : H b = some (.tup ((kp q).map kV))) (hn : q ∉ sn.map (·.1)) (hv : Dt H v z) (hl : sn.length < 100000) :
    ∃ o, DPut H d (.ref b) v (upd H d o) ∧ Tx H (upd H d o) ∧ DcAt (upd H d o) d (sn ++ [(q, z)]) := by
  obtain ⟨kvs, h1, h2, h3⟩ := h.ex
  have none_ : valV kvs (kp q) = none := by
    rcases val_find (q := q) h2 h3 with a | ⟨v, z, _, _, a⟩
    · exact a.1
    · exact absurd (List.mem_map.mpr ⟨_, a, rfl⟩) hn
  have hlen : kvs.length = sn.length := by
    have e := congrArg List.length h2
    simp only [List.length_map] at e
    exact e
  have t : ∀ o, Tx H (upd H d o) := fun o => Tx.upd h1 fun _ z => nomatch z
  refine ⟨.dT (putK kvs (kp q) v), DPut.t h1 hb (Evl.sz_lt (by omega)), t _, _, upd_same, ?_, ?_⟩
  · rw [putK_new _ none_, List.map_append, List.map_append, h2]; rfl
  · rw [putK_new _ none_, List.map_append, List.map_append]
    exact (h3.mono (t _)).append (.cons (hv.mono (t _)) .nil)
/-- xs.append(pair) -/
theorem LsAt.app {H : Hp} {l b : Addr} {wl : List Pr} {q : Pr} (h : LsAt H l wl) (hb : Dt H (.ref b) (pD q)) (hl : wl.length < 100000) :
    ∃ xs, H l = some (.lst xs) ∧ xs.length < sizeLine ∧ Tx H (upd H l (.lst (xs ++ [.ref b]))) ∧ LsAt (upd H l (.lst (xs ++ [.ref b]))) l (wl ++ [q]) := by
  obtain ⟨xs, h1, h2⟩ := h.ex
  have t : Tx H (upd H l (.lst (xs ++ [.ref b]))) := Tx.upd h1 fun _ z => nomatch z
  refine ⟨xs, h1, Evl.sz_lt (by rw [h2.length, List.length_map]; exact hl), t, _, upd_same, ?_⟩
  rw [List.map_append]
  exact (h2.mono t).append (.cons (hb.mono t) .nil)
theorem DtAll.dropLast {H : Hp} {ds : List PyData} {vs : List V} (h : DtAll H vs ds) : DtAll H vs.dropLast ds.dropLast := by
  rw [List.dropLast_eq_take, List.dropLast_eq_take, h.length]
  exact h.take _
/-- xs.pop() -/
theorem LsAt.pop {H : Hp} {l : Addr} {wl : List Pr} {q : Pr} (h : LsAt H l (wl ++ [q])) :
    ∃ xs y, H l = some (.lst xs) ∧ xs[xs.length - 1]? = some y ∧ Dt H y (pD q) ∧ Tx H (upd H l (.lst xs.dropLast)) ∧ LsAt (upd H l (.lst xs.dropLast)) l wl := by
  obtain ⟨xs, h1, h2⟩ := h.ex
  have hl : xs.length = wl.length + 1 := by rw [h2.length, List.length_map, List.length_append]; rfl
  obtain ⟨y, hy, hd⟩ := h2.get (i := wl.length) (d := pD q) (by rw [List.map_append, List.getElem?_append_right (by rw [List.length_map] <;> exact Nat.le_refl _), List.length_map, Nat.sub_self]; rfl)
  have t : Tx H (upd H l (.lst xs.dropLast)) := Tx.upd h1 fun _ z => nomatch z
  refine ⟨xs, y, h1, by rw [hl]; exact hy, hd, t, _, upd_same, ?_⟩
  have e : (wl.map pD) = ((wl ++ [q]).map pD).dropLast := by rw [List.map_append, List.map_singleton, List.dropLast_concat]
  rw [e]
  exact (h2.mono t).dropLast
/-- xs.pop(0) -/
theorem LsAt.pop0 {H : Hp} {l : Addr} {wl : List Pr} {q : Pr} (h : LsAt H l (q :: wl)) :
    ∃ y xs, H l = some (.lst (y :: xs)) ∧ Dt H y (pD q) ∧ Tx H (upd H l (.lst xs)) ∧ LsAt (upd H l (.lst xs)) l wl := by
  obtain ⟨xs, h1, h2⟩ := h.ex
  cases h2 with
  | @cons y ys _ _ hy hys =>
    have t : Tx H (upd H l (.lst ys)) := Tx.upd h1 fun _ z => nomatch z
    exact ⟨y, ys, h1, hy, t, _, upd_same, hys.mono t⟩

/-! ### plain: the search's invariant -/
theorem nodup_lt : ∀ (N : Nat) (l : List Nat), l.Nodup → (∀ x ∈ l, x < N) → l.length ≤ N
  | 0, l, _, h => by
    cases l with
    | nil => exact Nat.le_refl _
    | cons x l => exact absurd (h x List.mem_cons_self) (Nat.not_lt_zero _)
  | N + 1, l, nd, h => by
    have nd' := nd.erase N
    have ih := nodup_lt N (l.erase N) nd' fun x hx => by
      have m := List.mem_of_mem_erase hx
      have l1 := h x m
      have ne : x ≠ N := fun e => by
        rw [e] at hx
        exact (List.Nodup.not_mem_erase nd) hx
      omega
    have e := List.length_erase (a := N) (l := l)
    split at e <;> omega
theorem few_pairs {n : Int} (h5 : n ≤ 5) {l : List Pr} (nd : l.Nodup) (h : ∀ p ∈ l, Vp n p) : l.length ≤ 64 := by
  have e := nodup_lt 64 (l.map fun p => (p.1 * 8 + p.2).toNat) ?_ ?_
  · rw [List.length_map] at e; exact e
  · refine (List.pairwise_map.mpr ?_)
    refine List.Pairwise.imp_of_mem (fun {p q} mp mq ne e => ?_) nd
    obtain ⟨a0, a1, b0, b1, _⟩ := h p mp
    obtain ⟨c0, c1, d0, d1, _⟩ := h q mq
    apply ne
    have e1 : p.1 = q.1 := by omega
    have e2 : p.2 = q.2 := by omega
    exact Prod.ext e1 e2
  · intro x hx
    obtain ⟨p, m, rfl⟩ := List.mem_map.mp hx
    obtain ⟨a0, a1, b0, b1, _⟩ := h p m
    omega
structure Bf (S : List (List Int)) (p : Pr) (sn wl : List Pr) : Prop where
  st : p ∈ sn
  sub : ∀ q ∈ wl, q ∈ sn
  lk : ∀ q ∈ sn, Lk S p q
  cl : ∀ q ∈ sn, q ∉ wl → ∀ r, Step S q r → r ∈ sn
  nd : sn.Nodup
/-- while h is being looked at: of its steps some are seen already -/
structure Bh (S : List (List Int)) (p h : Pr) (sn wl : List Pr) : Prop where
  st : p ∈ sn
  hm : h ∈ sn
  sub : ∀ q ∈ wl, q ∈ sn
  lk : ∀ q ∈ sn, Lk S p q
  cl : ∀ q ∈ sn, q ∉ wl → q ≠ h → ∀ r, Step S q r → r ∈ sn
  nd : sn.Nodup
theorem Bf.start (S : List (List Int)) (p : Pr) : Bf S p [p] [p] := ⟨List.mem_cons_self, fun _ h => h, fun q h => by rw [List.mem_singleton.mp h]; exact .refl _, fun q h1 h2 => absurd h1 h2, by simp⟩
theorem Bf.take {S : List (List Int)} {p h : Pr} {sn wl wl' : List Pr} (b : Bf S p sn wl) (hw : ∀ q, q ∈ wl ↔ q = h ∨ q ∈ wl') : Bh S p h sn wl' :=
  ⟨b.st, b.sub h ((hw h).mpr (.inl rfl)), fun q m => b.sub q ((hw q).mpr (.inr m)), b.lk, fun q m n ne => b.cl q m fun z => ((hw q).mp z).elim ne n, b.nd⟩
theorem Bh.put {S : List (List Int)} {p h q : Pr} {sn wl : List Pr} (b : Bh S p h sn wl) (s : Step S h q) (n : q ∉ sn) : Bh S p h (sn ++ [q]) (wl ++ [q]) := by
  refine ⟨List.mem_append_left _ b.st, List.mem_append_left _ b.hm, fun r m => ?_, fun r m => ?_, fun r m nw ne t st => ?_, ?_⟩
  · rcases List.mem_append.mp m with m | m
    · exact List.mem_append_left _ (b.sub r m)
    · exact List.mem_append_right _ m
  · rcases List.mem_append.mp m with m | m
    · exact b.lk r m
    · rw [List.mem_singleton.mp m]; exact .tail (b.lk h b.hm) s
  · rcases List.mem_append.mp m with m | m
    · exact List.mem_append_left _ (b.cl r m (fun z => nw (List.mem_append_left _ z)) ne t st)
    · exact absurd (List.mem_append_right _ m) nw
  · rw [List.nodup_append]
    refine ⟨b.nd, by simp, fun a ma c mc e => ?_⟩
    rw [List.mem_singleton.mp mc] at e
    exact n (e ▸ ma)
theorem Bh.done {S : List (List Int)} {p h : Pr} {sn wl : List Pr} (b : Bh S p h sn wl) (a : ∀ r, Step S h r → r ∈ sn) : Bf S p sn wl :=
  ⟨b.st, b.sub, b.lk, fun q m nw r s => by
    by_cases e : q = h
    · rw [e] at s; exact a r s
    · exact b.cl q m nw e r s, b.nd⟩
theorem Bf.all {S : List (List Int)} {p : Pr} {sn : List Pr} (b : Bf S p sn []) (q : Pr) : q ∈ sn ↔ Lk S p q := by
  refine ⟨b.lk q, fun h => ?_⟩
  induction h with
  | refl => exact b.st
  | tail _ s ih => exact b.cl _ ih (fun z => nomatch z) _ s
end Kt
namespace Kt
open PySem PySem.Spec PyProof.Rows L2
open Evl (Ex Ev EvT EvO)
theorem Dt.pr_inj {H : Hp} {b : Addr} {p q : Pr} (h : Dt H (.ref b) (pD p)) (e : H b = some (.tup ((kp q).map kV))) : p = q := by
  obtain ⟨b', e1, e2⟩ := h.pair
  cases e1
  rw [e2] at e
  have e3 : (kp p).map kV = (kp q).map kV := by
    injection e with e
    injection e
  exact kp_inj (kVs_inj e3)
/-- the pairs that stand in a list of values -/
theorem prs_of {H : Hp} {qs : List Pr} : ∀ {ys : List V}, (∀ y ∈ ys, ∃ q ∈ qs, Dt H y (pD q)) → ∃ l : List Pr, DtAll H ys (l.map pD) ∧ ∀ q ∈ l, q ∈ qs
  | [], _ => ⟨[], .nil, fun _ h => nomatch h⟩
  | y :: ys, h => by
    obtain ⟨q, mq, hq⟩ := h y List.mem_cons_self
    obtain ⟨l, hl, ml⟩ := prs_of (ys := ys) fun z mz => h z (List.mem_cons_of_mem _ mz)
    refine ⟨q :: l, .cons hq hl, fun r mr => ?_⟩
    rcases List.mem_cons.mp mr with e | m
    · rw [e]; exact mq
    · exact ml r m
theorem prs_has {H : Hp} {l : List Pr} {ys : List V} (hd : DtAll H ys (l.map pD)) {q : Pr} {b : Addr} (m : V.ref b ∈ ys) (e : H b = some (.tup ((kp q).map kV))) : q ∈ l := by
  obtain ⟨p, mp, hp⟩ := hd.map_of _ m
  rw [← hp.pr_inj e]
  exact mp
theorem nil_or_last {α : Type} (l : List α) : l = [] ∨ ∃ l' x, l = l' ++ [x] := by
  cases h : l.reverse with
  | nil => exact .inl (by simpa using h)
  | cons x r =>
    refine .inr ⟨r.reverse, x, ?_⟩
    have e := congrArg List.reverse h
    rw [List.reverse_reverse, List.reverse_cons] at e
    exact e
section
variable {P : Program} {w : World} {K : PySem.W.Frag} {mg : Str → Option Value} {base : Heap}
def R_classIn : List PyData → (PyData → Prop) → Prop := fun ds P => ∃ n S p, ds = [SD n S, pD p] ∧ SysOk n S ∧ Vp n p ∧ P = fun d => ∃ l : List Pr, d = .tuple (l.map pD) ∧ (∀ q, q ∈ l ↔ Lk S p q) ∧ l.length ≤ 64
theorem sn_few {n : Int} {S : List (List Int)} {p : Pr} {sn : List Pr} (hS : SysOk n S) (hp : Vp n p) (nd : sn.Nodup) (lk : ∀ q ∈ sn, Lk S p q) : sn.length ≤ 64 := few_pairs hS.n5 nd fun q m => (lk q m).vp hS.sets hp
theorem ok_class_in (D : Df K mg "class_in" s_class_in ["system", "pair"]) (B : Bi mg) (O_steps_of : Ok P w K mg base "steps_of" 2 ["system", "pair"] (spL R_stepsOf)) : Ok P w K mg base "class_in" 3 ["system", "pair"] (spN R_classIn) := by
  refine D.ok sc_class_in (fun vs H Q E h => spN_len (fun ds P ⟨_, _, _, e, _⟩ => by rw [e]; rfl) h) (fun f cdv A outer s H vs Q E hr h => ?_)
  obtain ⟨ds, P, hv, ⟨n, S, p, rfl, hS, hp, rfl⟩, q⟩ := h
  obtain ⟨v0, v1, rfl, h0, h1⟩ := hv.inv2
  obtain ⟨b1, rfl, hb1⟩ := h1.pair
  have hu := hu_of hr
  refine ⟨_, (pss_cons (ps_set (i := 2) sc_class_in.nd rfl (.inl rfl) (pe_dispT hr.units0 (pv 1) pe_bl))
      (pss_cons (ps_set (i := 3) sc_class_in.nd rfl (.inl rfl) (pe_lst (pa_cons (pv 1) pa_nil)))
      (pss_cons (ps_while PassesOwn.never (pt_truth (pv 3) (by intro _; rfl)) (pss_one (ps_for PassesOwn.never rfl (pi_list (pe_callOk O_steps_of (hr.mono (by decide)) (by rfl) (pa_cons (pv 0) (pa_cons (pe_bm0 PySem.F.plainAttrs_list PySem.F.slot_list_pop PySem.F.type_list_pop mt_pop (pv 3)) pa_nil)))) (pgT (K := K) (n := 2) rfl rfl (pgs_cons (pg_name (i := 4) sc_class_in.nd rfl (.inl rfl)) (pgs_cons (pg_name (i := 5) sc_class_in.nd rfl (.inl rfl)) pgs_nil))) (pss_one (ps_if (pt_cmp (pc_dnotin hu (pv 5) (pv 2))) (pss_cons (ps_dput hu (pv 2) (pv 5) pe_bl rfl)
      (pss_one (ps_expr (pe_bm PySem.F.plainAttrs_list PySem.F.slot_list_append PySem.F.type_list_append mt_append (pv 3) (pa_cons (pv 5) pa_nil))))) pss_nil)))))
      (pss_one (ps_ret (pe_callTy call_tuple_of (by rfl) B.tuple (by decide +kernel) (pa_cons (pe_callB (cr_sortedDT rfl) (by rfl) B.sorted (by decide +kernel) (pa_cons (pv 2) pa_nil)) pa_nil))))))), ?_⟩
  intro Ds nD
  have neb : b1 ≠ Ds := ne_of_none hb1 nD
  refine ⟨.ref b1, rfl, upd_same, b1, kp p, rfl, (by rw [upd_ne neb]; exact hb1), ?_⟩
  rw [upd_upd]
  have e1 : Ex H (upd H Ds (.dT [(kp p, .bl true)])) := Ex.new nD
  have dc1 : DcAt (upd H Ds (.dT [(kp p, .bl true)])) Ds [(p, .bool true)] := ⟨_, upd_same, rfl, .cons (.bl true) .nil⟩
  generalize upd H Ds (.dT [(kp p, .bl true)]) = H1 at e1 dc1 ⊢
  refine z_setS (xlst (xacons (xvar rfl (h1.mono (tx e1))) xanil) (by show 1 ≤ 100000; decide)) fun Lw xs0 H2 n2 e2 hx2 hd2 => ?_
  have nL : H Lw = none := Evl.fresh_back e1 n2
  have e12 := e1.trans e2
  -- the loop
  refine ⟨fun m σ' H' => ∃ (v4 v5 : Option V) (sn : List (Pr × PyData)) (wl : List Pr), σ' = [some v0, some (.ref b1), some (.ref Ds), some (.ref Lw), v4, v5] ∧ Ex H H' ∧ DcAt H' Ds sn ∧ LsAt H' Lw wl ∧ Bf S p (sn.map fun z : Pr × PyData => z.1) wl ∧ m = wl.length + 2 * (64 - sn.length) ∧ m ≤ 200,
    ⟨_, none, none, [(p, .bool true)], [p], rfl, e12, dc1.keepX e2, ⟨xs0, hx2, hd2⟩, Bf.start S p, rfl, by show 1 + 2 * (64 - 1) ≤ 200; decide⟩, fun m σ' H' hw => ?_⟩
  obtain ⟨v4, v5, sn, wl, rfl, eH, dc, ls, bf, rfl, m200⟩ := hw
  have few : sn.length ≤ 64 := by
    have z := sn_few hS hp bf.nd bf.lk
    rw [List.length_map] at z
    exact z
  rcases nil_or_last wl with rfl | ⟨wl, h, rfl⟩
  · -- nothing waits: return tuple(sorted(seen))
    obtain ⟨xs, hx, hdx⟩ := ls.ex
    have ex0 : xs = [] := by cases hdx; rfl
    subst ex0
    refine ⟨.ref Lw, rfl, false, .inl ⟨[], SqL.of hx, rfl⟩, iteF ?_⟩
    obtain ⟨kvs, hk, hkk, hkd⟩ := dc.ex
    have hlen : kvs.length = sn.length := by
      have e := congrArg List.length hkk
      simp only [List.length_map] at e
      exact e
    have key : ∀ kv ∈ kvs, ∃ q ∈ sn.map (·.1), kv.1 = kp q := fun kv mk => by
      have m1 : kv.1 ∈ kvs.map (·.1) := List.mem_map.mpr ⟨kv, mk, rfl⟩
      rw [hkk] at m1
      obtain ⟨z, mz, e⟩ := List.mem_map.mp m1
      exact ⟨z.1, List.mem_map.mpr ⟨z, mz, rfl⟩, e.symm⟩
    have yek : ∀ q ∈ sn.map (·.1), ∃ kv ∈ kvs, kv.1 = kp q := fun q mq => by
      obtain ⟨z, mz, rfl⟩ := List.mem_map.mp mq
      have m1 : kp z.1 ∈ kvs.map (·.1) := by rw [hkk]; exact List.mem_map.mpr ⟨z, mz, rfl⟩
      obtain ⟨kv, mk, e⟩ := List.mem_map.mp m1
      exact ⟨kv, mk, e⟩
    refine ⟨.ref Ds, rfl, Ds, kvs, rfl, hk, fun kv mk => ?_, by omega, fun ys pn hA hB hC nn => ?_⟩
    · obtain ⟨q, _, e⟩ := key kv mk
      exact ⟨q.1, q.2, e⟩
    · obtain ⟨l, hl, ml⟩ := prs_of (H := H') (qs := sn.map (·.1)) (ys := ys) fun y my => by
        obtain ⟨b, kv, rfl, mk, hb⟩ := hA y my
        obtain ⟨q, mq, e⟩ := key kv mk
        rw [e] at hb
        exact ⟨q, mq, pair_of hb⟩
      refine ⟨pn, ys, rfl, .inl ⟨SqL.of upd_same, fun Lt nt => ?_⟩⟩
      have ex : Ex H' (upd (upd H' pn (.lst ys)) Lt (.tup ys)) := (Ex.new nn).trans (Ex.new nt)
      refine q _ (.tuple (l.map pD)) _ ⟨l, rfl, fun r => ⟨fun mr => bf.lk r (ml r mr), fun lr => ?_⟩, ?_⟩ (eH.trans ex) (.tup upd_same (hl.mono (tx ex)))
      · obtain ⟨kv, mk, e⟩ := yek r ((bf.all r).mpr lr)
        obtain ⟨b, mb, hb⟩ := hB kv mk
        rw [e] at hb
        exact prs_has hl mb hb
      · have e := hl.length
        rw [List.length_map] at e
        omega
  · -- for _, other in steps_of(system, waiting.pop())
    obtain ⟨xs, y, hx, hy, hdy, t3, ls3⟩ := ls.pop
    have hne : true = !xs.isEmpty := by
      cases xs with
      | nil => simp at hy
      | cons _ _ => rfl
    refine ⟨.ref Lw, rfl, true, .inl ⟨xs, SqL.of hx, hne⟩, iteT ⟨fun σ' H' => ∃ m', m' < (wl ++ [h]).length + 2 * (64 - sn.length) ∧ ∃ (v4 v5 : Option V) (sn : List (Pr × PyData)) (wl : List Pr), σ' = [some v0, some (.ref b1), some (.ref Ds), some (.ref Lw), v4, v5] ∧ Ex H H' ∧ DcAt H' Ds sn ∧ LsAt H' Lw wl ∧ Bf S p (sn.map fun z : Pr × PyData => z.1) wl ∧ m' = wl.length + 2 * (64 - sn.length) ∧ m' ≤ 200, fun σ' H' hn => hn, ?_⟩⟩
    refine ⟨v0, rfl, .ref Lw, rfl, .inl ⟨rfl, xs, SqL.of hx⟩, Lw, xs, y, rfl, rfl, hx, hy, ?_⟩
    have ne := dc.ne ls
    have eH3 : Ex H (upd H' Lw (.lst xs.dropLast)) := eH.mut nL
    have dc3 := dc.keep (H' := upd H' Lw (.lst xs.dropLast)) (upd_ne ne) t3
    generalize upd H' Lw (.lst xs.dropLast) = H3 at t3 ls3 eH3 dc3 ⊢
    refine ⟨[SD n S, pD h], _, .cons (h0.mono (tx eH3)) (.cons (hdy.mono t3) .nil), ⟨n, S, h, rfl, hS, rfl⟩, fun L4 xs4 es H4 ⟨l, hes, hl, hlen⟩ n4 e4 hx4 hd4 => ?_⟩
    subst hes
    have ls4 := ls3.keepX e4
    have dc4 := dc3.keepX e4
    have eH4 := eH3.trans e4
    have nD4 : L4 ≠ Ds := fun z => by
      obtain ⟨kvs, hk, _⟩ := dc3.ex
      rw [z, hk] at n4
      cases n4
    have nL4 : L4 ≠ Lw := fun z => by
      obtain ⟨xs, hk, _⟩ := ls3.ex
      rw [z, hk] at n4
      cases n4
    have bh : Bh S p h (sn.map (·.1)) wl := bf.take fun q => by
      rw [List.mem_append, List.mem_singleton]
      exact Or.comm
    refine ⟨L4, rfl, ⟨xs4, SqL.of hx4⟩, for_list (xs := xs4) (fun i σ' H' => ∃ (v4 v5 : Option V) (sn' : List (Pr × PyData)) (wl' : List Pr), σ' = [some v0, some (.ref b1), some (.ref Ds), some (.ref Lw), v4, v5] ∧ Ex H H' ∧ Tx H4 H' ∧ H' L4 = some (.lst xs4) ∧ DcAt H' Ds sn' ∧ LsAt H' Lw wl' ∧ Bh S p h (sn'.map fun z : Pr × PyData => z.1) wl' ∧ (∀ z ∈ l.take i, z.2 ∈ sn'.map fun z : Pr × PyData => z.1) ∧ wl'.length + 2 * (64 - sn'.length) < (wl ++ [h]).length + 2 * (64 - sn.length))
      ⟨v4, v5, sn, wl, rfl, eH4, Tx.refl _, hx4, dc4, ls4, bh, fun z hz => by simp at hz, by rw [List.length_append]; show _ < wl.length + 1 + _; omega⟩ (fun i σ' H' _ hp => ?_) (fun i x σ' H' hi hp' => ?_) (fun σ' H' hp' => ?_)⟩
    · obtain ⟨_, _, _, _, _, _, _, hL, _⟩ := hp
      exact SqL.of hL
    · obtain ⟨v4', v5', sn', wl', rfl, eH', tH', hL', dc', ls', bh', hdone, hm⟩ := hp'
      have few' : sn'.length ≤ 64 := by
        have z := sn_few hS hp bh'.nd bh'.lk
        rw [List.length_map] at z
        exact z
      obtain ⟨z, hz, hdz⟩ : ∃ z, l[i]? = some z ∧ Dt H' x (tD z) := by
        obtain ⟨d, hd, hdx⟩ := (hd4.mono tH').getV hi
        rw [List.getElem?_map] at hd
        cases e : l[i]? with
        | none => rw [e] at hd; cases hd
        | some z => rw [e] at hd; exact ⟨z, rfl, by rw [show tD z = d from Option.some.inj hd]; exact hdx⟩
      obtain ⟨a, as, rfl, ha, has⟩ := hdz.tup_inv
      obtain ⟨u, w', rfl, hu1, hw1⟩ := has.inv2
      obtain ⟨b, rfl, hb⟩ := hw1.pair
      have sz : Step S h z.2 := (hl z.2).mp ⟨z.1, List.mem_of_getElem? hz⟩
      refine ⟨a, [u, .ref b], rfl, SqT.of ha, rfl, u, [.ref b], rfl, .ref b, [], rfl, rfl, ?_⟩
      obtain ⟨o, hget, ho⟩ := dc'.look hb
      refine ⟨.ref b, rfl, .ref Ds, rfl, Ds, o, rfl, hget, !o.isSome, rfl, ?_⟩
      rcases ho with ⟨rfl, hnot⟩ | ⟨v, d, rfl, hv, hin⟩
      · refine iteT ?_
        obtain ⟨od, hput, tp, dcp⟩ := dc'.put (v := .bl true) hb hnot (.bl true) (by omega)
        refine ⟨.ref Ds, rfl, .ref b, rfl, Ds, _, rfl, hput, ?_⟩
        have lsp := ls'.keep (H' := upd H' Ds od) (upd_ne (dc'.ne ls').symm) tp
        obtain ⟨xs', hx', hz', ta, lsa⟩ := lsp.app (q := z.2) ((pair_of hb).mono tp) (by omega)
        refine ⟨.ref Lw, rfl, .inl ⟨rfl, xs', SqL.of hx'⟩, .ref b, rfl, Lw, xs', .ref b, rfl, rfl, hx', hz', ?_⟩
        refine ⟨_, _, sn' ++ [(z.2, .bool true)], wl' ++ [z.2], rfl, (eH'.mut nD).mut nL, (tH'.trans tp).trans ta, ?_, ?_, lsa, ?_, fun y hy => ?_, ?_⟩
        · rw [upd_ne nL4, upd_ne nD4]; exact hL'
        · exact dcp.keep (upd_ne (dc'.ne ls')) ta
        · rw [List.map_append]
          exact bh'.put sz hnot
        · rw [take_snoc hz] at hy
          rw [List.map_append]
          rcases List.mem_append.mp hy with m | m
          · exact List.mem_append_left _ (hdone y m)
          · rw [List.mem_singleton.mp m]; exact List.mem_append_right _ List.mem_cons_self
        · rw [List.length_append, List.length_append]
          show wl'.length + 1 + 2 * (64 - (sn'.length + 1)) < _
          have lt : sn'.length < 64 := by
            have nd2 := (bh'.put sz hnot)
            have z2 := sn_few hS hp nd2.nd nd2.lk
            rw [List.length_append, List.length_map] at z2
            exact z2
          omega
      · refine iteF ?_
        refine ⟨_, _, sn', wl', rfl, eH', tH', hL', dc', ls', bh', fun y hy => ?_, hm⟩
        rw [take_snoc hz] at hy
        rcases List.mem_append.mp hy with m | m
        · exact hdone y m
        · rw [List.mem_singleton.mp m]; exact List.mem_map.mpr ⟨_, hin, rfl⟩
    · obtain ⟨v4', v5', sn', wl', rfl, eH', tH', hL', dc', ls', bh', hdone, hm⟩ := hp'
      refine ⟨_, hm, v4', v5', sn', wl', rfl, eH', dc', ls', bh'.done fun r sr => ?_, rfl, by omega⟩
      obtain ⟨a, ha⟩ := (hl r).mpr sr
      refine hdone (a, r) ?_
      rw [List.take_of_length_le (by rw [hd4.length, List.length_map] <;> exact Nat.le_refl _)]
      exact ha
end
end Kt
namespace Kt
open PySem PySem.Spec PyProof.Rows L2
open Evl (Ex Ev EvT EvO)
section
variable {K : PySem.W.Frag} {σ : L2.St} {H H' : Hp} {ta tb te : TE} {t : TT} {d d0 d1 d2 d3 : PyData} {ds : List PyData} {D : Ends} {tu tw tz : TS}
theorem xinT {P : PyData → Prop} {b : Bool} (ha : EvD ta σ H d0) (hb : EvN tb σ H P) (h0 : SeqAt.shaped d0 = true) (hP : ∀ d, P d → ∃ ds, d = .tuple ds ∧ SeqAt.shaped (.tuple ds) = true ∧ (ds.any fun z => PyData.eqv z d0) = b) :
    EvD (tOp (rInT K) ta tb) σ H (.bool b) := fun H1 e _ q => ha H1 e _ fun x H2 e2 hx => hb H2 (e.trans e2) _ fun y d H3 p e3 hy => by
  obtain ⟨ds, rfl, hs, hb⟩ := hP d p
  refine ⟨d0, ds, (hx.mono (tx e3)).dp, hy.dp, h0, hs, ?_⟩
  rw [hb]
  exact q _ H3 (e2.trans e3) (.bl _)
/-- for i in range(m) -/
theorem e_forR {ta : TA} {j : Nat} {m : Int} (h : EvA ta σ H [.int m]) (hm : 0 ≤ m ∧ m ≤ 50000) (Pv : Nat → L2.St → Hp → Prop) (h0 : ∀ H1, Ex H H1 → Pv 0 σ H1)
    (hs : ∀ (i : Nat) σ' H', (i : Int) < m → Pv i σ' H' → tu { D with nx := Pv (i + 1), ct := Pv (i + 1), bk := D.nx } (σ'.set j (some (.int (i : Int)))) H') (hd : ∀ σ' H', Pv m.toNat σ' H' → D.nx σ' H') :
    tFor (iRng1 ta) (gName j) tu D σ H := h H (Ex.refl H) _ fun us H1 e hx => by
  have hus : us = [.int m] := by
    obtain ⟨x, rfl, h1⟩ := hx.inv1
    rw [h1.int_inv]
  refine ⟨m, hus, by omega, by omega, for_range (lo := 0) (n := m.toNat) Pv (h0 H1 e) (fun i σ' H' hi p => ?_) hd⟩
  have z0 : (0 : Int) + (i : Int) = i := by omega
  change tu { D with nx := Pv (i + 1), ct := Pv (i + 1), bk := D.nx } (σ'.set j (some (V.int (0 + (i : Int))))) H'
  rw [z0]
  exact hs i σ' H' (by omega) p
theorem z_forR {ta : TA} {j : Nat} {m : Int} (h : EvA ta σ H [.int m]) (hm : 0 ≤ m ∧ m ≤ 50000) (Pv : Nat → L2.St → Hp → Prop) (h0 : ∀ H1, Ex H H1 → Pv 0 σ H1)
    (hs : ∀ (i : Nat) σ' H', (i : Int) < m → Pv i σ' H' → tu { D with nx := Pv (i + 1), ct := Pv (i + 1), bk := tz D } (σ'.set j (some (.int (i : Int)))) H') (hd : ∀ σ' H', Pv m.toNat σ' H' → tz D σ' H') :
    tSeq (tFor (iRng1 ta) (gName j) tu) tz D σ H := e_forR (D := { D with nx := tz D }) h hm Pv h0 hs hd
end
theorem pD_lay (z : Pr) : (pD z).canLay0 = true := by simp [pD, PyData.canLay0, PyData.canLayAll0]
theorem pD_depth (z : Pr) : (pD z).depth = 1 := by simp [pD, PyData.depth, PyData.depthAll]
theorem pDs_lay : ∀ zs : List Pr, PyData.canLayAll0 (zs.map pD) = true
  | [] => by rw [List.map_nil]; simp [PyData.canLayAll0]
  | z :: zs => by simp [PyData.canLayAll0, pD_lay z, pDs_lay zs]
theorem pDs_depth : ∀ zs : List Pr, PyData.depthAll (zs.map pD) ≤ 1
  | [] => by rw [List.map_nil]; simp [PyData.depthAll]
  | z :: zs => by
    have h1 := pDs_depth zs
    have h2 := pD_depth z
    rw [List.map_cons]
    simp only [PyData.depthAll]
    omega
theorem pD_shaped (z : Pr) : SeqAt.shaped (pD z) = true := by
  have h := pD_depth z
  show ((pD z).canLay0 && decide ((pD z).depth ≤ 64)) = true
  rw [Bool.and_eq_true]
  exact ⟨pD_lay z, decide_eq_true (by omega)⟩
theorem pDs_shaped (zs : List Pr) : SeqAt.shaped (.tuple (zs.map pD)) = true := by
  have h1 := pDs_depth zs
  have h2 : PyData.depth (.tuple (zs.map pD)) ≤ 64 := by
    simp only [PyData.depth]
    omega
  show (PyData.canLay0 (.tuple (zs.map pD)) && decide (PyData.depth (.tuple (zs.map pD)) ≤ 64)) = true
  rw [Bool.and_eq_true]
  exact ⟨by simp only [PyData.canLay0]; exact pDs_lay zs, decide_eq_true h2⟩
theorem pD_eqv (z w : Pr) : PyData.eqv (pD z) (pD w) = decide (z = w) := by
  obtain ⟨a, b⟩ := z
  obtain ⟨c, d⟩ := w
  have e : PyData.eqv (pD (a, b)) (pD (c, d)) = ((a == c) && ((b == d) && true)) := by simp only [pD, PyData.eqv, PyData.eqvAll]
  rw [e]
  by_cases h1 : a = c <;> by_cases h2 : b = d <;> simp [h1, h2]
theorem any_pD (l : List Pr) (q : Pr) : ((l.map pD).any fun z => PyData.eqv z (pD q)) = decide (q ∈ l) := by
  induction l with
  | nil => simp
  | cons a l ih =>
    rw [List.map_cons, List.any_cons, ih, pD_eqv]
    by_cases h : a = q
    · subst h; simp
    · have h' : ¬ q = a := fun e => h e.symm
      simp [h, h']
section
variable {P : Program} {w : World} {K : PySem.W.Frag} {mg : Str → Option Value} {base : Heap}
def R_linked : List PyData → (PyData → Prop) → Prop := fun ds P => ∃ n S p q, ds = [SD n S, pD p, pD q] ∧ SysOk n S ∧ Vp n p ∧ P = (· = .bool (lkB S p q))
theorem ok_linked (D : Df K mg "linked" s_linked ["system", "pair", "other"]) (B : Bi mg) (O_class_in : Ok P w K mg base "class_in" 3 ["system", "pair"] (spN R_classIn)) : Ok P w K mg base "linked" 4 ["system", "pair", "other"] (spN R_linked) := by
  refine D.ok sc_linked (fun vs H Q E h => spN_len (fun ds P ⟨_, _, _, _, e, _⟩ => by rw [e]; rfl) h) (fun f cdv A outer s H vs Q E hr h => ?_)
  obtain ⟨ds, P, hv, ⟨n, S, p, r, rfl, hS, hp, rfl⟩, q⟩ := h
  obtain ⟨v0, v1, v2, rfl, h0, h1, h2⟩ := hv.inv3
  have hu65 := room65 hr
  refine ⟨_, (pss_one (ps_ret (pe_cmpR (op_inT hu65) (pv 2) (pe_callOk O_class_in (hr.mono (by decide)) (by rfl) (pa_cons (pv 0) (pa_cons (pv 1) pa_nil))) rfl))), ?_⟩
  refine e_ret (xinT (b := lkB S p r) (xvar rfl h2) (xcallN (xacons (xvar rfl h0) (xacons (xvar rfl h1) xanil)) ⟨n, S, p, rfl, hS, hp, rfl⟩) (pD_shaped r) fun d ⟨l, e, hl, _⟩ => ⟨_, e, pDs_shaped l, ?_⟩) fun v H1 e hd => q v _ H1 rfl e hd
  rw [any_pD]
  cases hb : lkB S p r with
  | true => exact decide_eq_true ((hl r).mpr (lkB_iff.mp hb))
  | false =>
    refine decide_eq_false fun m => ?_
    have z := lkB_iff.mpr ((hl r).mp m)
    rw [hb] at z
    cases z
def R_nc : List PyData → (PyData → Prop) → Prop := fun ds P => ∃ n S, ds = [SD n S] ∧ SysOk n S ∧ Nc n S ∧ P = (· = .none)
theorem ok_reversed_in (D : Df K mg "reversed_in" s_reversed_in ["system"]) (B : Bi mg) (O_linked : Ok P w K mg base "linked" 4 ["system", "pair", "other"] (spN R_linked)) : Ok P w K mg base "reversed_in" 5 ["system"] (spN R_nc) := by
  refine D.ok sc_reversed_in (fun vs H Q E h => spN_len (fun ds P ⟨_, _, e, _⟩ => by rw [e]; rfl) h) (fun f cdv A outer s H vs Q E hr h => ?_)
  obtain ⟨ds, P, hv, ⟨n, S, rfl, hS, nc, rfl⟩, q⟩ := h
  obtain ⟨v0, rfl, h0⟩ := hv.inv1
  have h2 := hS.n2
  have h5 := hS.n5
  refine ⟨_, (pss_cons (ps_for PassesOwn.never rfl (pi_range1 rfl B.range (pa_cons (pe_ix (ixT (K := K)) (pv 0) pe_int (fun _ _ => rfl)) pa_nil)) (pg_name (i := 1) sc_reversed_in.nd rfl (.inl rfl)) (pss_one (ps_for PassesOwn.never rfl (pi_range1 rfl B.range (pa_cons (pe_ix (ixT (K := K)) (pv 0) pe_int (fun _ _ => rfl)) pa_nil)) (pg_name (i := 2) sc_reversed_in.nd rfl (.inl rfl)) (pss_one (ps_if (PW.pt (pw_and (pt_cmpR op_ne (pv 1) (pv 2) (nomark _)) (pw_and1 (pt_val (pe_callOk O_linked (hr.mono (by decide)) (by rfl) (pa_cons (pv 0) (pa_cons (pe_tup (pa_cons (pv 1) (pa_cons (pv 2) pa_nil))) (pa_cons (pe_tup (pa_cons (pv 2) (pa_cons (pv 1) pa_nil))) pa_nil)))))))) (pss_one (ps_ret (pe_tup (pa_cons (pv 1) (pa_cons (pv 2) pa_nil))))) pss_nil)))))
      (pss_one (ps_ret pe_non))), ?_⟩
  refine z_forR (xacons (xix (xvar rfl h0) xint sd0) xanil) (by omega) (fun _ σ' H' => ∃ v1 v2, σ' = [some v0, v1, v2] ∧ Ex H H') (fun H1 e => ⟨none, none, rfl, e⟩) (fun i σ' H' hi hp => ?_) (fun σ' H' hp => ?_)
  · obtain ⟨v1, v2, rfl, e1⟩ := hp
    refine e_forR (xacons (xix (xvar rfl (h0.mono (tx e1))) xint sd0) xanil) (by omega) (fun _ σ' H' => ∃ v2, σ' = [some v0, some (.int (i : Int)), v2] ∧ Ex H H') (fun H2 e2 => ⟨v2, rfl, e1.trans e2⟩) (fun j σ' H' hj hp => ?_) (fun σ' H' hp => ?_)
    · obtain ⟨v2, rfl, e2⟩ := hp
      have hd := h0.mono (tx e2)
      refine e_if (b := false) (Evl.et_is (Evl.et_and (xT (xneI (xvar rfl (.int _)) (xvar rfl (.int _)))) fun hb => xB (xcall (d := .bool (lkB S ((i : Int), (j : Int)) ((j : Int), (i : Int)))) (xacons (xvar rfl hd) (xacons (xtup (xacons (xvar rfl (.int _)) (xacons (xvar rfl (.int _)) xanil)) (by show 2 ≤ 100000; decide)) (xacons (xtup (xacons (xvar rfl (.int _)) (xacons (xvar rfl (.int _)) xanil)) (by show 2 ≤ 100000; decide)) xanil))) ⟨n, S, ((i : Int), (j : Int)), ((j : Int), (i : Int)), rfl, hS, ?_, rfl⟩)) ?_) (fun z => nomatch z) fun _ H3 e3 => ⟨_, rfl, e2.trans e3⟩
      · have ne : (i : Int) ≠ (j : Int) := by simpa using hb
        exact ⟨by show (0 : Int) ≤ (i : Int); omega, hi, by show (0 : Int) ≤ (j : Int); omega, hj, ne⟩
      · by_cases ne : (i : Int) = (j : Int)
        · rw [ne]; simp
        · have z : lkB S ((i : Int), (j : Int)) ((j : Int), (i : Int)) = false := by
            cases hb : lkB S ((i : Int), (j : Int)) ((j : Int), (i : Int)) with
            | false => rfl
            | true => exact absurd (lkB_iff.mp hb) (nc ((i : Int), (j : Int)) ⟨by show (0 : Int) ≤ (i : Int); omega, hi, by show (0 : Int) ≤ (j : Int); omega, hj, ne⟩)
          rw [z, Bool.and_false]
    · obtain ⟨v2, rfl, e2⟩ := hp
      exact ⟨_, _, rfl, e2⟩
  · obtain ⟨v1, v2, rfl, e1⟩ := hp
    exact e_ret xnon fun v H2 e2 hd => q v _ H2 rfl (e1.trans e2) hd
def R_ncB : List PyData → (PyData → Prop) → Prop := fun ds P => ∃ n S, ds = [SD n S] ∧ SysOk n S ∧ Nc n S ∧ P = (· = .bool false)
theorem ok_is_contradictory_of (D : Df K mg "is_contradictory_of" s_is_contradictory_of ["system"]) (B : Bi mg) (O_reversed_in : Ok P w K mg base "reversed_in" 5 ["system"] (spN R_nc)) : Ok P w K mg base "is_contradictory_of" 6 ["system"] (spN R_ncB) := by
  refine D.ok sc_is_contradictory_of (fun vs H Q E h => spN_len (fun ds P ⟨_, _, e, _⟩ => by rw [e]; rfl) h) (fun f cdv A outer s H vs Q E hr h => ?_)
  obtain ⟨ds, P, hv, ⟨n, S, rfl, hS, nc, rfl⟩, q⟩ := h
  obtain ⟨v0, rfl, h0⟩ := hv.inv1
  refine ⟨_, (pss_one (ps_ret (pe_cmpR op_notN (pe_callOk O_reversed_in (hr.mono (by decide)) (by rfl) (pa_cons (pv 0) pa_nil)) pe_non (nomark _)))), ?_⟩
  exact e_ret (xnotN (xcall (d := .none) (xacons (xvar rfl h0) xanil) ⟨n, S, rfl, hS, nc, rfl⟩)) fun v H1 e hd => q v _ H1 rfl e hd
end
end Kt
namespace Kt
open PySem PySem.Spec PyProof.Rows L2
open Evl (Ex Ev EvT EvO)
/-- each entry but the first tells one that stands before it -/
def Ch (p : Pr) (sn : List (Pr × PyData)) : Prop := ∀ i q z, sn[i]? = some (q, z) → (i = 0 ∧ q = p) ∨ ∃ h a j zh, z = .tuple [pD h, .int a] ∧ j < i ∧ sn[j]? = some (h, zh)
theorem Ch.start (p : Pr) (z : PyData) : Ch p [(p, z)] := fun i q z' h => by
  cases i with
  | zero => exact .inl ⟨rfl, by have e := Option.some.inj h; injection e with e1 _; exact e1.symm⟩
  | succ i => simp at h
theorem Ch.put {p h q : Pr} {a : Int} {sn : List (Pr × PyData)} (c : Ch p sn) (m : h ∈ sn.map fun z : Pr × PyData => z.1) : Ch p (sn ++ [(q, .tuple [pD h, .int a])]) := fun i r z e => by
  obtain ⟨⟨h', zh⟩, mz, rfl⟩ := List.mem_map.mp m
  obtain ⟨j, hj⟩ := List.getElem?_of_mem mz
  have hjl : j < sn.length := (List.getElem?_eq_some_iff.mp hj).1
  by_cases hi : i < sn.length
  · rw [List.getElem?_append_left hi] at e
    rcases c i r z e with a' | ⟨h2, a2, j2, zh2, e1, e2, e3⟩
    · exact .inl a'
    · exact .inr ⟨h2, a2, j2, zh2, e1, e2, by rw [List.getElem?_append_left (by omega)]; exact e3⟩
  · rw [List.getElem?_append_right (by omega)] at e
    have hi0 : i - sn.length = 0 := by
      cases q : i - sn.length with
      | zero => rfl
      | succ k => rw [q] at e; simp at e
    rw [hi0] at e
    have e' := Option.some.inj e
    injection e' with e1 e2
    exact .inr ⟨h', a, j, zh, e2.symm, by omega, by rw [List.getElem?_append_left hjl]; exact hj⟩
structure Wy (S : List (List Int)) (p : Pr) (sn : List (Pr × PyData)) : Prop where
  all : ∀ q, (q ∈ sn.map fun z : Pr × PyData => z.1) ↔ Lk S p q
  few : sn.length ≤ 64
  ch : Ch p sn
  nd : (sn.map fun z : Pr × PyData => z.1).Nodup
section
variable {P : Program} {w : World} {K : PySem.W.Frag} {mg : Str → Option Value} {base : Heap}
def spWays : Sp := fun vs H Q _ => ∃ n S p, DtAll H vs [SD n S, pD p] ∧ SysOk n S ∧ Vp n p ∧ ∀ d sn H', H d = none → Ex H H' → DcAt H' d sn → Wy S p sn → Q (.ref d) H'
theorem seqIx0 {n : Nat} : seqIndex? 0 (n + 1) = some 0 := (ixN_seq (Evl.ixN_nat (n := n + 1) (j := 0) (by omega))).1
theorem ok_ways_from (D : Df K mg "ways_from" s_ways_from ["system", "pair"]) (B : Bi mg) (O_steps_of : Ok P w K mg base "steps_of" 2 ["system", "pair"] (spL R_stepsOf)) : Ok P w K mg base "ways_from" 3 ["system", "pair"] spWays := by
  refine D.ok sc_ways_from (fun vs H Q E h => by obtain ⟨_, _, _, hv, _⟩ := h; exact hv.length) (fun f cdv A outer s H vs Q E hr h => ?_)
  obtain ⟨n, S, p, hv, hS, hp, q⟩ := h
  obtain ⟨v0, v1, rfl, h0, h1⟩ := hv.inv2
  obtain ⟨b1, rfl, hb1⟩ := h1.pair
  have hu := hu_of hr
  refine ⟨_, (pss_cons (ps_set (i := 2) sc_ways_from.nd rfl (.inl rfl) (pe_dispT hr.units0 (pv 1) pe_non))
      (pss_cons (ps_set (i := 3) sc_ways_from.nd rfl (.inl rfl) (pe_lst (pa_cons (pv 1) pa_nil)))
      (pss_cons (ps_while PassesOwn.never (pt_truth (pv 3) (by intro _; rfl)) (pss_cons (ps_set (i := 4) sc_ways_from.nd rfl (.inl rfl) (pe_bm PySem.F.plainAttrs_list PySem.F.slot_list_pop PySem.F.type_list_pop mt_popAt (pv 3) (pa_cons pe_int pa_nil)))
      (pss_one (ps_for PassesOwn.never rfl (pi_list (pe_callOk O_steps_of (hr.mono (by decide)) (by rfl) (pa_cons (pv 0) (pa_cons (pv 4) pa_nil)))) (pgT (K := K) (n := 2) rfl rfl (pgs_cons (pg_name (i := 5) sc_ways_from.nd rfl (.inl rfl)) (pgs_cons (pg_name (i := 6) sc_ways_from.nd rfl (.inl rfl)) pgs_nil))) (pss_one (ps_if (pt_cmp (pc_dnotin hu (pv 6) (pv 2))) (pss_cons (ps_dput hu (pv 2) (pv 6) (pe_tup (pa_cons (pv 4) (pa_cons (pv 5) pa_nil))) rfl)
      (pss_one (ps_expr (pe_bm PySem.F.plainAttrs_list PySem.F.slot_list_append PySem.F.type_list_append mt_append (pv 3) (pa_cons (pv 6) pa_nil))))) pss_nil))))))
      (pss_one (ps_ret (pv 2)))))), ?_⟩
  intro Ds nD
  have neb : b1 ≠ Ds := ne_of_none hb1 nD
  refine ⟨.ref b1, rfl, upd_same, b1, kp p, rfl, (by rw [upd_ne neb]; exact hb1), ?_⟩
  rw [upd_upd]
  have e1 : Ex H (upd H Ds (.dT [(kp p, .non)])) := Ex.new nD
  have dc1 : DcAt (upd H Ds (.dT [(kp p, .non)])) Ds [(p, .none)] := ⟨_, upd_same, rfl, .cons .non .nil⟩
  generalize upd H Ds (.dT [(kp p, .non)]) = H1 at e1 dc1 ⊢
  refine z_setS (xlst (xacons (xvar rfl (h1.mono (tx e1))) xanil) (by show 1 ≤ 100000; decide)) fun Lw xs0 H2 n2 e2 hx2 hd2 => ?_
  have nL : H Lw = none := Evl.fresh_back e1 n2
  have e12 := e1.trans e2
  -- the loop
  refine ⟨fun m σ' H' => ∃ (v4 v5 v6 : Option V) (sn : List (Pr × PyData)) (wl : List Pr), σ' = [some v0, some (.ref b1), some (.ref Ds), some (.ref Lw), v4, v5, v6] ∧ Ex H H' ∧ DcAt H' Ds sn ∧ LsAt H' Lw wl ∧ Bf S p (sn.map fun z : Pr × PyData => z.1) wl ∧ Ch p sn ∧ m = wl.length + 2 * (64 - sn.length) ∧ m ≤ 200,
    ⟨_, none, none, none, [(p, .none)], [p], rfl, e12, dc1.keepX e2, ⟨xs0, hx2, hd2⟩, Bf.start S p, Ch.start p _, rfl, by show 1 + 2 * (64 - 1) ≤ 200; decide⟩, fun m σ' H' hw => ?_⟩
  obtain ⟨v4, v5, v6, sn, wl, rfl, eH, dc, ls, bf, ch, rfl, m200⟩ := hw
  have few : sn.length ≤ 64 := by
    have z := sn_few hS hp bf.nd bf.lk
    rw [List.length_map] at z
    exact z
  cases wl with
  | nil =>
    obtain ⟨xs, hx, hdx⟩ := ls.ex
    have ex0 : xs = [] := by cases hdx; rfl
    subst ex0
    refine ⟨.ref Lw, rfl, false, .inl ⟨[], SqL.of hx, rfl⟩, iteF ?_⟩
    exact ⟨.ref Ds, rfl, q Ds sn H' nD eH dc ⟨fun r => bf.all r, few, ch, bf.nd⟩⟩
  | cons h wl =>
    obtain ⟨y, xs, hx, hdy, t3, ls3⟩ := ls.pop0
    refine ⟨.ref Lw, rfl, true, .inl ⟨_, SqL.of hx, rfl⟩, iteT ⟨fun σ' H' => ∃ m', m' < (h :: wl).length + 2 * (64 - sn.length) ∧ ∃ (v4 v5 v6 : Option V) (sn : List (Pr × PyData)) (wl : List Pr), σ' = [some v0, some (.ref b1), some (.ref Ds), some (.ref Lw), v4, v5, v6] ∧ Ex H H' ∧ DcAt H' Ds sn ∧ LsAt H' Lw wl ∧ Bf S p (sn.map fun z : Pr × PyData => z.1) wl ∧ Ch p sn ∧ m' = wl.length + 2 * (64 - sn.length) ∧ m' ≤ 200, fun σ' H' hn => hn, ?_⟩⟩
    refine ⟨.ref Lw, rfl, .inl ⟨rfl, _, SqL.of hx⟩, Lw, _, 0, 0, y, rfl, rfl, hx, by decide, by decide, seqIx0, rfl, ?_⟩
    have ne := dc.ne ls
    have eH3 : Ex H (upd H' Lw (.lst xs)) := eH.mut nL
    have dc3 := dc.keep (H' := upd H' Lw (.lst xs)) (upd_ne ne) t3
    rw [show (y :: xs).eraseIdx 0 = xs from rfl]
    have hdy3 := hdy.mono t3
    generalize upd H' Lw (.lst xs) = H3 at t3 ls3 eH3 dc3 hdy3 ⊢
    refine ⟨v0, rfl, y, rfl, [SD n S, pD h], _, .cons (h0.mono (tx eH3)) (.cons hdy3 .nil), ⟨n, S, h, rfl, hS, rfl⟩, fun L4 xs4 es H4 ⟨l, hes, hl, hlen⟩ n4 e4 hx4 hd4 => ?_⟩
    subst hes
    have ls4 := ls3.keepX e4
    have dc4 := dc3.keepX e4
    have eH4 := eH3.trans e4
    have nD4 : L4 ≠ Ds := fun z => by
      obtain ⟨kvs, hk, _⟩ := dc3.ex
      rw [z, hk] at n4
      cases n4
    have nL4 : L4 ≠ Lw := fun z => by
      obtain ⟨xs, hk, _⟩ := ls3.ex
      rw [z, hk] at n4
      cases n4
    have bh : Bh S p h (sn.map fun z : Pr × PyData => z.1) wl := bf.take fun q => List.mem_cons
    refine ⟨L4, rfl, ⟨xs4, SqL.of hx4⟩, for_list (xs := xs4) (fun i σ' H' => ∃ (v5 v6 : Option V) (sn' : List (Pr × PyData)) (wl' : List Pr), σ' = [some v0, some (.ref b1), some (.ref Ds), some (.ref Lw), some y, v5, v6] ∧ Ex H H' ∧ Tx H4 H' ∧ H' L4 = some (.lst xs4) ∧ DcAt H' Ds sn' ∧ LsAt H' Lw wl' ∧ Bh S p h (sn'.map fun z : Pr × PyData => z.1) wl' ∧ Ch p sn' ∧ (∀ z ∈ l.take i, z.2 ∈ sn'.map fun z : Pr × PyData => z.1) ∧ wl'.length + 2 * (64 - sn'.length) < (h :: wl).length + 2 * (64 - sn.length))
      ⟨v5, v6, sn, wl, rfl, eH4, Tx.refl _, hx4, dc4, ls4, bh, ch, fun z hz => by simp at hz, by rw [List.length_cons]; omega⟩ (fun i σ' H' _ hp => ?_) (fun i x σ' H' hi hp' => ?_) (fun σ' H' hp' => ?_)⟩
    · obtain ⟨_, _, _, _, _, _, _, hL, _⟩ := hp
      exact SqL.of hL
    · obtain ⟨v5', v6', sn', wl', rfl, eH', tH', hL', dc', ls', bh', ch', hdone, hm⟩ := hp'
      have few' : sn'.length ≤ 64 := by
        have z := sn_few hS hp bh'.nd bh'.lk
        rw [List.length_map] at z
        exact z
      obtain ⟨z, hz, hdz⟩ : ∃ z, l[i]? = some z ∧ Dt H' x (tD z) := by
        obtain ⟨d, hd, hdx⟩ := (hd4.mono tH').getV hi
        rw [List.getElem?_map] at hd
        cases e : l[i]? with
        | none => rw [e] at hd; cases hd
        | some z => rw [e] at hd; exact ⟨z, rfl, by rw [show tD z = d from Option.some.inj hd]; exact hdx⟩
      obtain ⟨a, as, rfl, ha, has⟩ := hdz.tup_inv
      obtain ⟨u, w', rfl, hu1, hw1⟩ := has.inv2
      obtain rfl := hu1.int_inv
      obtain ⟨b, rfl, hb⟩ := hw1.pair
      have sz : Step S h z.2 := (hl z.2).mp ⟨z.1, List.mem_of_getElem? hz⟩
      refine ⟨a, [.int z.1, .ref b], rfl, SqT.of ha, rfl, .int z.1, [.ref b], rfl, .ref b, [], rfl, rfl, ?_⟩
      obtain ⟨o, hget, ho⟩ := dc'.look hb
      refine ⟨.ref b, rfl, .ref Ds, rfl, Ds, o, rfl, hget, !o.isSome, rfl, ?_⟩
      rcases ho with ⟨rfl, hnot⟩ | ⟨v, d, rfl, hv, hin⟩
      · refine iteT ?_
        have hyd := ((hdy3.mono (tx e4)).mono tH')
        refine ⟨y, rfl, .int z.1, rfl, by show 2 ≤ sizeLine; decide, fun T nT => ?_⟩
        have eT : Ex H' (upd H' T (.tup [y, .int z.1])) := Ex.new nT
        have dtv : Dt (upd H' T (.tup [y, .int z.1])) (.ref T) (.tuple [pD h, .int z.1]) := .tup upd_same (.cons (hyd.mono (tx eT)) (.cons (.int _) .nil))
        have dcT := dc'.keepX eT
        have lsT := ls'.keepX eT
        have hLT := eT L4 _ hL'
        have hbT := eT b _ hb
        have tHT := tH'.trans (tx eT)
        have eHT := eH'.trans eT
        generalize upd H' T (.tup [y, .int z.1]) = H5 at eT dtv dcT lsT hLT hbT tHT eHT ⊢
        obtain ⟨od, hput, tp, dcp⟩ := dcT.put hbT hnot dtv (by omega)
        refine ⟨.ref Ds, rfl, .ref b, rfl, Ds, _, rfl, hput, ?_⟩
        have lsp := lsT.keep (H' := upd H5 Ds od) (upd_ne (dcT.ne lsT).symm) tp
        obtain ⟨xs', hx', hz', ta, lsa⟩ := lsp.app (q := z.2) ((pair_of hbT).mono tp) (by omega)
        refine ⟨.ref Lw, rfl, .inl ⟨rfl, xs', SqL.of hx'⟩, .ref b, rfl, Lw, xs', .ref b, rfl, rfl, hx', hz', ?_⟩
        refine ⟨_, _, sn' ++ [(z.2, .tuple [pD h, .int z.1])], wl' ++ [z.2], rfl, (eHT.mut nD).mut nL, (tHT.trans tp).trans ta, ?_, ?_, lsa, ?_, ch'.put bh'.hm, fun y hy => ?_, ?_⟩
        · rw [upd_ne nL4, upd_ne nD4]; exact hLT
        · exact dcp.keep (upd_ne (dcT.ne lsT)) ta
        · rw [List.map_append]
          exact bh'.put sz hnot
        · rw [take_snoc hz] at hy
          rw [List.map_append]
          rcases List.mem_append.mp hy with m | m
          · exact List.mem_append_left _ (hdone y m)
          · rw [List.mem_singleton.mp m]; exact List.mem_append_right _ List.mem_cons_self
        · rw [List.length_append, List.length_append]
          show wl'.length + 1 + 2 * (64 - (sn'.length + 1)) < _
          have lt : sn'.length < 64 := by
            have nd2 := (bh'.put sz hnot)
            have z2 := sn_few hS hp nd2.nd nd2.lk
            rw [List.length_append, List.length_map] at z2
            exact z2
          omega
      · refine iteF ?_
        refine ⟨_, _, sn', wl', rfl, eH', tH', hL', dc', ls', bh', ch', fun y hy => ?_, hm⟩
        rw [take_snoc hz] at hy
        rcases List.mem_append.mp hy with m | m
        · exact hdone y m
        · rw [List.mem_singleton.mp m]; exact List.mem_map.mpr ⟨_, hin, rfl⟩
    · obtain ⟨v5', v6', sn', wl', rfl, eH', tH', hL', dc', ls', bh', ch', hdone, hm⟩ := hp'
      refine ⟨_, hm, _, v5', v6', sn', wl', rfl, eH', dc', ls', bh'.done fun r sr => ?_, ch', rfl, by omega⟩
      obtain ⟨a, ha⟩ := (hl r).mpr sr
      refine hdone (a, r) ?_
      rw [List.take_of_length_le (by rw [hd4.length, List.length_map] <;> exact Nat.le_refl _)]
      exact ha
end
end Kt
namespace Kt
open PySem PySem.Spec PyProof.Rows L2
open Evl (Ex Ev EvT EvO)
section
variable {K : PySem.W.Frag} {σ : L2.St} {H H' : Hp} {ta tb te : TE} {t : TT} {d d0 d1 d2 d3 : PyData} {ds : List PyData} {D : Ends} {tu tw tz : TS}
theorem xneD (ha : EvD ta σ H d1) (hb : EvD tb σ H d2) (s1 : SeqAt.shaped d1 = true) (s2 : SeqAt.shaped d2 = true) : EvD (tOp (rNeD K) ta tb) σ H (.bool (!PyData.eqv d1 d2)) := fun H1 e _ q =>
  ha H1 e _ fun x H2 e2 hx => hb H2 (e.trans e2) _ fun y H3 e3 hy => ⟨d1, d2, (hx.mono (tx e3)).dp, hy.dp, s1, s2, q _ H3 (e2.trans e3) (.bl _)⟩
theorem xrevL {i : Nat} {p : Addr} {xs : List V} (hv : σ[i]? = some (some (.ref p))) (hp : H p = some (.lst xs)) (hd : DtAll H xs ds) : EvS (tRevL K (tVar i)) σ H ds.reverse := fun H1 e _ q =>
  ⟨.ref p, hv, p, xs, rfl, SqL.of (e p _ hp), fun l hn => q l _ _ hn (Ex.new hn) upd_same ((hd.reverse.mono (tx e)).mono (tx (Ex.new hn)))⟩
end
section
variable {P : Program} {w : World} {K : PySem.W.Frag} {mg : Str → Option Value} {base : Heap}
def R_short : List PyData → (PyData → Prop) → Prop := fun ds P => ∃ n S p q, ds = [SD n S, pD p, pD q] ∧ SysOk n S ∧ Vp n p ∧ P = fun d => isN d = !lkB S p q
theorem ok_shortest_of (D : Df K mg "shortest_of" s_shortest_of ["system", "pair", "other"]) (B : Bi mg) (O_ways_from : Ok P w K mg base "ways_from" 3 ["system", "pair"] spWays) : Ok P w K mg base "shortest_of" 4 ["system", "pair", "other"] (spN R_short) := by
  refine D.ok sc_shortest_of (fun vs H Q E h => spN_len (fun ds P ⟨_, _, _, _, e, _⟩ => by rw [e]; rfl) h) (fun f cdv A outer s H vs Q E hr h => ?_)
  obtain ⟨ds, P, hv, ⟨n, S, p, r, rfl, hS, hp, rfl⟩, q⟩ := h
  obtain ⟨v0, v1, v2, rfl, h0, h1, h2⟩ := hv.inv3
  obtain ⟨b1, rfl, hb1⟩ := h1.pair
  obtain ⟨b2, rfl, hb2⟩ := h2.pair
  have hu := hu_of hr
  refine ⟨_, (pss_cons (ps_set (i := 3) sc_shortest_of.nd rfl (.inl rfl) (pe_callOk O_ways_from (hr.mono (by decide)) (by rfl) (pa_cons (pv 0) (pa_cons (pv 1) pa_nil))))
      (pss_cons (ps_if (pt_cmp (pc_dnotin hu (pv 2) (pv 3))) (pss_one (ps_ret pe_non)) pss_nil)
      (pss_cons (ps_set (i := 4) sc_shortest_of.nd rfl (.inl rfl) (pe_lst pa_nil))
      (pss_cons (ps_set (i := 5) sc_shortest_of.nd rfl (.inl rfl) (pv 2))
      (pss_cons (ps_while PassesOwn.never (pt_cmpR (op_neD hr.units) (pv 5) (pv 1) (nomark _)) (pss_cons (ps_asg (pe_dget hu (pv 3) (pv 5) (fun _ _ => rfl)) (pgT (K := K) (n := 2) rfl rfl (pgs_cons (pg_name (i := 6) sc_shortest_of.nd rfl (.inl rfl)) (pgs_cons (pg_name (i := 7) sc_shortest_of.nd rfl (.inl rfl)) pgs_nil))))
      (pss_cons (ps_expr (pe_bm PySem.F.plainAttrs_list PySem.F.slot_list_append PySem.F.type_list_append mt_append (pv 4) (pa_cons (pe_tup (pa_cons (pv 7) (pa_cons (pv 5) pa_nil))) pa_nil)))
      (pss_one (ps_set (i := 5) sc_shortest_of.nd rfl (.inl rfl) (pv 6))))))
      (pss_one (ps_ret (pe_tup (pa_cons (pv 1) (pa_cons (pe_callTy call_tuple_of (by rfl) B.tuple (by decide +kernel) (pa_cons (pe_revL (pv 4)) pa_nil)) pa_nil)))))))))), ?_⟩
  refine ⟨v0, rfl, .ref b1, rfl, n, S, p, .cons h0 (.cons h1 .nil), hS, hp, fun Ds sn H1 nD e1 dc wy => ?_⟩
  obtain ⟨o, hget, ho⟩ := dc.look (e1 b2 _ hb2)
  refine ⟨.ref b2, rfl, .ref Ds, rfl, Ds, o, rfl, hget, !o.isSome, rfl, ?_⟩
  rcases ho with ⟨rfl, hnot⟩ | ⟨v, z, rfl, hv, hin⟩
  · refine iteT (q .non .none H1 ?_ e1 .non)
    cases e : lkB S p r with
    | false => rfl
    | true => exact absurd ((wy.all r).mpr (lkB_iff.mp e)) hnot
  refine iteF ?_
  have lk : Lk S p r := (wy.all r).mp (List.mem_map.mpr ⟨_, hin, rfl⟩)
  refine z_setS (xlst xanil (by decide)) fun Ls xs0 H2 n2 e2 hx2 hd2 => ?_
  have nL : H Ls = none := Evl.fresh_back e1 n2
  refine ⟨.ref b2, rfl, ?_⟩
  obtain ⟨i0, hi0⟩ := List.getElem?_of_mem hin
  refine ⟨fun m σ' H' => ∃ (v6 v7 : Option V) (bh : Addr) (h : Pr) (zh : PyData) (xs : List V) (es : List PyData) (i : Nat), σ' = [some v0, some (.ref b1), some (.ref b2), some (.ref Ds), some (.ref Ls), some (.ref bh), v6, v7] ∧ Ex H H' ∧ DcAt H' Ds sn ∧ H' Ls = some (.lst xs) ∧ DtAll H' xs es ∧ Dt H' (.ref bh) (pD h) ∧ sn[i]? = some (h, zh) ∧ m = i ∧ es.length + i ≤ 64,
    ⟨i0, none, none, b2, r, z, xs0, [], i0, rfl, e1.trans e2, dc.keepX e2, hx2, hd2, h2.mono (tx (e1.trans e2)), hi0, rfl, ?_⟩, fun m σ' H' hw => ?_⟩
  · have l1 := (List.getElem?_eq_some_iff.mp hi0).1
    have l2 := wy.few
    show 0 + i0 ≤ 64
    omega
  obtain ⟨v6, v7, bh, h, zh, xs, es, i, rfl, eH, dc', hx, hdx, hbh, hi, rfl, hlen⟩ := hw
  have h1' := h1.mono (tx eH)
  refine xT (xneD (K := K) (ta := tVar 5) (tb := tVar 1) (xvar rfl hbh) (xvar rfl h1') (pD_shaped h) (pD_shaped p)) H' (Ex.refl _) _ fun H3 e3 => ?_
  rw [pD_eqv]
  have dc3 := dc'.keepX e3
  have hx3 := e3 Ls _ hx
  have hdx3 := hdx.mono (tx e3)
  have hbh3 := hbh.mono (tx e3)
  have eH3 := eH.trans e3
  by_cases hp' : h = p
  · -- return (pair, tuple(steps[::-1]))
    rw [decide_eq_true hp']
    refine iteF ?_
    refine e_ret (xtup (xacons (xvar rfl (h1'.mono (tx e3))) (xacons (xtupleOf (xrevL rfl hx3 hdx3)) xanil)) (by show 2 ≤ 100000; decide)) fun v H4 e4 hd => q v _ H4 ?_ (eH3.trans e4) hd
    rw [lkB_iff.mpr lk]
    rfl
  · rw [decide_eq_false hp']
    refine iteT ⟨fun σ' H' => ∃ m', m' < m ∧ ∃ (v6 v7 : Option V) (bh : Addr) (h : Pr) (zh : PyData) (xs : List V) (es : List PyData) (i : Nat), σ' = [some v0, some (.ref b1), some (.ref b2), some (.ref Ds), some (.ref Ls), some (.ref bh), v6, v7] ∧ Ex H H' ∧ DcAt H' Ds sn ∧ H' Ls = some (.lst xs) ∧ DtAll H' xs es ∧ Dt H' (.ref bh) (pD h) ∧ sn[i]? = some (h, zh) ∧ m' = i ∧ es.length + i ≤ 64, fun _ _ hn => hn, ?_⟩
    obtain ⟨bh', e5, hbk⟩ := hbh3.pair
    cases e5
    obtain ⟨o, hget, ho⟩ := dc3.look hbk
    rcases ho with ⟨_, hnot⟩ | ⟨v, z', rfl, hv, hin'⟩
    · exact absurd (List.mem_map.mpr ⟨(h, zh), List.mem_of_getElem? hi, rfl⟩) hnot
    obtain ⟨i', hi'⟩ := List.getElem?_of_mem hin'
    have ei : i' = m := by
      have a1 : (sn.map fun z : Pr × PyData => z.1)[i']? = some h := by rw [List.getElem?_map, hi']; rfl
      have a2 : (sn.map fun z : Pr × PyData => z.1)[m]? = some h := by rw [List.getElem?_map, hi]; rfl
      exact nd_ix wy.nd a1 a2
    rw [ei] at hi'
    rcases wy.ch m h z' hi' with ⟨_, e⟩ | ⟨h'', a, j, zj, rfl, hj, hjs⟩
    · exact absurd e hp'
    obtain ⟨t, ts, rfl, ht, hts⟩ := hv.tup_inv
    obtain ⟨u, w', rfl, hu1, hw1⟩ := hts.inv2
    obtain rfl := hw1.int_inv
    obtain ⟨bb, rfl, hbb⟩ := hu1.pair
    refine ⟨.ref Ds, rfl, .ref bh, rfl, Ds, .ref t, rfl, hget, t, [.ref bb, .int a], rfl, SqT.of ht, rfl, .ref bb, [.int a], rfl, .int a, [], rfl, rfl, ?_⟩
    refine ⟨.ref Ls, rfl, .inl ⟨rfl, xs, SqL.of hx3⟩, .int a, rfl, .ref bh, rfl, by show 2 ≤ sizeLine; decide, fun T nT => ?_⟩
    have eT : Ex H3 (upd H3 T (.tup [.int a, .ref bh])) := Ex.new nT
    have dtT : Dt (upd H3 T (.tup [.int a, .ref bh])) (.ref T) (.tuple [.int a, pD h]) := .tup upd_same (.cons (.int _) (.cons (hbh3.mono (tx eT)) .nil))
    have hxT := eT Ls _ hx3
    have tA : Tx (upd H3 T (.tup [.int a, .ref bh])) (upd (upd H3 T (.tup [.int a, .ref bh])) Ls (.lst (xs ++ [.ref T]))) := Tx.upd hxT fun _ z => nomatch z
    refine ⟨Ls, xs, .ref T, rfl, rfl, hxT, Evl.sz_lt (by rw [hdx.length]; omega), ?_⟩
    have neD : Ds ≠ Ls := by
      obtain ⟨kvs, hk, _⟩ := dc3.ex
      exact ne_of hk hx3 fun z => nomatch z
    refine ⟨.ref bb, rfl, j, hj, _, _, bb, h'', zj, xs ++ [.ref T], es ++ [.tuple [.int a, pD h]], j, rfl, (eH3.trans eT).mut nL, (dc3.keepX eT).keep (upd_ne neD) tA, upd_same, ?_, ?_, hjs, rfl, ?_⟩
    · exact ((hdx3.mono (tx eT)).mono tA).append (.cons (dtT.mono tA) .nil)
    · exact (hu1.mono (tx eT)).mono tA
    · rw [List.length_append]
      show es.length + 1 + j ≤ 64
      omega
end
end Kt
namespace Kt
open PySem PySem.Spec PyProof.Rows L2
open Evl (Ex Ev EvT EvO)
theorem Cw.ext {H H' H2 : Hp} {L : Addr} {ds : List PyData} (c : Cw H L ds H') (e : Ex H' H2) : Cw H L ds H2 := by
  obtain ⟨n, ex, xs, hx, hd⟩ := c
  exact ⟨n, ex.trans e, xs, e L _ hx, hd.mono (tx e)⟩
theorem cut1 (xs : List V) : cutV xs (some 1) none = xs.drop 1 := by
  unfold cutV
  rw [show HT.sIx xs.length 0 (some 1) = min 1 xs.length from HT.sIx_nat xs.length 0 1, HT.sIx_none]
  cases xs with
  | nil => rfl
  | cons x r =>
    rw [show min 1 (x :: r).length = 1 by
      rw [List.length_cons]
      omega]
    show (List.take ((x :: r).length - 1) r) = r
    rw [List.length_cons, Nat.add_sub_cancel]
    exact List.take_length
theorem valInl_none {v : V} {x : Int} : ∀ {l : List Int}, x ∉ l → valV (l.map fun k => ((Sum.inl k : Key), v)) (Sum.inl x) = none
  | [], _ => rfl
  | k :: l, h => by
    rw [List.map_cons, valV_neg]
    · exact valInl_none fun m => h (List.mem_cons_of_mem _ m)
    · exact fun e => h (by rw [← Sum.inl.inj e]; exact List.mem_cons_self)
section
variable {K : PySem.W.Frag} {σ : L2.St} {H H' : Hp} {ta tb te : TE} {t : TT} {d d0 d1 d2 d3 : PyData} {ds : List PyData} {D : Ends} {tu tw tz : TS}
/-- t[1:] -/
theorem xtl (h : EvD ta σ H (.tuple ds)) : EvD (tSl (rSlA K) ta (tPart (tC (.int 1))) tNoPart) σ H (.tuple (ds.drop 1)) := fun H1 e _ q =>
  h H1 e _ fun x H2 e2 hx => by
    obtain ⟨a, xs, rfl, hh, hs⟩ := hx.tup_inv
    refine ⟨1, rfl, a, xs, rfl, SqT.of hh, fun hw => ?_, fun _ p hp => ?_⟩
    · have e0 : xs = [] := by
        have h1 := hw.1
        rw [show HT.sIx xs.length 0 (some 1) = min 1 xs.length from HT.sIx_nat xs.length 0 1] at h1
        cases xs with
        | nil => rfl
        | cons x r => rw [List.length_cons] at h1; omega
      subst e0
      cases hs
      exact q _ H2 e2 hx
    · rw [cut1]
      exact q _ _ (e2.trans (Ex.new hp)) (.tup upd_same ((hs.drop 1).mono (tx (Ex.new hp))))
/-- len({x: True for x in t}), t of different ints -/
theorem xlenD {j : Nat} {ns : List Int} (h : EvD ta σ H (.tuple (ns.map .int))) (nd : ns.Nodup) (hl : ns.length ≤ 50000) (hj : j < σ.length) (hw : ∀ x, wipe ((wipe σ [j]).set j (some x)) [j] = wipe σ [j]) :
    EvD (tCB (fun xs H Q => ∃ a kvs, xs = [V.ref a] ∧ H a = some (.dK kvs) ∧ Q (.int kvs.length) H) (tCons (tDc (iTup K ta) (gName j) tYes (tVar j) (tC (.bl true)) [j]) tNil)) σ H (.int ns.length) := fun H0 e _ q =>
  h H0 e _ fun x H1 e1 hx => by
    obtain ⟨a, xs, rfl, hh, hs⟩ := hx.tup_inv
    have ex := hs.ints
    subst ex
    refine ⟨a, rfl, ⟨_, SqT.of hh⟩, fun Dd hD => ?_⟩
    refine dc_tup (xs := ns.map V.int) (fun i H' => Ex H1 H' ∧ H' Dd = some (.dK ((ns.take i).map fun k => ((Sum.inl k : Key), V.bl true)))) ⟨Ex.new hD, upd_same⟩ (fun i H' _ c => SqT.of (c.1 a _ hh)) (fun i x H' hi c => ⟨hw x, ?_⟩) fun H' c => ?_
    · rw [List.getElem?_map] at hi
      cases en : ns[i]? with
      | none => rw [en] at hi; cases hi
      | some k =>
        rw [en] at hi
        obtain rfl : V.int k = x := Option.some.inj hi
        have hn : k ∉ ns.take i := fun m => by
          obtain ⟨j', hj'⟩ := List.getElem?_of_mem m
          have lt : j' < i := by
            have z := (List.getElem?_eq_some_iff.mp hj').1
            rw [List.length_take] at z
            omega
          rw [List.getElem?_take_of_lt lt] at hj'
          have := nd_ix nd hj' en
          omega
        refine ⟨.int k, ?_, _, .inl k, rfl, c.2, ?_, c.1.mut hD, ?_⟩
        · rw [List.getElem?_set_self (by rw [wipe_length]; exact hj)]
        · refine Evl.sz_lt ?_
          rw [List.length_map, List.length_take]
          omega
        · show upd H' Dd (.dK (putK _ (Sum.inl k) (.bl true))) Dd = _
          rw [putK_new _ (valInl_none hn), upd_same, take_snoc en, List.map_append]
          rfl
    · refine ⟨Dd, _, rfl, c.2, ?_⟩
      rw [List.length_map, List.length_map, List.take_of_length_le (Nat.le_refl _)]
      exact q _ H' (e1.trans c.1) (.int _)
/-- [.. for x, y in xs], xs a new list of pairs -/
theorem xlcP {α : Type} {i j : Nat} {vs : List Nat} (L : List α) (p1 p2 g : α → PyData) (h : EvS ta σ H (L.map fun l => .tuple [p1 l, p2 l])) (hl : L.length ≤ 50000)
    (hw : ∀ x y, wipe (((wipe σ vs).set i (some x)).set j (some y)) vs = wipe σ vs) (he : ∀ l ∈ L, ∀ u v H1, Ex H H1 → Dt H1 u (p1 l) → Dt H1 v (p2 l) → EvD te (((wipe σ vs).set i (some u)).set j (some v)) H1 (g l)) :
    EvS (tLc (iList K ta) (gTup K 2 (gCons (gName i) (gCons (gName j) gNil))) tYes te vs) σ H (L.map g) := fun H0 e Q q => h H0 e _ fun a xs H1 ha e1 hh hs => by
  refine ⟨a, rfl, ⟨xs, SqL.of hh⟩, fun Ld hL => ?_⟩
  refine lc_list (xs := xs) (fun i H' => Cw H1 Ld ((L.take i).map g) H') (Cw.start hL) (fun i H' _ c => SqL.of (c.ex a _ hh)) (fun m x H' hi c => ?_) fun H' c => ?_
  · obtain ⟨d, hd, hxd⟩ := hs.getV hi
    rw [List.getElem?_map] at hd
    cases en : L[m]? with
    | none => rw [en] at hd; cases hd
    | some l =>
      rw [en] at hd
      obtain rfl : PyData.tuple [p1 l, p2 l] = d := Option.some.inj hd
      obtain ⟨b, bs, rfl, hb, hbs⟩ := hxd.tup_inv
      obtain ⟨u, w, rfl, hu, hw'⟩ := hbs.inv2
      refine ⟨b, [u, w], rfl, SqT.of (c.ex b _ hb), rfl, u, [w], rfl, w, [], rfl, rfl, hw u w, ?_⟩
      have hlen : ((L.take m).map g).length < 100000 := by
        rw [List.length_map, List.length_take]
        omega
      refine cw_turn (t := tYes) (dd := g l) (b := true) c hlen etY (fun _ => he l (List.mem_of_getElem? en) u w H1 (e.trans e1) hu hw') fun H2 c2 => ?_
      rw [take_snoc en, List.map_append]
      exact c2
  · obtain ⟨n, ex, ys, hy, hd⟩ := c
    rw [List.take_of_length_le (by rw [hs.length, List.length_map] <;> exact Nat.le_refl _)] at hd
    exact q Ld ys H' (Evl.fresh_back e1 n) (e1.trans ex) hy hd
/-- [.. for x, y in zip(c, d)], tuples of ints -/
theorem xlcZ {i j : Nat} {vs : List Nat} {c c' : List Int} (g : Int × Int → PyData) (h1 : EvD ta σ H (.tuple (c.map .int))) (h2 : EvD tb σ H (.tuple (c'.map .int))) (hl : c.length ≤ 50000)
    (hw : ∀ x y, wipe (((wipe σ vs).set i (some x)).set j (some y)) vs = wipe σ vs) (he : ∀ x y H1, (x, y) ∈ c.zip c' → Ex H H1 → EvD te (((wipe σ vs).set i (some (.int x))).set j (some (.int y))) H1 (g (x, y))) :
    EvS (tLc (RZ.iZipA K (tCons ta (tCons tb tNil))) (gTup K 2 (gCons (gName i) (gCons (gName j) gNil))) tYes te vs) σ H ((c.zip c').map g) := fun H0 e Q q => h1 H0 e _ fun x H1 e1 hx => h2 H1 (e.trans e1) _ fun y H2 e2 hy => by
  obtain ⟨a, xs, rfl, ha, hxs⟩ := hx.tup_inv
  obtain ⟨b, ys, rfl, hb, hys⟩ := hy.tup_inv
  have ex := hxs.ints
  have ey := hys.ints
  subst ex ey
  have ha2 := e2 a _ ha
  refine ⟨a, b, _, _, rfl, .inr ⟨SqT.of ha2, SqT.of hb, fun Ld hL => ?_⟩⟩
  have wk : Walk (RZ.ItzT K a b) (c.zip c').length (fun H => SqT K H a (c.map V.int) ∧ SqT K H b (c'.map V.int)) (YPair (fun i => (c.map V.int)[i]?) (fun i => (c'.map V.int)[i]?)) := by
    refine ⟨fun m H hm q => ?_, fun H q => ⟨_, _, q.1, q.2, ?_⟩, fun m H v H' hm q y => ?_⟩
    · rw [List.length_zip] at hm
      exact ⟨_, _, (c.map V.int)[m]'(by rw [List.length_map]; omega), (c'.map V.int)[m]'(by rw [List.length_map]; omega), q.1, q.2, List.getElem?_eq_getElem _, List.getElem?_eq_getElem _⟩
    · rw [List.length_zip, List.length_map, List.length_map]
      omega
    · obtain ⟨T, x, z, g1, g2, g3, g4, g5⟩ := y
      exact ⟨T, x, z, g1, g2, g3, g4 _ q.1, g5 _ q.2⟩
  refine lc_it wk (fun i H' => Cw H2 Ld (((c.zip c').take i).map g) H') (Cw.start hL) (fun i H' _ cw => ⟨SqT.of (cw.ex a _ ha2), SqT.of (cw.ex b _ hb)⟩) (fun m v H' H'' hm cw y => ?_) fun H' cw => ?_
  · obtain ⟨T, x, z, rfl, nT, rfl, g1, g2⟩ := y
    replace g1 : (c.map V.int)[m]? = some x := g1
    replace g2 : (c'.map V.int)[m]? = some z := g2
    rw [List.getElem?_map] at g1 g2
    cases en1 : c[m]? with
    | none => rw [en1] at g1; cases g1
    | some x1 =>
      cases en2 : c'[m]? with
      | none => rw [en2] at g2; cases g2
      | some x2 =>
        rw [en1] at g1
        rw [en2] at g2
        obtain rfl : V.int x1 = x := Option.some.inj g1
        obtain rfl : V.int x2 = z := Option.some.inj g2
        have en : (c.zip c')[m]? = some (x1, x2) := by rw [List.getElem?_zip_eq_some]; exact ⟨en1, en2⟩
        refine ⟨T, _, rfl, SqT.of upd_same, rfl, _, _, rfl, _, [], rfl, rfl, hw _ _, ?_⟩
        have hlen : (((c.zip c').take m).map g).length < 100000 := by
          rw [List.length_map, List.length_take, List.length_zip]
          omega
        refine cw_turn (t := tYes) (dd := g (x1, x2)) (b := true) (cw.ext (Ex.new nT)) hlen etY (fun _ => he x1 x2 H2 (List.mem_of_getElem? en) ((e.trans e1).trans e2)) fun H2 c2 => ?_
        rw [take_snoc en, List.map_append]
        exact c2
  · obtain ⟨n, ex, ys, hy, hd⟩ := cw
    rw [List.take_of_length_le (Nat.le_refl _)] at hd
    exact q Ld ys H' (Evl.fresh_back (e1.trans e2) n) ((e1.trans e2).trans ex) hy hd
/-- .. over a tuple of which P holds -/
theorem xlcTN {j : Nat} {vs : List Nat} (P : PyData → Prop) (f : PyData → Bool) (g : PyData → PyData) (h : EvN ta σ H P) (hP : ∀ d, P d → ∃ ds, d = .tuple ds ∧ ds.length ≤ 50000) (hw : ∀ x, wipe ((wipe σ vs).set j (some x)) vs = wipe σ vs)
    (ht : ∀ ds d v H1, P (.tuple ds) → d ∈ ds → Ex H H1 → Dt H1 v d → EvT t ((wipe σ vs).set j (some v)) H1 (f d)) (he : ∀ ds d v H1, P (.tuple ds) → d ∈ ds → Ex H H1 → Dt H1 v d → f d = true → EvD te ((wipe σ vs).set j (some v)) H1 (g d)) :
    EvSN (tLc (iTup K ta) (gName j) t te vs) σ H (fun es => ∃ ds, P (.tuple ds) ∧ es = giv f g ds) := fun H0 e Q q => h H0 e _ fun x d H1 hp e1 hx => by
  obtain ⟨ds, rfl, hl⟩ := hP d hp
  obtain ⟨a, xs, rfl, hh, hs⟩ := hx.tup_inv
  refine ⟨a, rfl, ⟨xs, SqT.of hh⟩, fun L hL => ?_⟩
  refine lc_tup (xs := xs) (fun i H' => Cw H1 L (giv f g (ds.take i)) H') (Cw.start hL) (fun i H' _ c => SqT.of (c.ex a _ hh)) (fun i x H' hi c => ⟨hw x, ?_⟩) fun H' c => ?_
  · obtain ⟨d, hd, hxd⟩ := hs.getV hi
    have hm : d ∈ ds := List.mem_of_getElem? hd
    have hlen : (giv f g (ds.take i)).length < 100000 := by
      have h1 := giv_len f g (ds.take i)
      have h2 : (ds.take i).length ≤ ds.length := by rw [List.length_take]; exact Nat.min_le_right _ _
      omega
    refine cw_turn (dd := g d) c hlen (ht ds d x H1 hp hm (e.trans e1) hxd) (fun hb => he ds d x H1 hp hm (e.trans e1) hxd hb) fun H2 c2 => ?_
    show Cw H1 L (giv f g (ds.take (i + 1))) H2
    rw [take_snoc hd, giv_snoc]
    exact c2
  · obtain ⟨n, ex, ys, hy, hd⟩ := c
    rw [List.take_of_length_le (by rw [hs.length] <;> exact Nat.le_refl _)] at hd
    exact q L ys (giv f g ds) H' ⟨ds, hp, rfl⟩ (Evl.fresh_back e1 n) (e1.trans ex) hy hd
end
/-- a property's tuple -/
def aD : Ask → PyData
  | .eqv p q => .tuple [.str "equivalent", pD p, pD q]
  | .btw x y z => .tuple [.str "between", .int x, .int y, .int z]
  | .tog c => .tuple [.str "together", sD c]
  | .fst x => .tuple [.str "first", .int x]
def aW : Ask → Str
  | .eqv _ _ => "equivalent"
  | .btw _ _ _ => "between"
  | .tog _ => "together"
  | .fst _ => "first"
def aL : Ask → List PyData
  | .eqv p q => [pD p, pD q]
  | .btw x y z => [.int x, .int y, .int z]
  | .tog c => [sD c]
  | .fst x => [.int x]
theorem aD_eq (a : Ask) : aD a = .tuple (.str (aW a) :: aL a) := by cases a <;> rfl
theorem a0 (a : Ask) : atI (PyData.str (aW a) :: aL a) 0 = some (.str (aW a)) := atI_nat (j := 0) rfl
theorem wEqBtw : decide (("between" : Str) = "equivalent") = false := by decide +kernel
theorem wEqTog : decide (("together" : Str) = "equivalent") = false := by decide +kernel
theorem wEqFst : decide (("first" : Str) = "equivalent") = false := by decide +kernel
theorem wTogBtw : decide (("between" : Str) = "together") = false := by decide +kernel
theorem wTogFst : decide (("first" : Str) = "together") = false := by decide +kernel
theorem wTogEqv : decide (("equivalent" : Str) = "together") = false := by decide +kernel
theorem wBtwFst : decide (("first" : Str) = "between") = false := by decide +kernel
theorem wBtwEqv : decide (("equivalent" : Str) = "between") = false := by decide +kernel
theorem wFstEqv : decide (("equivalent" : Str) = "first") = false := by decide +kernel
theorem wFstBtw : decide (("between" : Str) = "first") = false := by decide +kernel
theorem wFstTog : decide (("together" : Str) = "first") = false := by decide +kernel
section
variable {P : Program} {w : World} {K : PySem.W.Frag} {mg : Str → Option Value} {base : Heap}
def R_prop : List PyData → (PyData → Prop) → Prop := fun ds P => ∃ n a, ds = [aD a, .int n] ∧ Ask.ok n a ∧ P = (· = .bool true)
theorem ok_is_property (D : Df K mg "is_property" s_is_property ["value", "size"]) (B : Bi mg) (O_is_between : Ok P w K mg base "is_between" 1 ["value", "low", "high"] (spN R_between))
    (O_is_set : Ok P w K mg base "is_set" 2 ["value", "size"] (spN R_set)) (O_is_pair : Ok P w K mg base "is_pair" 2 ["value", "size"] (spN R_pair)) : Ok P w K mg base "is_property" 3 ["value", "size"] (spN R_prop) := by
  refine D.ok sc_is_property (fun vs H Q E h => spN_len (fun ds P ⟨_, _, e, _⟩ => by rw [e]; rfl) h) (fun f cdv A outer s H vs Q E hr h => ?_)
  obtain ⟨ds, P, hv, ⟨n, a, rfl, ha, rfl⟩, q⟩ := h
  obtain ⟨v0, v1, rfl, h0, h1⟩ := hv.inv2
  rw [aD_eq] at h0
  refine ⟨_, (pss_cons (ps_if (PW.pt (pw_or (pt_not (pt_val (pe_callB call_isi (by rfl) B.isinstance (by decide +kernel) (pa_cons (pv 0) (pa_cons (pe_bltn (v := .ty "tuple") rfl B.tuple (by decide +kernel) rfl) pa_nil))))) (pw_or (pt_not (pt_truth (pv 0) (by intro _; rfl))) (pw_or1 (pt_not (pt_val (pe_callB call_isi (by rfl) B.isinstance (by decide +kernel) (pa_cons (pe_ix (ixT (K := K)) (pv 0) pe_int (fun _ _ => rfl)) (pa_cons (pe_bltn (v := .ty "str") rfl B.str (by decide +kernel) rfl) pa_nil))))))))) (pss_one (ps_ret pe_bl)) pss_nil)
      (pss_cons (ps_set (i := 2) sc_is_property.nd rfl (.inl rfl) (pe_ix (ixT (K := K)) (pv 0) pe_int (fun _ _ => rfl)))
      (pss_cons (ps_if (pt_cmpR op_eq (pv 2) pe_str (nomark _)) (pss_one (ps_ret (pe_and (pe_cmpR op_eq (pe_callB call_len_seq (by rfl) B.len (by decide +kernel) (pa_cons (pv 0) pa_nil)) pe_int (nomark _)) (pe_and (pe_callOk O_is_pair (hr.mono (by decide)) (by rfl) (pa_cons (pe_ix (ixT (K := K)) (pv 0) pe_int (fun _ _ => rfl)) (pa_cons (pv 1) pa_nil))) (pe_one (pe_callOk O_is_pair (hr.mono (by decide)) (by rfl) (pa_cons (pe_ix (ixT (K := K)) (pv 0) pe_int (fun _ _ => rfl)) (pa_cons (pv 1) pa_nil)))))))) pss_nil)
      (pss_cons (ps_if (pt_cmpR op_eq (pv 2) pe_str (nomark _)) (pss_one (ps_ret (pe_and (pe_cmpR op_eq (pe_callB call_len_seq (by rfl) B.len (by decide +kernel) (pa_cons (pv 0) pa_nil)) pe_int (nomark _)) (pe_one (pe_callOk O_is_set (hr.mono (by decide)) (by rfl) (pa_cons (pe_ix (ixT (K := K)) (pv 0) pe_int (fun _ _ => rfl)) (pa_cons (pv 1) pa_nil))))))) pss_nil)
      (pss_cons (ps_if (pt_not (pt_val (pe_callB (cr_all rfl) (by rfl) B.all (by decide +kernel) (pa_cons (pe_lc (own := [("one", 3)]) (g := gName 3) (tt := tYes) rfl sc_is_property.nd (pi_tup (pe_slice sl_tupA (pv 0) (po_some pe_int) po_none)) (blkOk_by (N := N_is_property) (sc := defScope s_is_property) (by decide +kernel)) (fun _ _ _ _ _ => (pg_name (i := 3) sc_is_property.nd rfl (.inl rfl))) (fun _ _ _ _ _ => pts_nil) (fun _ _ _ _ _ => (pe_callOk O_is_between (hr.mono (by decide)) (by rfl) (pa_cons (pv 3) (pa_cons pe_int (pa_cons (pe_op op_sub (pv 1) pe_int) pa_nil)))))) pa_nil)))) (pss_one (ps_ret pe_bl)) pss_nil)
      (pss_cons (ps_if (pt_cmpR op_eq (pv 2) pe_str (nomark _)) (pss_one (ps_ret (pe_and (pe_cmpR op_eq (pe_callB call_len_seq (by rfl) B.len (by decide +kernel) (pa_cons (pv 0) pa_nil)) pe_int (nomark _)) (pe_one (pe_cmpR op_eq (pe_callB call_lenD (by rfl) B.len (by decide +kernel) (pa_cons (pe_dc (own := [("one", 3)]) (g := gName 3) (tt := tYes) rfl sc_is_property.nd (pi_tup (pe_slice sl_tupA (pv 0) (po_some pe_int) po_none)) (blkOk_by (N := N_is_property) (sc := defScope s_is_property) (by decide +kernel)) (fun _ _ _ _ _ => (pg_name (i := 3) sc_is_property.nd rfl (.inl rfl))) (fun _ _ _ _ _ => pts_nil) (fun _ _ _ _ _ => (pv 3)) (fun _ _ _ _ _ => pe_bl)) pa_nil)) pe_int (nomark _)))))) pss_nil)
      (pss_one (ps_ret (pe_and (pe_cmpR op_eq (pv 2) pe_str (nomark _)) (pe_one (pe_cmpR op_eq (pe_callB call_len_seq (by rfl) B.len (by decide +kernel) (pa_cons (pv 0) pa_nil)) pe_int (nomark _)))))))))))), ?_⟩
  refine z_skip (Evl.et_or (a := false) (b := false) (Evl.et_not (a := true) (xB (xisi (xvar rfl h0) kit_tt))) fun _ => Evl.et_or (a := false) (b := false) (Evl.et_not (a := true) (xtrT (xvar rfl h0))) fun _ => Evl.et_not (a := true) (xB (xisi (xix (xvar rfl h0) xint (a0 a)) kit_ss))) fun H1 e1 => ?_
  refine z_set (xix (xvar rfl (h0.mono (tx e1))) xint (a0 a)) fun vw H2 e2 hw => ?_
  have e12 := e1.trans e2
  have g0 := h0.mono (tx e12)
  have g1 := h1.mono (tx e12)
  cases a with
  | eqv p r =>
    have i1 : atI [PyData.str "equivalent", pD p, pD r] 1 = some (pD p) := rfl
    have i2 : atI [PyData.str "equivalent", pD p, pD r] 2 = some (pD r) := rfl
    refine z_if (b := true) (Evl.et_is (xT (xeqS (xvar rfl hw) xstr)) (decide_eq_true rfl)) (fun _ H3 e3 => ?_) (fun z => nomatch z)
    have k0 := g0.mono (tx e3)
    have k1 := g1.mono (tx e3)
    refine e_ret (d := .bool (decide ((3 : Int) = 3) && (true && true))) (xand (xeqI (xlen (xvar rfl k0)) xint) fun _ => xand (xcall (xacons (xix (xvar rfl k0) xint i1) (xacons (xvar rfl k1) xanil)) ⟨n, p, rfl, ha.1, rfl⟩) fun _ => xcall (xacons (xix (xvar rfl k0) xint i2) (xacons (xvar rfl k1) xanil)) ⟨n, r, rfl, ha.2, rfl⟩) fun v H4 e4 hd => q v _ H4 rfl ((e12.trans e3).trans e4) hd
  | tog c =>
    have i1 : atI [PyData.str "together", sD c] 1 = some (sD c) := rfl
    refine z_skip (Evl.et_is (xT (xeqS (xvar rfl hw) xstr)) wEqTog) fun H3 e3 => ?_
    refine z_if (b := true) (Evl.et_is (xT (xeqS (xvar rfl (hw.mono (tx e3))) xstr)) (decide_eq_true rfl)) (fun _ H4 e4 => ?_) (fun z => nomatch z)
    have k0 := (g0.mono (tx e3)).mono (tx e4)
    have k1 := (g1.mono (tx e3)).mono (tx e4)
    refine e_ret (d := .bool (decide ((2 : Int) = 2) && true)) (xand (xeqI (xlen (xvar rfl k0)) xint) fun _ => xcall (xacons (xix (xvar rfl k0) xint i1) (xacons (xvar rfl k1) xanil)) ⟨n, c, rfl, ha, rfl⟩) fun v H5 e5 hd => q v _ H5 rfl (((e12.trans e3).trans e4).trans e5) hd
  | btw x y z =>
    obtain ⟨⟨x0, x1⟩, ⟨y0, y1⟩, ⟨z0, z1⟩, nxy, nyz, nxz⟩ := ha
    refine z_skip (Evl.et_is (xT (xeqS (xvar rfl hw) xstr)) wEqBtw) fun H3 e3 => ?_
    refine z_skip (Evl.et_is (xT (xeqS (xvar rfl (hw.mono (tx e3))) xstr)) wTogBtw) fun H4 e4 => ?_
    have e34 := e3.trans e4
    have k0 := g0.mono (tx e34)
    have k1 := g1.mono (tx e34)
    refine z_skip (Evl.et_not (a := true) (xB (xallT (xtl (xvar rfl k0)) (by show 3 ≤ 50000; decide) (fun _ => rfl) fun d v H5 m e5 hd => ?_))) fun H5 e5 => ?_
    · have hi : ∃ i, d = .int i ∧ 0 ≤ i ∧ i ≤ n - 1 := by
        have m' : d ∈ [PyData.int x, .int y, .int z] := m
        simp only [List.mem_cons, List.not_mem_nil, or_false] at m'
        rcases m' with e | e | e
        · exact ⟨x, e, x0, by omega⟩
        · exact ⟨y, e, y0, by omega⟩
        · exact ⟨z, e, z0, by omega⟩
      obtain ⟨i, rfl, l0, l1⟩ := hi
      refine xcall (xacons (xvar rfl hd) (xacons xint (xacons (xsub (xvar rfl (k1.mono (tx e5))) xint) xanil))) ⟨i, 0, n - 1, rfl, ?_⟩
      funext d
      rw [decide_eq_true l0, decide_eq_true l1]
      rfl
    have m0 := k0.mono (tx e5)
    refine z_if (b := true) (Evl.et_is (xT (xeqS (xvar rfl (hw.mono (tx (e34.trans e5)))) xstr)) (decide_eq_true rfl)) (fun _ H6 e6 => ?_) (fun z => nomatch z)
    refine e_ret (d := .bool (decide ((4 : Int) = 4) && decide ((3 : Int) = 3))) (xand (xeqI (xlen (xvar rfl (m0.mono (tx e6)))) xint) fun _ => xeqI (xlenD (ns := [x, y, z]) (xtl (xvar rfl (m0.mono (tx e6)))) (by simp [nxy, nyz, nxz]) (by show 3 ≤ 50000; decide) (by show 3 < 4; decide) fun _ => rfl) xint) fun v H7 e7 hd => q v _ H7 rfl ((((e12.trans e34).trans e5).trans e6).trans e7) hd
  | fst x =>
    obtain ⟨x0, x1⟩ := ha
    refine z_skip (Evl.et_is (xT (xeqS (xvar rfl hw) xstr)) wEqFst) fun H3 e3 => ?_
    refine z_skip (Evl.et_is (xT (xeqS (xvar rfl (hw.mono (tx e3))) xstr)) wTogFst) fun H4 e4 => ?_
    have e34 := e3.trans e4
    have k0 := g0.mono (tx e34)
    have k1 := g1.mono (tx e34)
    refine z_skip (Evl.et_not (a := true) (xB (xallT (xtl (xvar rfl k0)) (by show 1 ≤ 50000; decide) (fun _ => rfl) fun d v H5 m e5 hd => ?_))) fun H5 e5 => ?_
    · obtain rfl : d = .int x := List.mem_singleton.mp m
      refine xcall (xacons (xvar rfl hd) (xacons xint (xacons (xsub (xvar rfl (k1.mono (tx e5))) xint) xanil))) ⟨x, 0, n - 1, rfl, ?_⟩
      funext d
      rw [decide_eq_true x0, decide_eq_true (show x ≤ n - 1 by omega)]
      rfl
    have m0 := k0.mono (tx e5)
    have mw := hw.mono (tx (e34.trans e5))
    refine z_skip (Evl.et_is (xT (xeqS (xvar rfl mw) xstr)) wBtwFst) fun H6 e6 => ?_
    refine e_ret (d := .bool (decide (("first" : Str) = "first") && decide ((2 : Int) = 2))) (xand (xeqS (xvar rfl (mw.mono (tx e6))) xstr) fun _ => xeqI (xlen (xvar rfl (m0.mono (tx e6)))) xint) fun v H7 e7 hd => q v _ H7 ?_ ((((e12.trans e34).trans e5).trans e6).trans e7) hd
    rw [decide_eq_true rfl]
    rfl
end
end Kt
namespace Kt
open PySem PySem.Spec PyProof.Rows L2
open Evl (Ex Ev EvT EvO)
section
variable {K : PySem.W.Frag} {σ : L2.St} {H H' : Hp} {ta tb te : TE} {t : TT} {d d0 d1 d2 d3 : PyData} {ds : List PyData} {D : Ends} {tu tw tz : TS}
/-- a pair turned round -/
theorem xrev2 (h : EvD ta σ H (.tuple [d1, d2])) : EvD (tRev2 K ta) σ H (.tuple [d2, d1]) := fun H1 e _ q => h H1 e _ fun x H2 e2 hx => by
  obtain ⟨a, xs, rfl, hh, hs⟩ := hx.tup_inv
  obtain ⟨u, v, rfl, hu, hv⟩ := hs.inv2
  exact ⟨a, u, v, rfl, SqT.of hh, fun p hp => q _ _ (e2.trans (Ex.new hp)) (.tup upd_same (.cons (hv.mono (tx (Ex.new hp))) (.cons (hu.mono (tx (Ex.new hp))) .nil)))⟩
theorem e_retSN {P : List PyData → Prop} (h : EvSN te σ H P) (k : ∀ p xs ds H1, P ds → H p = none → Ex H H1 → H1 p = some (.lst xs) → DtAll H1 xs ds → D.rt (.ref p) H1) : tRet te D σ H := h H (Ex.refl H) _ k
theorem EvSN.one {es : List PyData} (h : EvSN te σ H (· = es)) : EvS te σ H es := fun H1 e Q q => h H1 e Q fun p xs ds H2 hP hp e2 hx hd => q p xs H2 hp e2 hx (hP ▸ hd)
theorem xifN {P : PyData → Prop} {b : Bool} (h : EvT t σ H b) (h1 : b = true → EvN ta σ H P) (h2 : b = false → EvN tb σ H P) : EvN (tIf t ta tb) σ H P := fun H1 e Q q => h H1 e _ fun H2 e2 => by
  cases b with
  | true =>
    show ta σ H2 Q
    exact h1 rfl H2 (e.trans e2) Q fun v d H3 p e3 hv => q v d H3 p (e2.trans e3) hv
  | false =>
    show tb σ H2 Q
    exact h2 rfl H2 (e.trans e2) Q fun v d H3 p e3 hv => q v d H3 p (e2.trans e3) hv
/-- x is None, of some data -/
theorem xisNN {P : PyData → Prop} (ha : EvN ta σ H P) : EvN (tOp (fun x y H Q => y = .non ∧ Q (.bl (decide (x = .non))) H) ta (tC .non)) σ H (fun r => ∃ d, P d ∧ r = .bool (isN d)) := fun H1 e _ q =>
  ha H1 e _ fun x d H2 hp e2 hx => by
    refine ⟨rfl, ?_⟩
    rw [hx.isN]
    exact q _ (.bool (isN d)) H2 ⟨d, hp, rfl⟩ e2 (.bl _)
end
section
variable {P : Program} {w : World} {K : PySem.W.Frag} {mg : Str → Option Value} {base : Heap}
/-! ### check_asked, as_pairs -/
def R_chkA : List PyData → (PyData → Prop) → Prop := fun ds P => ∃ n S a, ds = [SD n S, aD a] ∧ Ask.ok n a ∧ P = (· = .none)
theorem ok_check_asked (D : Df K mg "check_asked" s_check_asked ["system", "asked"]) (B : Bi mg) (O_is_property : Ok P w K mg base "is_property" 3 ["value", "size"] (spN R_prop)) : Ok P w K mg base "check_asked" 4 ["system", "asked"] (spN R_chkA) := by
  refine D.ok sc_check_asked (fun vs H Q E h => spN_len (fun ds P ⟨_, _, _, e, _⟩ => by rw [e]; rfl) h) (fun f cdv A outer s H vs Q E hr h => ?_)
  obtain ⟨ds, P, hv, ⟨n, S, a, rfl, ha, rfl⟩, q⟩ := h
  obtain ⟨v0, v1, rfl, h0, h1⟩ := hv.inv2
  refine ⟨_, (pss_one (ps_if (pt_not (pt_val (pe_callOk O_is_property (hr.mono (by decide)) (by rfl) (pa_cons (pv 1) (pa_cons (pe_ix (ixT (K := K)) (pv 0) pe_int (fun _ _ => rfl)) pa_nil))))) (pss_one (ps_never)) pss_nil)), ?_⟩
  exact e_if (Evl.et_not (a := true) (xB (xcall (xacons (xvar rfl h1) (xacons (xix (xvar rfl h0) xint sd0) xanil)) ⟨n, a, rfl, ha, rfl⟩))) (fun z => nomatch z) fun _ H1 e1 => q .non _ H1 rfl e1 .non
def Ask.two : Ask → Prop
  | .eqv _ _ => True
  | .btw _ _ _ => True
  | _ => False
def R_asPairs : List PyData → (PyData → Prop) → Prop := fun ds P => ∃ a, ds = [aD a] ∧ Ask.two a ∧ P = (· = .tuple [pD a.prs.1, pD a.prs.2])
theorem ok_as_pairs (D : Df K mg "as_pairs" s_as_pairs ["asked"]) (B : Bi mg) : Ok P w K mg base "as_pairs" 1 ["asked"] (spN R_asPairs) := by
  refine D.ok sc_as_pairs (fun vs H Q E h => spN_len (fun ds P ⟨_, e, _⟩ => by rw [e]; rfl) h) (fun f cdv A outer s H vs Q E hr h => ?_)
  obtain ⟨ds, P, hv, ⟨a, rfl, ha, rfl⟩, q⟩ := h
  obtain ⟨v0, rfl, h0⟩ := hv.inv1
  refine ⟨_, (pss_cons (ps_if (pt_cmpR op_eq (pe_ix (ixT (K := K)) (pv 0) pe_int (fun _ _ => rfl)) pe_str (nomark _)) (pss_one (ps_ret (pe_tup (pa_cons (pe_tup (pa_cons (pe_ix (ixT (K := K)) (pv 0) pe_int (fun _ _ => rfl)) (pa_cons (pe_ix (ixT (K := K)) (pv 0) pe_int (fun _ _ => rfl)) pa_nil))) (pa_cons (pe_tup (pa_cons (pe_ix (ixT (K := K)) (pv 0) pe_int (fun _ _ => rfl)) (pa_cons (pe_ix (ixT (K := K)) (pv 0) pe_int (fun _ _ => rfl)) pa_nil))) pa_nil))))) pss_nil)
      (pss_one (ps_ret (pe_tup (pa_cons (pe_ix (ixT (K := K)) (pv 0) pe_int (fun _ _ => rfl)) (pa_cons (pe_ix (ixT (K := K)) (pv 0) pe_int (fun _ _ => rfl)) pa_nil)))))), ?_⟩
  cases a with
  | eqv p r =>
    have i0 : atI [PyData.str "equivalent", pD p, pD r] 0 = some (.str "equivalent") := rfl
    have i1 : atI [PyData.str "equivalent", pD p, pD r] 1 = some (pD p) := rfl
    have i2 : atI [PyData.str "equivalent", pD p, pD r] 2 = some (pD r) := rfl
    refine z_skip (Evl.et_is (xT (xeqS (xix (xvar rfl h0) xint i0) xstr)) wBtwEqv) fun H1 e1 => ?_
    have k0 := h0.mono (tx e1)
    exact e_ret (xtup (xacons (xix (xvar rfl k0) xint i1) (xacons (xix (xvar rfl k0) xint i2) xanil)) (by show 2 ≤ 100000; decide)) fun v H2 e2 hd => q v _ H2 rfl (e1.trans e2) hd
  | btw x y z =>
    have i0 : atI [PyData.str "between", .int x, .int y, .int z] 0 = some (.str "between") := rfl
    have i1 : atI [PyData.str "between", .int x, .int y, .int z] 1 = some (.int x) := rfl
    have i2 : atI [PyData.str "between", .int x, .int y, .int z] 2 = some (.int y) := rfl
    have i3 : atI [PyData.str "between", .int x, .int y, .int z] 3 = some (.int z) := rfl
    refine z_if (b := true) (Evl.et_is (xT (xeqS (xix (xvar rfl h0) xint i0) xstr)) (decide_eq_true rfl)) (fun _ H1 e1 => ?_) (fun z => nomatch z)
    have k0 := h0.mono (tx e1)
    exact e_ret (xtup (xacons (xtup (xacons (xix (xvar rfl k0) xint i1) (xacons (xix (xvar rfl k0) xint i2) xanil)) (by show 2 ≤ 100000; decide)) (xacons (xtup (xacons (xix (xvar rfl k0) xint i2) (xacons (xix (xvar rfl k0) xint i3) xanil)) (by show 2 ≤ 100000; decide)) xanil)) (by show 2 ≤ 100000; decide)) fun v H2 e2 hd => q v _ H2 rfl (e1.trans e2) hd
  | tog c => exact ha.elim
  | fst x => exact ha.elim
/-! ### asked_links -/
def lD (l : Pr × Pr) : PyData := .tuple [pD l.1, pD l.2]
def lks (n : Int) : Ask → List (Pr × Pr)
  | .tog c => togLinks n.toNat c
  | a => [a.prs]
def Ask.nf : Ask → Prop
  | .fst _ => False
  | _ => True
def R_links : List PyData → (List PyData → Prop) → Prop := fun ds P => ∃ n a, ds = [.int n, aD a] ∧ 0 ≤ n ∧ n ≤ 8 ∧ Ask.ok n a ∧ Ask.nf a ∧ P = (· = (lks n a).map lD)
theorem togLinks_succ (n : Nat) (c : List Int) : togLinks (n + 1) c = togLinks n c ++ (if (n : Int) ∈ c then [] else (c.zip (c.drop 1)).map fun p => ((p.1, (n : Int)), (p.2, (n : Int)))) := by
  unfold togLinks
  rw [List.range_succ, List.flatMap_append, List.flatMap_cons, List.flatMap_nil, List.append_nil]
theorem togLinks_len {c : List Int} (hc : c.length ≤ 8) : ∀ n : Nat, (togLinks n c).length ≤ 8 * n
  | 0 => Nat.le_refl _
  | n + 1 => by
    rw [togLinks_succ, List.length_append]
    have ih := togLinks_len hc n
    by_cases h : (n : Int) ∈ c
    · rw [if_pos h]
      show (togLinks n c).length + 0 ≤ _
      omega
    · rw [if_neg h, List.length_map, List.length_zip]
      omega
theorem ok_asked_links (D : Df K mg "asked_links" s_asked_links ["size", "asked"]) (B : Bi mg) (O_as_pairs : Ok P w K mg base "as_pairs" 1 ["asked"] (spN R_asPairs)) : Ok P w K mg base "asked_links" 2 ["size", "asked"] (spL R_links) := by
  refine D.ok sc_asked_links (fun vs H Q E h => spL_len (fun ds P ⟨_, _, e, _⟩ => by rw [e]; rfl) h) (fun f cdv A outer s H vs Q E hr h => ?_)
  obtain ⟨ds, P, hv, ⟨n, a, rfl, n0, n8, ha, nf, rfl⟩, q⟩ := h
  obtain ⟨v0, v1, rfl, h0, h1⟩ := hv.inv2
  refine ⟨_, (pss_cons (ps_if (pt_cmpR op_eq (pe_ix (ixT (K := K)) (pv 1) pe_int (fun _ _ => rfl)) pe_str (nomark _)) (pss_one (ps_ret (pe_lst pa_nil))) pss_nil)
      (pss_cons (ps_if (pt_cmpR op_ne (pe_ix (ixT (K := K)) (pv 1) pe_int (fun _ _ => rfl)) pe_str (nomark _)) (pss_one (ps_ret (pe_lst (pa_cons (pe_callOk O_as_pairs (hr.mono (by decide)) (by rfl) (pa_cons (pv 1) pa_nil)) pa_nil)))) pss_nil)
      (pss_cons (ps_set (i := 2) sc_asked_links.nd rfl (.inl rfl) (pe_ix (ixT (K := K)) (pv 1) pe_int (fun _ _ => rfl)))
      (pss_cons (ps_set (i := 3) sc_asked_links.nd rfl (.inl rfl) (pe_lst pa_nil))
      (pss_cons (ps_for PassesOwn.never rfl (pi_range1 rfl B.range (pa_cons (pv 0) pa_nil)) (pg_name (i := 4) sc_asked_links.nd rfl (.inr rfl)) (pss_one (ps_if (pt_cmpR (niS (K := K)) (pv 4) (pv 2) rfl) (pss_one (ps_set (i := 3) sc_asked_links.nd rfl (.inl rfl) (pe_op op_cat (pv 3) (pe_lc (own := [("x", 5), ("y", 6)]) (tt := tYes) rfl sc_asked_links.nd (RZ.pi_zipA (by rfl) B.zip (pa_cons (pv 2) (pa_cons (pe_slice sl_tupA (pv 2) (po_some pe_int) po_none) pa_nil))) (blkOk_by (N := N_asked_links) (sc := defScope s_asked_links) (by decide +kernel)) (fun _ _ _ _ _ => (pgT (K := K) (n := 2) rfl rfl (pgs_cons (pg_name (i := 5) sc_asked_links.nd rfl (.inl rfl)) (pgs_cons (pg_name (i := 6) sc_asked_links.nd rfl (.inl rfl)) pgs_nil)))) (fun _ _ _ _ _ => pts_nil) (fun _ _ _ _ _ => (pe_tup (pa_cons (pe_tup (pa_cons (pv 5) (pa_cons (pv 4) pa_nil))) (pa_cons (pe_tup (pa_cons (pv 6) (pa_cons (pv 4) pa_nil))) pa_nil)))))))) pss_nil)))
      (pss_one (ps_ret (pv 3)))))))), ?_⟩
  cases a with
  | fst x => exact nf.elim
  | eqv p r =>
    have i0 : atI [PyData.str "equivalent", pD p, pD r] 0 = some (.str "equivalent") := rfl
    refine z_skip (Evl.et_is (xT (xeqS (xix (xvar rfl h1) xint i0) xstr)) wFstEqv) fun H1 e1 => ?_
    have k1 := h1.mono (tx e1)
    refine z_if (b := true) (Evl.et_is (xT (xneS (xix (xvar rfl k1) xint i0) xstr)) (by rw [wTogEqv]; rfl)) (fun _ H2 e2 => ?_) (fun z => nomatch z)
    refine e_retS (xlst (xacons (xcall (xacons (xvar rfl (k1.mono (tx e2))) xanil) ⟨.eqv p r, rfl, trivial, rfl⟩) xanil) (by show 1 ≤ 100000; decide)) fun L xs H3 nL e3 hx hd => ?_
    exact q L xs _ H3 rfl (Evl.fresh_back (e1.trans e2) nL) ((e1.trans e2).trans e3) hx hd
  | btw x y z =>
    have i0 : atI [PyData.str "between", .int x, .int y, .int z] 0 = some (.str "between") := rfl
    refine z_skip (Evl.et_is (xT (xeqS (xix (xvar rfl h1) xint i0) xstr)) wFstBtw) fun H1 e1 => ?_
    have k1 := h1.mono (tx e1)
    refine z_if (b := true) (Evl.et_is (xT (xneS (xix (xvar rfl k1) xint i0) xstr)) (by rw [wTogBtw]; rfl)) (fun _ H2 e2 => ?_) (fun z => nomatch z)
    refine e_retS (xlst (xacons (xcall (xacons (xvar rfl (k1.mono (tx e2))) xanil) ⟨.btw x y z, rfl, trivial, rfl⟩) xanil) (by show 1 ≤ 100000; decide)) fun L xs H3 nL e3 hx hd => ?_
    exact q L xs _ H3 rfl (Evl.fresh_back (e1.trans e2) nL) ((e1.trans e2).trans e3) hx hd
  | tog c =>
    have i0 : atI [PyData.str "together", sD c] 0 = some (.str "together") := rfl
    have i1 : atI [PyData.str "together", sD c] 1 = some (sD c) := rfl
    have hc8 : c.length ≤ 8 := ha.len
    refine z_skip (Evl.et_is (xT (xeqS (xix (xvar rfl h1) xint i0) xstr)) wFstTog) fun H1 e1 => ?_
    have k1 := h1.mono (tx e1)
    refine z_skip (Evl.et_is (xT (xneS (xix (xvar rfl k1) xint i0) xstr)) (by rw [decide_eq_true rfl]; rfl)) fun H2 e2 => ?_
    have k2 := k1.mono (tx e2)
    refine z_set (xix (xvar rfl k2) xint i1) fun vc H3 e3 hvc => ?_
    refine z_setS (xlst xanil (by decide)) fun L0 xs0 H4 nL0 e4 hx0 hd0 => ?_
    have e14 := ((e1.trans e2).trans e3).trans e4
    have z0 := h0.mono (tx e14)
    have zc := hvc.mono (tx e4)
    refine z_forR (xacons (xvar rfl z0) xanil) ⟨n0, by omega⟩ (fun i σ' H' => ∃ (L : Addr) (xs : List V) (v4 : Option V), σ' = [some v0, some v1, some vc, some (.ref L), v4, none, none] ∧ H L = none ∧ Ex H4 H' ∧ H' L = some (.lst xs) ∧ DtAll H' xs ((togLinks i c).map lD))
      (fun H5 e5 => ⟨L0, xs0, none, rfl, Evl.fresh_back ((e1.trans e2).trans e3) nL0, e5, e5 L0 _ hx0, hd0.mono (tx e5)⟩) (fun i σ' H' hi hp => ?_) (fun σ' H' hp => ?_)
    · obtain ⟨L, xs, v4, rfl, nL, eC, hL, hd⟩ := hp
      have c5 := zc.mono (tx eC)
      have hlen := togLinks_len hc8 i
      refine e_if (b := !decide ((i : Int) ∈ c)) (xT (xin (neg := true) (xvar rfl (.int _)) (xvar rfl c5))) (fun hb H5 e5 => ?_) (fun hb H5 e5 => ?_)
      · have hn : (i : Int) ∉ c := by simpa using hb
        refine e_setS (xcatV rfl (e5 L _ hL) (hd.mono (tx e5)) (xlcZ (K := K) (c := c) (c' := c.drop 1) (fun p => lD ((p.1, (i : Int)), (p.2, (i : Int)))) (xvar rfl (c5.mono (tx e5))) ((xtl (xvar rfl (c5.mono (tx e5)))).is (by rw [← List.map_drop])) (by omega) (fun _ _ => rfl) fun x y H6 _ e6 => ?_) ?_) fun L2 xs2 H6 nL2 e6 hx6 hd6 => ?_
        · exact xtup (xacons (xtup (xacons (xvar rfl (.int _)) (xacons (xvar rfl (.int _)) xanil)) (by show 2 ≤ 100000; decide)) (xacons (xtup (xacons (xvar rfl (.int _)) (xacons (xvar rfl (.int _)) xanil)) (by show 2 ≤ 100000; decide)) xanil)) (by show 2 ≤ 100000; decide)
        · rw [List.length_map, List.length_map, List.length_zip]
          omega
        · refine ⟨L2, xs2, _, rfl, Evl.fresh_back ((e14.trans eC).trans e5) nL2, (eC.trans e5).trans e6, hx6, ?_⟩
          rw [togLinks_succ, if_neg hn, List.map_append, List.map_map]
          exact hd6
      · have hn : (i : Int) ∈ c := by simpa using hb
        refine ⟨L, xs, _, rfl, nL, eC.trans e5, e5 L _ hL, ?_⟩
        rw [togLinks_succ, if_pos hn, List.append_nil]
        exact hd.mono (tx e5)
    · obtain ⟨L, xs, v4, rfl, nL, eC, hL, hd⟩ := hp
      exact ⟨.ref L, rfl, q L xs _ H' rfl nL (e14.trans eC) hL hd⟩
end
end Kt
namespace Kt
open PySem PySem.Spec PyProof.Rows L2
open Evl (Ex Ev EvT EvO)
section
variable {P : Program} {w : World} {K : PySem.W.Frag} {mg : Str → Option Value} {base : Heap}
/-! ### is_always -/
noncomputable def alw (n : Int) (S : List (List Int)) : Ask → Bool
  | .fst _ => false
  | a => (lks n a).all fun l => lkB S l.1 l.2
def R_always : List PyData → (PyData → Prop) → Prop := fun ds P => ∃ n S a, ds = [SD n S, aD a] ∧ SysOk n S ∧ Ask.ok n a ∧ P = (· = .bool (alw n S a))
theorem sndlast {α : Type} {c : List α} {x y : α} (h : (x, y) ∈ c.zip (c.drop 1)) : x ∈ c ∧ y ∈ c := by
  have m := List.of_mem_zip h
  exact ⟨m.1, List.mem_of_mem_drop m.2⟩
theorem lks_vp {n : Int} {a : Ask} (h0 : 0 ≤ n) (ha : Ask.ok n a) (nf : Ask.nf a) : ∀ l ∈ lks n a, Vp n l.1 := by
  intro l hl
  cases a with
  | fst x => exact nf.elim
  | eqv p q => cases List.mem_singleton.mp hl; exact ha.1
  | btw x y z =>
    cases List.mem_singleton.mp hl
    obtain ⟨⟨x0, x1⟩, ⟨y0, y1⟩, _, nxy, _⟩ := ha
    exact ⟨x0, x1, y0, y1, nxy⟩
  | tog c =>
    have hl : l ∈ togLinks n.toNat c := hl
    unfold togLinks at hl
    obtain ⟨z, hz, hm⟩ := List.mem_flatMap.mp hl
    have hz' := List.mem_range.mp hz
    by_cases hc : (z : Int) ∈ c
    · rw [if_pos hc] at hm; cases hm
    · rw [if_neg hc] at hm
      obtain ⟨p, hp, rfl⟩ := List.mem_map.mp hm
      have m := (zip_mem hp).1
      have b := (show SetOk n c from ha).mem _ m
      exact ⟨b.1, b.2, by show (0 : Int) ≤ (z : Int); omega, by show (z : Int) < n; omega, fun e => hc (by rw [← (show p.1 = (z : Int) from e)]; exact m)⟩
theorem lks_len {n : Int} {a : Ask} (h8 : n ≤ 8) (ha : Ask.ok n a) : (lks n a).length ≤ 64 := by
  cases a with
  | fst x => show 1 ≤ 64; decide
  | eqv p q => show 1 ≤ 64; decide
  | btw x y z => show 1 ≤ 64; decide
  | tog c =>
    have h := togLinks_len (show SetOk n c from ha).len n.toNat
    show (togLinks n.toNat c).length ≤ 64
    omega
theorem ok_is_always (D : Df K mg "is_always" s_is_always ["system", "asked"]) (B : Bi mg) (O_linked : Ok P w K mg base "linked" 4 ["system", "pair", "other"] (spN R_linked)) (O_asked_links : Ok P w K mg base "asked_links" 2 ["size", "asked"] (spL R_links)) :
    Ok P w K mg base "is_always" 5 ["system", "asked"] (spN R_always) := by
  refine D.ok sc_is_always (fun vs H Q E h => spN_len (fun ds P ⟨_, _, _, e, _⟩ => by rw [e]; rfl) h) (fun f cdv A outer s H vs Q E hr h => ?_)
  obtain ⟨ds, P, hv, ⟨n, S, a, rfl, hS, ha, rfl⟩, q⟩ := h
  obtain ⟨v0, v1, rfl, h0, h1⟩ := hv.inv2
  have h2 := hS.n2
  have h5 := hS.n5
  refine ⟨_, (pss_cons (ps_if (pt_cmpR op_eq (pe_ix (ixT (K := K)) (pv 1) pe_int (fun _ _ => rfl)) pe_str (nomark _)) (pss_one (ps_ret (pe_cmpR op_eq (pe_ix (ixT (K := K)) (pv 0) pe_int (fun _ _ => rfl)) pe_int (nomark _)))) pss_nil)
      (pss_one (ps_ret (pe_callB (cr_all rfl) (by rfl) B.all (by decide +kernel) (pa_cons (pe_lc (own := [("pair", 2), ("other", 3)]) (tt := tYes) rfl sc_is_always.nd (pi_list (pe_callOk O_asked_links (hr.mono (by decide)) (by rfl) (pa_cons (pe_ix (ixT (K := K)) (pv 0) pe_int (fun _ _ => rfl)) (pa_cons (pv 1) pa_nil)))) (blkOk_by (N := N_is_always) (sc := defScope s_is_always) (by decide +kernel)) (fun _ _ _ _ _ => (pgT (K := K) (n := 2) rfl rfl (pgs_cons (pg_name (i := 2) sc_is_always.nd rfl (.inl rfl)) (pgs_cons (pg_name (i := 3) sc_is_always.nd rfl (.inl rfl)) pgs_nil)))) (fun _ _ _ _ _ => pts_nil) (fun _ _ _ _ _ => (pe_callOk O_linked (hr.mono (by decide)) (by rfl) (pa_cons (pv 0) (pa_cons (pv 2) (pa_cons (pv 3) pa_nil)))))) pa_nil))))), ?_⟩
  rw [aD_eq] at h1
  have gen : ∀ (nf : Ask.nf a) (H1 : Hp), Ex H H1 → tRet (tCB (rAll K) (tCons (tLc (iList K (tCall (spL R_links) [] E0 (tCons (tOp (rIxT K) (tVar 0) (tC (.int 0))) (tCons (tVar 1) tNil)))) (gTup K 2 (gCons (gName 2) (gCons (gName 3) gNil))) tYes (tCall (spN R_linked) [] E0 (tCons (tVar 0) (tCons (tVar 2) (tCons (tVar 3) tNil)))) [2, 3]) tNil))
      { nx := fun _ H' => Q .non H', rt := Q } [some v0, some v1, none, none] H1 := by
    intro nf H1 e1
    have k0 := h0.mono (tx e1)
    have k1 := h1.mono (tx e1)
    have ks : EvS (tCall (spL R_links) [] E0 (tCons (tOp (rIxT K) (tVar 0) (tC (.int 0))) (tCons (tVar 1) tNil))) [some v0, some v1, none, none] H1 ((lks n a).map lD) :=
      (xcallL (xacons (xix (xvar rfl k0) xint sd0) (xacons (xvar (d := aD a) rfl (by rw [aD_eq]; exact k1)) xanil)) ⟨n, a, rfl, by omega, by omega, ha, nf, rfl⟩).one
    have kc := xlcP (K := K) (i := 2) (j := 3) (vs := [2, 3]) (lks n a) (fun l => pD l.1) (fun l => pD l.2) (fun l => .bool (lkB S l.1 l.2)) (te := tCall (spN R_linked) [] E0 (tCons (tVar 0) (tCons (tVar 2) (tCons (tVar 3) tNil)))) ks (by have := lks_len (a := a) (n := n) (by omega) ha; omega) (fun _ _ => rfl)
      (fun l ml u v H2 e2 hu hv => xcall (xacons (xvar rfl (k0.mono (tx e2))) (xacons (xvar rfl hu) (xacons (xvar rfl hv) xanil))) ⟨n, S, l.1, l.2, rfl, hS, lks_vp (by omega) ha nf l ml, rfl⟩)
    refine e_ret (xall (bs := (lks n a).map fun l => lkB S l.1 l.2) (kc.is (by rw [List.map_map]; rfl))) fun v H2 e2 hd => q v _ H2 ?_ (e1.trans e2) hd
    rw [List.all_map]
    cases a with
    | fst x => exact nf.elim
    | eqv _ _ => rfl
    | btw _ _ _ => rfl
    | tog _ => rfl
  have i0 := a0 a
  cases a with
  | fst x =>
    refine z_if (b := true) (Evl.et_is (xT (xeqS (xix (xvar rfl h1) xint i0) xstr)) (decide_eq_true rfl)) (fun _ H1 e1 => ?_) (fun z => nomatch z)
    refine e_ret (xeqI (xix (xvar rfl (h0.mono (tx e1))) xint sd0) xint) fun v H2 e2 hd => q v _ H2 ?_ (e1.trans e2) hd
    rw [decide_eq_false (show ¬ n = 1 by omega)]
    rfl
  | eqv p r => exact z_skip (Evl.et_is (xT (xeqS (xix (xvar rfl h1) xint i0) xstr)) wFstEqv) fun H1 e1 => gen trivial H1 e1
  | btw x y z => exact z_skip (Evl.et_is (xT (xeqS (xix (xvar rfl h1) xint i0) xstr)) wFstBtw) fun H1 e1 => gen trivial H1 e1
  | tog c => exact z_skip (Evl.et_is (xT (xeqS (xix (xvar rfl h1) xint i0) xstr)) wFstTog) fun H1 e1 => gen trivial H1 e1
/-! ### against_first -/
def R_agf : List PyData → (PyData → Prop) → Prop := fun ds P => ∃ n S x, ds = [SD n S, .int x] ∧ SysOk n S ∧ 0 ≤ x ∧ x < n ∧ P = fun d => d = .none ∨ ∃ p q, d = .tuple [pD p, pD q] ∧ Vp n p
def sndI : PyData → Int
  | .tuple [_, .int y] => y
  | _ => 0
theorem giv_pD {f : PyData → Bool} : ∀ l : List Pr, ∃ l' : List Pr, giv f id (l.map pD) = l'.map pD ∧ l'.length ≤ l.length
  | [] => ⟨[], rfl, Nat.le_refl _⟩
  | p :: l => by
    obtain ⟨l', h1, h2⟩ := giv_pD (f := f) l
    unfold giv at h1 ⊢
    rw [List.map_cons, List.filter_cons]
    by_cases hf : f (pD p) = true
    · rw [if_pos hf]
      exact ⟨p :: l', by rw [List.map_cons, List.map_cons, h1]; rfl, by rw [List.length_cons, List.length_cons]; omega⟩
    · rw [if_neg hf]
      exact ⟨l', h1, by rw [List.length_cons]; omega⟩
theorem ok_against_first (D : Df K mg "against_first" s_against_first ["system", "x"]) (B : Bi mg) (O_class_in : Ok P w K mg base "class_in" 3 ["system", "pair"] (spN R_classIn)) : Ok P w K mg base "against_first" 4 ["system", "x"] (spN R_agf) := by
  refine D.ok sc_against_first (fun vs H Q E h => spN_len (fun ds P ⟨_, _, _, e, _⟩ => by rw [e]; rfl) h) (fun f cdv A outer s H vs Q E hr h => ?_)
  obtain ⟨ds, P, hv, ⟨n, S, x, rfl, hS, x0, x1, rfl⟩, q⟩ := h
  obtain ⟨v0, v1, rfl, h0, h1⟩ := hv.inv2
  obtain rfl := h1.int_inv
  have h2 := hS.n2
  have h5 := hS.n5
  refine ⟨_, (pss_cons (ps_for PassesOwn.never rfl (pi_range1 rfl B.range (pa_cons (pe_ix (ixT (K := K)) (pv 0) pe_int (fun _ _ => rfl)) pa_nil)) (pg_name (i := 2) sc_against_first.nd rfl (.inl rfl)) (pss_one (ps_if (pt_cmpR op_ne (pv 2) (pv 1) (nomark _)) (pss_cons (ps_setLc (i := 3) (own := [("pair", 4)]) (g := gName 4) rfl sc_against_first.nd rfl rfl (sw_true rfl rfl rfl (by decide +kernel)) (pi_tup (pe_callOk O_class_in (hr.mono (by decide)) (by rfl) (pa_cons (pv 0) (pa_cons (pe_tup (pa_cons (pv 1) (pa_cons (pv 2) pa_nil))) pa_nil)))) (blkOk_by (N := N_against_first) (sc := defScope s_against_first) (by decide +kernel)) (fun _ _ _ _ _ => (pg_name (i := 4) sc_against_first.nd rfl (.inl rfl))) (fun _ _ _ _ _ => pts_one (pt_cmpR op_eq (pe_ix (ixT (K := K)) (pv 4) pe_int (fun _ _ => rfl)) (pv 1) (nomark _))) (fun _ _ _ _ _ => (pv 4)))
      (pss_one (ps_if (pt_truth (pv 3) (by intro _; rfl)) (pss_one (ps_ret (pe_tup (pa_cons (pe_tup (pa_cons (pv 1) (pa_cons (pv 2) pa_nil))) (pa_cons (pe_ix ix_list (pv 3) pe_int (fun _ _ => rfl)) pa_nil))))) pss_nil))) pss_nil)))
      (pss_one (ps_ret pe_non))), ?_⟩
  refine z_forR (xacons (xix (xvar rfl h0) xint sd0) xanil) (by omega) (fun _ σ' H' => ∃ v2 v3, σ' = [some v0, some (.int x), v2, v3, none] ∧ Ex H H') (fun H1 e => ⟨none, none, rfl, e⟩) (fun i σ' H' hi hp => ?_) (fun σ' H' hp => ?_)
  · obtain ⟨v2, v3, rfl, e1⟩ := hp
    refine e_if (b := !decide ((i : Int) = x)) (xT (xneI (xvar rfl (.int _)) (xvar rfl (.int _)))) (fun hb H2 e2 => ?_) (fun _ H2 e2 => ⟨_, _, rfl, e1.trans e2⟩)
    have ne : ¬ (i : Int) = x := by simpa using hb
    have e12 := e1.trans e2
    have k0 := h0.mono (tx e12)
    have vp : Vp n (x, (i : Int)) := ⟨x0, x1, by show (0 : Int) ≤ (i : Int); omega, hi, fun e => ne e.symm⟩
    refine z_setSN (xlcTN (K := K) (fun d => ∃ l : List Pr, d = .tuple (l.map pD) ∧ (∀ q, q ∈ l ↔ Lk S (x, (i : Int)) q) ∧ l.length ≤ 64) (fun d => decide (sndI d = x)) id
      (xcallN (R := R_classIn) (xacons (xvar rfl k0) (xacons (xtup (xacons (xvar rfl (.int _)) (xacons (xvar rfl (.int _)) xanil)) (by show 2 ≤ 100000; decide)) xanil)) ⟨n, S, (x, (i : Int)), rfl, hS, vp, rfl⟩)
      (fun d ⟨l, e, _, hl⟩ => ⟨_, e, by rw [List.length_map]; omega⟩) (fun _ => rfl) (fun ds d v H3 ⟨l, e, _, _⟩ m e3 hd => ?_) (fun ds d v H3 _ _ e3 hd _ => xvar rfl hd)) fun L xs es H3 ⟨ds, ⟨l, hds, _, _⟩, hes⟩ nL e3 hx hd => ?_
    · injection e with e
      rw [e] at m
      obtain ⟨p, _, rfl⟩ := List.mem_map.mp m
      have i1 : atI [PyData.int p.1, .int p.2] 1 = some (.int p.2) := rfl
      exact xT (xeqI (xix (xvar rfl hd) xint i1) (xvar rfl (.int _)))
    · injection hds with hds
      rw [hes, hds] at hd
      obtain ⟨l', hl', _⟩ := giv_pD (f := fun d => decide (sndI d = x)) l
      rw [hl'] at hd
      have e13 := e12.trans e3
      cases l' with
      | nil =>
        cases hd
        refine ⟨.ref L, rfl, false, .inl ⟨[], SqL.of hx, rfl⟩, iteF ?_⟩
        exact ⟨_, _, rfl, e13⟩
      | cons p l' =>
        cases hd with
        | @cons u us _ _ hu hus =>
          refine ⟨.ref L, rfl, true, .inl ⟨_, SqL.of hx, rfl⟩, iteT ?_⟩
          refine ⟨.int x, rfl, .int (i : Int), rfl, by show 2 ≤ sizeLine; decide, fun T nT => ?_⟩
          have eT : Ex H3 (upd H3 T (.tup [.int x, .int (i : Int)])) := Ex.new nT
          refine ⟨.ref L, rfl, L, _, 0, u, rfl, rfl, SqL.of (eT L _ hx), atI_nat (j := 0) rfl, by show 2 ≤ sizeLine; decide, fun T2 nT2 => ?_⟩
          have eT2 := eT.trans (Ex.new nT2 (o := .tup [.ref T, u]))
          refine q _ (.tuple [pD (x, (i : Int)), pD p]) _ (.inr ⟨_, _, rfl, vp⟩) (e13.trans eT2) (.tup upd_same (.cons (.tup (Ex.new nT2 T _ upd_same) (.cons (.int _) (.cons (.int _) .nil))) (.cons (hu.mono (tx eT2)) .nil)))
  · obtain ⟨v2, v3, rfl, e1⟩ := hp
    exact e_ret xnon fun v H2 e2 hd => q v _ H2 (.inl rfl) (e1.trans e2) hd
/-! ### never_chain -/
def Ask.nt : Ask → Prop
  | .tog _ => False
  | _ => True
def nevP (S : List (List Int)) (a : Ask) (d : PyData) : Prop := match a with
  | .eqv p q => isN d = !lkB S p (rv q)
  | .btw x y z => isN d = !lkB S (x, y) (z, y)
  | _ => True
def R_never : List PyData → (PyData → Prop) → Prop := fun ds P => ∃ n S a, ds = [SD n S, aD a] ∧ SysOk n S ∧ Ask.ok n a ∧ Ask.nt a ∧ P = nevP S a
theorem ok_never_chain (D : Df K mg "never_chain" s_never_chain ["system", "asked"]) (B : Bi mg) (O_as_pairs : Ok P w K mg base "as_pairs" 1 ["asked"] (spN R_asPairs)) (O_against_first : Ok P w K mg base "against_first" 4 ["system", "x"] (spN R_agf))
    (O_shortest_of : Ok P w K mg base "shortest_of" 4 ["system", "pair", "other"] (spN R_short)) : Ok P w K mg base "never_chain" 5 ["system", "asked"] (spN R_never) := by
  refine D.ok sc_never_chain (fun vs H Q E h => spN_len (fun ds P ⟨_, _, _, e, _⟩ => by rw [e]; rfl) h) (fun f cdv A outer s H vs Q E hr h => ?_)
  obtain ⟨ds, P, hv, ⟨n, S, a, rfl, hS, ha, nt, rfl⟩, q⟩ := h
  obtain ⟨v0, v1, rfl, h0, h1⟩ := hv.inv2
  refine ⟨_, (pss_cons (ps_if (pt_cmpR op_eq (pe_ix (ixT (K := K)) (pv 1) pe_int (fun _ _ => rfl)) pe_str (nomark _)) (pss_one (ps_never)) pss_nil)
      (pss_cons (ps_if (pt_cmpR op_eq (pe_ix (ixT (K := K)) (pv 1) pe_int (fun _ _ => rfl)) pe_str (nomark _)) (pss_cons (ps_set (i := 4) sc_never_chain.nd rfl (.inl rfl) (pe_callOk O_against_first (hr.mono (by decide)) (by rfl) (pa_cons (pv 0) (pa_cons (pe_ix (ixT (K := K)) (pv 1) pe_int (fun _ _ => rfl)) pa_nil))))
      (pss_one (ps_ret (pe_ifExp (pt_cmpR op_isN (pv 4) pe_non (nomark _)) pe_non (pe_callOk O_shortest_of (hr.mono (by decide)) (by rfl) (pa_cons (pv 0) (pa_cons (pe_ix (ixT (K := K)) (pv 4) pe_int (fun _ _ => rfl)) (pa_cons (pe_ix (ixT (K := K)) (pv 4) pe_int (fun _ _ => rfl)) pa_nil)))))))) pss_nil)
      (pss_cons (ps_asg (pe_callOk O_as_pairs (hr.mono (by decide)) (by rfl) (pa_cons (pv 1) pa_nil)) (pgT (K := K) (n := 2) rfl rfl (pgs_cons (pg_name (i := 2) sc_never_chain.nd rfl (.inl rfl)) (pgs_cons (pg_name (i := 3) sc_never_chain.nd rfl (.inl rfl)) pgs_nil))))
      (pss_one (ps_ret (pe_callOk O_shortest_of (hr.mono (by decide)) (by rfl) (pa_cons (pv 0) (pa_cons (pv 2) (pa_cons (pe_rev2 (pv 3)) pa_nil))))))))), ?_⟩
  have i0 := a0 a
  rw [aD_eq] at h1
  cases a with
  | tog c => exact nt.elim
  | fst x =>
    refine z_skip (Evl.et_is (xT (xeqS (xix (xvar rfl h1) xint i0) xstr)) wTogFst) fun H1 e1 => ?_
    have k1 := h1.mono (tx e1)
    refine z_if (b := true) (Evl.et_is (xT (xeqS (xix (xvar rfl k1) xint i0) xstr)) (decide_eq_true rfl)) (fun _ H2 e2 => ?_) (fun z => nomatch z)
    have k2 := k1.mono (tx e2)
    have k0 := (h0.mono (tx e1)).mono (tx e2)
    have i1 : atI [PyData.str "first", .int x] 1 = some (.int x) := rfl
    refine z_setN (xcallN (xacons (xvar rfl k0) (xacons (xix (xvar rfl k2) xint i1) xanil)) ⟨n, S, x, rfl, hS, ha.1, ha.2, rfl⟩) fun ve de H3 hde e3 hve => ?_
    have e123 := (e1.trans e2).trans e3
    rcases hde with rfl | ⟨p, r, rfl, vp⟩
    · exact e_ret (xif (b := true) (xT (xisN (xvar rfl hve))) (fun _ => xnon) (fun z => nomatch z)) fun v H4 e4 hd => q v _ H4 trivial (e123.trans e4) hd
    · have j0 : atI [pD p, pD r] 0 = some (pD p) := rfl
      have j1 : atI [pD p, pD r] 1 = some (pD r) := rfl
      refine e_retN (P := fun _ => True) (xifN (b := false) (xT (xisN (xvar rfl hve))) (fun z => nomatch z) fun _ => ?_) fun v d H4 _ e4 hd => q v d H4 trivial (e123.trans e4) hd
      have cc := xcallN (R := R_short) (E := E0) (xacons (xvar (σ := (([some v0, some v1, none, none, none] : L2.St).set 2 (some ve))) (i := 0) rfl (k0.mono (tx e3))) (xacons (xix (K := K) (xvar (i := 2) rfl hve) xint j0) (xacons (xix (K := K) (xvar (i := 2) rfl hve) xint j1) xanil))) ⟨n, S, p, r, rfl, hS, vp, rfl⟩
      exact fun H4 e4 Q' q' => cc H4 e4 Q' fun v d H5 _ e5 hd => q' v d H5 trivial e5 hd
  | eqv p r =>
    refine z_skip (Evl.et_is (xT (xeqS (xix (xvar rfl h1) xint i0) xstr)) wTogEqv) fun H1 e1 => ?_
    have k1 := h1.mono (tx e1)
    refine z_skip (Evl.et_is (xT (xeqS (xix (xvar rfl k1) xint i0) xstr)) wFstEqv) fun H2 e2 => ?_
    have k2 := k1.mono (tx e2)
    have k0 := (h0.mono (tx e1)).mono (tx e2)
    refine z_two (d1 := pD p) (d2 := pD r) (xcall (xacons (xvar (d := aD (.eqv p r)) rfl k2) xanil) ⟨.eqv p r, rfl, trivial, rfl⟩) fun vp vr H3 e3 hp hr' => ?_
    refine e_retN (xcallN (xacons (xvar rfl (k0.mono (tx e3))) (xacons (xvar rfl hp) (xacons (xrev2 (xvar rfl hr')) xanil))) ⟨n, S, p, rv r, rfl, hS, ha.1, rfl⟩) fun v d H4 pd e4 hd => q v d H4 pd (((e1.trans e2).trans e3).trans e4) hd
  | btw x y z =>
    obtain ⟨⟨x0, x1⟩, ⟨y0, y1⟩, ⟨z0, z1⟩, nxy, nyz, nxz⟩ := ha
    refine z_skip (Evl.et_is (xT (xeqS (xix (xvar rfl h1) xint i0) xstr)) wTogBtw) fun H1 e1 => ?_
    have k1 := h1.mono (tx e1)
    refine z_skip (Evl.et_is (xT (xeqS (xix (xvar rfl k1) xint i0) xstr)) wFstBtw) fun H2 e2 => ?_
    have k2 := k1.mono (tx e2)
    have k0 := (h0.mono (tx e1)).mono (tx e2)
    refine z_two (d1 := pD (x, y)) (d2 := pD (y, z)) (xcall (xacons (xvar (d := aD (.btw x y z)) rfl k2) xanil) ⟨.btw x y z, rfl, trivial, rfl⟩) fun vp vr H3 e3 hp hr' => ?_
    refine e_retN (xcallN (xacons (xvar rfl (k0.mono (tx e3))) (xacons (xvar rfl hp) (xacons (xrev2 (xvar rfl hr')) xanil))) ⟨n, S, (x, y), (z, y), rfl, hS, ⟨x0, x1, y0, y1, nxy⟩, rfl⟩) fun v d H4 pd e4 hd => q v d H4 pd (((e1.trans e2).trans e3).trans e4) hd
/-! ### told -/
def tolP (S : List (List Int)) (a : Ask) (d : PyData) : Prop := match a with
  | .eqv p q => d = .str (eqvW S p q)
  | .btw x y z => d = .str (eqvW S (x, y) (y, z))
  | .tog _ => d = .str "always"
  | .fst _ => d = .str "sometimes" ∨ d = .str "never"
def Ask.sure (n : Int) (S : List (List Int)) : Ask → Prop
  | .tog c => TogAll n S c
  | _ => True
def R_told : List PyData → (PyData → Prop) → Prop := fun ds P => ∃ n S a, ds = [SD n S, aD a] ∧ SysOk n S ∧ Nc n S ∧ Ask.ok n a ∧ Ask.sure n S a ∧ P = tolP S a
theorem one_all {α : Type} (f : α → Bool) (x : α) : [x].all f = f x := by simp
theorem ok_told_of (D : Df K mg "told_of" s_told_of ["system", "asked"]) (B : Bi mg) (O_is_always : Ok P w K mg base "is_always" 5 ["system", "asked"] (spN R_always)) (O_never_chain : Ok P w K mg base "never_chain" 5 ["system", "asked"] (spN R_never)) :
    Ok P w K mg base "told_of" 6 ["system", "asked"] (spN R_told) := by
  refine D.ok sc_told_of (fun vs H Q E h => spN_len (fun ds P ⟨_, _, _, e, _⟩ => by rw [e]; rfl) h) (fun f cdv A outer s H vs Q E hr h => ?_)
  obtain ⟨ds, P, hv, ⟨n, S, a, rfl, hS, nc, ha, sure, rfl⟩, q⟩ := h
  obtain ⟨v0, v1, rfl, h0, h1⟩ := hv.inv2
  refine ⟨_, (pss_cons (ps_if (pt_val (pe_callOk O_is_always (hr.mono (by decide)) (by rfl) (pa_cons (pv 0) (pa_cons (pv 1) pa_nil)))) (pss_one (ps_ret (pe_gS rfl B.always))) pss_nil)
      (pss_one (ps_ret (pe_ifExp (pt_cmpR op_isN (pe_callOk O_never_chain (hr.mono (by decide)) (by rfl) (pa_cons (pv 0) (pa_cons (pv 1) pa_nil))) pe_non (nomark _)) (pe_gS rfl B.sometimes) (pe_gS rfl B.never))))), ?_⟩
  refine z_if (b := alw n S a) (xB (xcall (xacons (xvar rfl h0) (xacons (xvar rfl h1) xanil)) ⟨n, S, a, rfl, hS, ha, rfl⟩)) (fun hb H1 e1 => ?_) (fun hb H1 e1 => ?_)
  · refine e_ret xstr fun v H2 e2 hd => q v _ H2 ?_ (e1.trans e2) hd
    cases a with
    | fst x => cases hb
    | tog c => rfl
    | eqv p r =>
      have h : lkB S p r = true := by rw [← one_all (fun l : Pr × Pr => lkB S l.1 l.2) (p, r)]; exact hb
      show PyData.str "always" = .str (eqvW S p r)
      unfold eqvW
      rw [h]
      rfl
    | btw x y z =>
      have h : lkB S (x, y) (y, z) = true := by rw [← one_all (fun l : Pr × Pr => lkB S l.1 l.2) ((x, y), (y, z))]; exact hb
      show PyData.str "always" = .str (eqvW S (x, y) (y, z))
      unfold eqvW
      rw [h]
      rfl
  · have nt : Ask.nt a := by
      cases a with
      | tog c =>
        have h : (togLinks n.toNat c).all (fun l => lkB S l.1 l.2) = false := hb
        have h2 : (togLinks n.toNat c).all (fun l => lkB S l.1 l.2) = true := List.all_eq_true.mpr fun l hl => lkB_iff.mpr (sure l hl)
        rw [h2] at h
        cases h
      | _ => trivial
    have k0 := h0.mono (tx e1)
    have k1 := h1.mono (tx e1)
    refine xcallN (R := R_never) (E := E0) (σ := start N_told_of [v0, v1]) (xacons (xvar (i := 0) rfl k0) (xacons (xvar (i := 1) rfl k1) xanil)) ⟨n, S, a, rfl, hS, ha, nt, rfl⟩ H1 (Ex.refl _) _ fun v d H2 hd e2 hv => ⟨rfl, decide (v = .non), rfl, ?_⟩
    rw [hv.isN]
    have e12 := e1.trans e2
    cases hN : isN d with
    | true =>
      refine q (.str "sometimes") (.str "sometimes") H2 ?_ e12 (.str _)
      cases a with
      | tog c => exact nt.elim
      | fst x => exact .inl rfl
      | eqv p r =>
        have h : lkB S p r = false := by rw [← one_all (fun l : Pr × Pr => lkB S l.1 l.2) (p, r)]; exact hb
        have h2 : true = !lkB S p (rv r) := by rw [← hN]; exact hd
        have h3 : lkB S p (rv r) = false := by cases z : lkB S p (rv r) with | false => rfl | true => rw [z] at h2; cases h2
        show PyData.str "sometimes" = .str (eqvW S p r)
        unfold eqvW
        rw [h, h3]
        rfl
      | btw x y z =>
        have h : lkB S (x, y) (y, z) = false := by rw [← one_all (fun l : Pr × Pr => lkB S l.1 l.2) ((x, y), (y, z))]; exact hb
        have h2 : true = !lkB S (x, y) (z, y) := by rw [← hN]; exact hd
        have h3 : lkB S (x, y) (z, y) = false := by cases z : lkB S (x, y) (z, y) with | false => rfl | true => rw [z] at h2; cases h2
        show PyData.str "sometimes" = .str (eqvW S (x, y) (y, z))
        unfold eqvW
        rw [h]
        show PyData.str "sometimes" = .str (if lkB S (x, y) (z, y) = true then "never" else "sometimes")
        rw [h3]
        rfl
    | false =>
      refine q (.str "never") (.str "never") H2 ?_ e12 (.str _)
      cases a with
      | tog c => exact nt.elim
      | fst x => exact .inr rfl
      | eqv p r =>
        have h : lkB S p r = false := by rw [← one_all (fun l : Pr × Pr => lkB S l.1 l.2) (p, r)]; exact hb
        have h2 : false = !lkB S p (rv r) := by rw [← hN]; exact hd
        have h3 : lkB S p (rv r) = true := by cases z : lkB S p (rv r) with | true => rfl | false => rw [z] at h2; cases h2
        show PyData.str "never" = .str (eqvW S p r)
        unfold eqvW
        rw [h, h3]
        rfl
      | btw x y z =>
        have h : lkB S (x, y) (y, z) = false := by rw [← one_all (fun l : Pr × Pr => lkB S l.1 l.2) ((x, y), (y, z))]; exact hb
        have h2 : false = !lkB S (x, y) (z, y) := by rw [← hN]; exact hd
        have h3 : lkB S (x, y) (z, y) = true := by cases z : lkB S (x, y) (z, y) with | true => rfl | false => rw [z] at h2; cases h2
        show PyData.str "never" = .str (eqvW S (x, y) (y, z))
        unfold eqvW
        rw [h]
        show PyData.str "never" = .str (if lkB S (x, y) (z, y) = true then "never" else "sometimes")
        rw [h3]
        rfl
def R_poss : List PyData → (PyData → Prop) → Prop := fun ds P => ∃ n S a, ds = [SD n S, aD a] ∧ SysOk n S ∧ Nc n S ∧ Ask.ok n a ∧ P = (· = .none)
theorem ok_check_possible (D : Df K mg "check_possible" s_check_possible ["system", "asked"]) (B : Bi mg) (O_check_system : Ok P w K mg base "check_system" 4 ["value"] (spN R_chk)) (O_check_asked : Ok P w K mg base "check_asked" 4 ["system", "asked"] (spN R_chkA))
    (O_is_contradictory_of : Ok P w K mg base "is_contradictory_of" 6 ["system"] (spN R_ncB)) : Ok P w K mg base "check_possible" 7 ["system", "asked"] (spN R_poss) := by
  refine D.ok sc_check_possible (fun vs H Q E h => spN_len (fun ds P ⟨_, _, _, e, _⟩ => by rw [e]; rfl) h) (fun f cdv A outer s H vs Q E hr h => ?_)
  obtain ⟨ds, P, hv, ⟨n, S, a, rfl, hS, nc, ha, rfl⟩, q⟩ := h
  obtain ⟨v0, v1, rfl, h0, h1⟩ := hv.inv2
  refine ⟨_, (pss_cons (ps_expr (pe_callOk O_check_system (hr.mono (by decide)) (by rfl) (pa_cons (pv 0) pa_nil)))
      (pss_cons (ps_expr (pe_callOk O_check_asked (hr.mono (by decide)) (by rfl) (pa_cons (pv 0) (pa_cons (pv 1) pa_nil))))
      (pss_one (ps_if (pt_val (pe_callOk O_is_contradictory_of (hr.mono (by decide)) (by rfl) (pa_cons (pv 0) pa_nil))) (pss_one (ps_never)) pss_nil)))), ?_⟩
  refine xcall (R := R_chk) (E := E0) (d := .none) (σ := start N_check_possible [v0, v1]) (xacons (xvar (i := 0) rfl h0) xanil) ⟨n, S, rfl, hS, rfl⟩ H (Ex.refl _) _ fun _ H1 e1 _ => ?_
  refine xcall (R := R_chkA) (E := E0) (d := .none) (σ := start N_check_possible [v0, v1]) (xacons (xvar (i := 0) rfl (h0.mono (tx e1))) (xacons (xvar (i := 1) rfl (h1.mono (tx e1))) xanil)) ⟨n, S, a, rfl, ha, rfl⟩ H1 (Ex.refl _) _ fun _ H2 e2 _ => ?_
  have e12 := e1.trans e2
  exact e_if (b := false) (xB (xcall (xacons (xvar rfl (h0.mono (tx e12))) xanil) ⟨n, S, rfl, hS, nc, rfl⟩)) (fun z => nomatch z) fun _ H3 e3 => q .non _ H3 rfl (e12.trans e3) .non
theorem ok_told (D : Df K mg "told" s_told ["system", "asked"]) (B : Bi mg) (O_check_possible : Ok P w K mg base "check_possible" 7 ["system", "asked"] (spN R_poss)) (O_told_of : Ok P w K mg base "told_of" 6 ["system", "asked"] (spN R_told)) :
    Ok P w K mg base "told" 8 ["system", "asked"] (spN R_told) := by
  refine D.ok sc_told (fun vs H Q E h => spN_len (fun ds P ⟨_, _, _, e, _⟩ => by rw [e]; rfl) h) (fun f cdv A outer s H vs Q E hr h => ?_)
  obtain ⟨ds, P, hv, ⟨n, S, a, rfl, hS, nc, ha, sure, rfl⟩, q⟩ := h
  obtain ⟨v0, v1, rfl, h0, h1⟩ := hv.inv2
  refine ⟨_, (pss_cons (ps_expr (pe_callOk O_check_possible (hr.mono (by decide)) (by rfl) (pa_cons (pv 0) (pa_cons (pv 1) pa_nil))))
      (pss_one (ps_ret (pe_callOk O_told_of (hr.mono (by decide)) (by rfl) (pa_cons (pv 0) (pa_cons (pv 1) pa_nil)))))), ?_⟩
  refine xcall (R := R_poss) (E := E0) (d := .none) (σ := start N_told [v0, v1]) (xacons (xvar (i := 0) rfl h0) (xacons (xvar (i := 1) rfl h1) xanil)) ⟨n, S, a, rfl, hS, nc, ha, rfl⟩ H (Ex.refl _) _ fun _ H1 e1 _ => ?_
  exact e_retN (xcallN (xacons (xvar rfl (h0.mono (tx e1))) (xacons (xvar rfl (h1.mono (tx e1))) xanil)) ⟨n, S, a, rfl, hS, nc, ha, sure, rfl⟩) fun v d H2 pd e2 hd => q v d H2 pd (e1.trans e2) hd
end
end Kt
namespace Kt
open PySem PySem.Spec PyProof.Rows L2
open Evl (Ex Ev EvT EvO)
/-! ### the stream -/
/-- all stands but what lies at s -/
def Xb (s : Addr) (H H' : Hp) : Prop := ∀ b o, H b = some o → b ≠ s → H' b = some o
theorem Xb.refl (s : Addr) (H : Hp) : Xb s H H := fun _ _ h _ => h
theorem Xb.trans {s : Addr} {H H1 H2 : Hp} (a : Xb s H H1) (b : Xb s H1 H2) : Xb s H H2 := fun x o h n => b x o (a x o h n) n
theorem Xb.of {s : Addr} {H H' : Hp} (e : Ex H H') : Xb s H H' := fun b o h _ => e b o h
theorem Xb.set {s : Addr} {H : Hp} {o : HO} : Xb s H (upd H s o) := fun b _ h n => by rw [upd_ne n]; exact h
structure Strm (H : Hp) (s l : Addr) : Prop where
  ex : ∃ (ns : List Int) (c k : Int), H s = some (.lst [.ref l, .int c, .int k]) ∧ H l = some (.lst (ns.map V.int)) ∧ 0 ≤ k ∧ l ≠ s
theorem Strm.tx {H H' : Hp} {s l : Addr} (S : Strm H s l) (x : Xb s H H') : Tx H H' := fun a xs h => x a _ h fun e => by
  obtain ⟨ns, c, k, h1, _⟩ := S.ex
  rw [e, h1] at h
  cases h
theorem Strm.mono {H H' : Hp} {s l : Addr} (S : Strm H s l) (e : Ex H H') : Strm H' s l := by
  obtain ⟨ns, c, k, h1, h2, h3, h4⟩ := S.ex
  exact ⟨ns, c, k, e _ _ h1, e _ _ h2, h3, h4⟩
theorem Strm.ne {H : Hp} {s l p : Addr} (S : Strm H s l) (h : H p = none) : p ≠ s ∧ p ≠ l := by
  obtain ⟨ns, c, k, h1, h2, _⟩ := S.ex
  exact ⟨fun e => (by rw [e, h1] at h; cases h), fun e => (by rw [e, h2] at h; cases h)⟩
/-- one apart is changed -/
theorem Strm.upd {H : Hp} {s l p : Addr} {o : HO} (S : Strm H s l) (h : p ≠ s ∧ p ≠ l) : Strm (upd H p o) s l := by
  obtain ⟨ns, c, k, h1, h2, h3, h4⟩ := S.ex
  exact ⟨ns, c, k, by rw [upd_ne h.1.symm]; exact h1, by rw [upd_ne h.2.symm]; exact h2, h3, h4⟩
/-- what is new, changed -/
theorem Xb.mut {s p : Addr} {H H' : Hp} {o : HO} (x : Xb s H H') (n : H p = none) : Xb s H (L2.upd H' p o) := fun b z h k => by
  rw [upd_ne]
  · exact x b z h k
  · rintro rfl
    rw [n] at h
    cases h
/-! ### values, the heap as it was -/
def EvV (te : TE) (σ : L2.St) (H : Hp) (v : V) : Prop := ∀ Q : VK, Q v H → te σ H Q
def EtV (t : TT) (σ : L2.St) (H : Hp) (b : Bool) : Prop := ∀ Q : Bool → Hp → Prop, Q b H → t σ H Q
section
variable {K : PySem.W.Frag} {σ : L2.St} {H : Hp} {ta tb te : TE} {t : TT} {x y z v : V} {D : Ends} {tu tw tz : TS} {i j : Int}
theorem v_var {i : Nat} (h : σ[i]? = some (some v)) : EvV (tVar i) σ H v := fun _ q => ⟨v, h, q⟩
theorem v_c : EvV (tC v) σ H v := fun _ q => q
theorem v_op {r : R2} (ha : EvV ta σ H x) (hb : EvV tb σ H y) (h : ∀ Q : VK, Q z H → r x y H Q) : EvV (tOp r ta tb) σ H z := fun Q q => ha _ (hb _ (h Q q))
theorem v_I0 {g : Int → Int → V} (ha : EvV ta σ H (.int i)) (hb : EvV tb σ H (.int j)) : EvV (tOp (rI0 g) ta tb) σ H (g i j) := v_op ha hb fun _ q => ⟨i, j, rfl, rfl, q⟩
theorem v_I {C : Int → Int → Prop} {g : Int → Int → V} (ha : EvV ta σ H (.int i)) (hb : EvV tb σ H (.int j)) (c : C i j) : EvV (tOp (rI C g) ta tb) σ H (g i j) := v_op ha hb fun _ q => ⟨i, j, rfl, rfl, c, q⟩
theorem v_ixL {a : Addr} {xs : List V} (ha : EvV ta σ H (.ref a)) (hb : EvV tb σ H (.int i)) (h : H a = some (.lst xs)) (hi : atI xs i = some v) : EvV (tOp (rIxL K) ta tb) σ H v := v_op ha hb fun _ q => ⟨a, xs, i, v, rfl, rfl, SqL.of h, hi, q⟩
theorem v_lenL {a : Addr} {xs : List V} (ha : EvV ta σ H (.ref a)) (h : H a = some (.lst xs)) : EvV (tCB (fun xs H Q => ∃ p ys, xs = [V.ref p] ∧ (SqL K H p ys ∨ SqT K H p ys) ∧ Q (.int ys.length) H) (tCons ta tNil)) σ H (.int (xs.length : Int)) := fun Q q => ha _ ⟨a, xs, rfl, .inl (SqL.of h), q⟩
theorem v_abs (ha : EvV ta σ H (.int i)) : EvV (tCB (fun xs H Q => ∃ i : Int, xs = [V.int i] ∧ Q (.int (if i < 0 then -i else i)) H) (tCons ta tNil)) σ H (.int (if i < 0 then -i else i)) := fun Q q => ha _ ⟨i, rfl, q⟩
theorem v_int1 (ha : EvV ta σ H (.int i)) : EvV (tCB (fun xs H Q => (∃ i : Int, xs = [V.int i] ∧ Q (.int i) H) ∨ ∃ k : Bool, xs = [V.bl k] ∧ Q (.int (if k then 1 else 0)) H) (tCons ta tNil)) σ H (.int i) := fun Q q => ha _ (.inl ⟨i, rfl, q⟩)
theorem v_eqI (ha : EvV ta σ H (.int i)) (hb : EvV tb σ H (.int j)) : EvV (tOp rEq ta tb) σ H (.bl (decide (i = j))) := v_op ha hb fun Q q => ⟨rfl, by
  have z : decide (V.int i = V.int j) = decide (i = j) := by by_cases h : i = j <;> simp [h]
  rw [z]
  exact q⟩
theorem v_T {b : Bool} (h : EvV te σ H (.bl b)) : EtV (tTest te) σ H b := fun _ q => h _ ⟨b, rfl, q⟩
theorem v_if {b : Bool} (h : EtV t σ H b) (h1 : b = true → tu { D with nx := tz D } σ H) (h2 : b = false → tw { D with nx := tz D } σ H) : tSeq (tIfS t tu tw) tz D σ H := h _ (by
  cases b with
  | true => exact h1 rfl
  | false => exact h2 rfl)
theorem v_ifE {b : Bool} (h : EtV t σ H b) (h1 : b = true → tu D σ H) (h2 : b = false → tw D σ H) : tIfS t tu tw D σ H := h _ (by
  cases b with
  | true => exact h1 rfl
  | false => exact h2 rfl)
theorem v_set {i : Nat} (h : EvV te σ H v) (k : tz D (σ.set i (some v)) H) : tSeq (tAsg te (gName i)) tz D σ H := h _ k
theorem v_setE {i : Nat} (h : EvV te σ H v) (k : D.nx (σ.set i (some v)) H) : tAsg te (gName i) D σ H := h _ k
theorem v_sub {te to ti : TE} {p : Addr} {xs : List V} {n : Nat} (h : EvV te σ H v) (ho : EvV to σ H (.ref p)) (hi : EvV ti σ H (.int i)) (hp : H p = some (.lst xs)) (hn : ixN xs.length i = some n) (k : tz D σ (upd H p (.lst (xs.set n v)))) : tSeq (tAsg te (gSub to ti rSetL)) tz D σ H :=
  h _ (ho _ (hi _ ⟨p, xs, i, n, rfl, rfl, hp, hn, k⟩))
theorem v_subE {te to ti : TE} {p : Addr} {xs : List V} {n : Nat} (h : EvV te σ H v) (ho : EvV to σ H (.ref p)) (hi : EvV ti σ H (.int i)) (hp : H p = some (.lst xs)) (hn : ixN xs.length i = some n) (k : D.nx σ (upd H p (.lst (xs.set n v)))) : tAsg te (gSub to ti rSetL) D σ H :=
  h _ (ho _ (hi _ ⟨p, xs, i, n, rfl, rfl, hp, hn, k⟩))
theorem v_ifSet {i : Nat} {b : Bool} (h : EtV t σ H b) (h1 : b = true → ∃ n : Int, EvV te σ H (.int n)) (k : ∀ σ', (σ' = σ ∨ ∃ n : Int, σ' = σ.set i (some (.int n))) → tz D σ' H) : tSeq (tIfS t (tAsg te (gName i)) tNext) tz D σ H := v_if h (fun hb => by
  obtain ⟨n, hn⟩ := h1 hb
  exact v_setE hn (k _ (.inr ⟨n, rfl⟩))) fun _ => k _ (.inl rfl)
theorem v_ret (h : EvV te σ H v) (k : D.rt v H) : tRet te D σ H := h _ k
end
section
variable {P : Program} {w : World} {K : PySem.W.Frag} {mg : Str → Option Value} {base : Heap}
/-- _law_stream: a copy of the script, two zeros -/
def spStream (K : PySem.W.Frag) : Sp := fun vs H Q _ => ∃ (a : Addr) (ns : List Int), vs = [.ref a] ∧ SqL K H a (ns.map V.int) ∧ ∀ s l H', H s = none → Ex H H' → Strm H' s l → Q (.ref s) H'
theorem ok_law_stream (D : Df K mg "_law_stream" s_law_stream ["_law_script"]) (B : Bi mg) : Ok P w K mg base "_law_stream" 1 ["_law_script"] (spStream K) := by
  refine D.ok sc_law_stream (fun vs H Q E h => by obtain ⟨a, ns, rfl, _⟩ := h; rfl) (fun f cdv A outer s H vs Q E hr h => ?_)
  obtain ⟨a, ns, rfl, isL, q⟩ := h
  refine ⟨_, (pss_one (ps_ret (pe_lst (pa_cons (pe_callTy call_list_of (by rfl) B.list (by decide +kernel) (pa_cons (pv 0) pa_nil)) (pa_cons pe_int (pa_cons pe_int pa_nil)))))), ?_⟩
  refine ⟨.ref a, rfl, a, ns.map V.int, rfl, .inl isL, fun l nl => ⟨by show 3 ≤ sizeLine; decide, fun p np => ?_⟩⟩
  have nlp : l ≠ p := ne_of_none (H := upd H l (.lst (ns.map V.int))) upd_same np
  have np' : H p = none := Evl.fresh_back (Ex.new nl) np
  exact q p l _ np' ((Ex.new nl).trans (Ex.new np)) ⟨ns, 0, 0, upd_same, by rw [upd_ne nlp]; exact upd_same, by decide, nlp⟩
/-- _law_next: an int below many -/
def spNext : Sp := fun vs H Q _ => ∃ s l m, vs = [.ref s, .int m] ∧ Strm H s l ∧ 0 < m ∧ m ≤ 100000 ∧ ∀ d H', 0 ≤ d → d < m → Xb s H H' → Strm H' s l → Q (.int d) H'
theorem at3 {α : Type} {a b c : α} : atI [a, b, c] 0 = some a ∧ atI [a, b, c] 1 = some b ∧ atI [a, b, c] 2 = some c := ⟨rfl, rfl, rfl⟩
theorem atI_in {α : Type} {xs : List α} {k : Int} (h0 : 0 ≤ k) (h : k < xs.length) : ∃ x, atI xs k = some x ∧ x ∈ xs := by
  have hl : k.toNat < xs.length := by omega
  refine ⟨xs[k.toNat], ?_, List.getElem_mem hl⟩
  unfold atI ixN
  rw [if_pos h0, if_pos h]
  exact List.getElem?_eq_getElem hl
theorem ok_law_next (D : Df K mg "_law_next" s_law_next ["_law_stream_here", "_law_many"]) (B : Bi mg) : Ok P w K mg base "_law_next" 1 ["_law_stream_here", "_law_many"] spNext := by
  refine D.ok sc_law_next (fun vs H Q E h => by obtain ⟨a, ns, _, rfl, _⟩ := h; rfl) (fun f cdv A outer s H vs Q E hr h => ?_)
  obtain ⟨a, l, m, rfl, S, m0, m1, q⟩ := h
  refine ⟨_, (pss_cons (ps_if (pt_cmpR op_eq (pe_ix ix_list (pv 0) pe_int (fun _ _ => rfl)) pe_int (nomark _)) (pss_cons (ps_set (i := 3) sc_law_next.nd rfl (.inl rfl) (pe_ix ix_list (pv 0) pe_int (fun _ _ => rfl)))
      (pss_cons (ps_set (i := 4) sc_law_next.nd rfl (.inl rfl) (pe_op op_add pe_int (pv 3)))
      (pss_cons (ps_if (pt_cmpR op_lt (pv 3) (pe_callB call_len_seq (by rfl) B.len (by decide +kernel) (pa_cons (pe_ix ix_list (pv 0) pe_int (fun _ _ => rfl)) pa_nil)) (nomark _)) (pss_one (ps_set (i := 4) sc_law_next.nd rfl (.inl rfl) (pe_callB call_abs (by rfl) B.abs (by decide +kernel) (pa_cons (pe_ix ix_list (pe_ix ix_list (pv 0) pe_int (fun _ _ => rfl)) (pv 3) (fun _ _ => rfl)) pa_nil)))) pss_nil)
      (pss_cons (ps_if (pt_cmpR op_lt (pv 4) (pe_op op_pow pe_int pe_int) (nomark _)) (pss_cons (ps_set (i := 4) sc_law_next.nd rfl (.inl rfl) (pe_op op_modN (pe_callTy call_int1 (by rfl) B.int (by decide +kernel) (pa_cons (pe_op op_add (pe_op op_add (pe_op op_mul (pv 4) pe_int) (pe_op op_mul (pv 3) pe_int)) pe_int) pa_nil)) pe_int))
      (pss_one (ps_set (i := 4) sc_law_next.nd rfl (.inl rfl) (pe_op op_add (pe_op op_mul (pe_op op_modN (pe_callTy call_int1 (by rfl) B.int (by decide +kernel) (pa_cons (pe_op op_add (pe_op op_mul (pv 4) pe_int) pe_int) pa_nil)) pe_int) pe_int) (pv 4))))) pss_nil)
      (pss_cons (ps_asg (pv 4) (pg_sub (pv 0) pe_int set_list))
      (pss_one (ps_asg (pe_op op_add (pv 3) pe_int) (pg_sub (pv 0) pe_int set_list)))))))) pss_nil)
      (pss_cons (ps_set (i := 2) sc_law_next.nd rfl (.inl rfl) (pe_op op_modN (pe_callTy call_int1 (by rfl) B.int (by decide +kernel) (pa_cons (pe_ix ix_list (pv 0) pe_int (fun _ _ => rfl)) pa_nil)) (pv 1)))
      (pss_cons (ps_asg (pe_op op_fdivN (pe_ix ix_list (pv 0) pe_int (fun _ _ => rfl)) (pv 1)) (pg_sub (pv 0) pe_int set_list))
      (pss_one (ps_ret (pv 2)))))), ?_⟩
  have tail : ∀ (D : Ends) (v3 v4 : Option V) (H' : Hp), D.rt = Q → Xb a H H' → Strm H' a l → tSeq (tAsg (tOp (rI (fun _ j => j ≠ 0) fun i j => .int (i.fmod j)) (tCB (fun xs H Q => (∃ i : Int, xs = [V.int i] ∧ Q (.int i) H) ∨ ∃ k : Bool, xs = [V.bl k] ∧ Q (.int (if k then 1 else 0)) H) (tCons (tOp (rIxL K) (tVar 0) (tC (.int 1))) tNil)) (tVar 1)) (gName 2))
      (tSeq (tAsg (tOp (rI CDivN fun i j => .int (i.fdiv j)) (tOp (rIxL K) (tVar 0) (tC (.int 1))) (tVar 1)) (gSub (tVar 0) (tC (.int 1)) rSetL)) (tRet (tVar 2))) D [some (.ref a), some (.int m), none, v3, v4] H' := by
    intro D v3 v4 H' hD x S'
    obtain ⟨ns, c, k, h1, h2, h3, h4⟩ := S'.ex
    refine v_set (v_I (v_int1 (v_ixL (v_var rfl) v_c h1 at3.2.1)) (v_var rfl) (by omega)) ?_
    refine v_sub (v_I (v_ixL (v_var rfl) v_c h1 at3.2.1) (v_var rfl) ⟨by omega, by omega⟩) (v_var rfl) v_c h1 rfl ?_
    refine v_ret (v_var rfl) ?_
    rw [hD]
    refine q _ _ (Int.fmod_nonneg_of_pos _ m0) (Int.fmod_lt_of_pos _ m0) (x.trans Xb.set) ⟨ns, _, k, upd_same, by rw [upd_ne h4]; exact h2, h3, h4⟩
  obtain ⟨ns, c, k, h1, h2, h3, h4⟩ := S.ex
  refine v_if (v_T (v_eqI (v_ixL (v_var rfl) v_c h1 at3.2.1) v_c)) (fun _ => ?_) (fun _ => tail _ _ _ _ rfl (Xb.refl _ _) S)
  refine v_set (v_ixL (v_var rfl) v_c h1 at3.2.2) (v_set (v_I0 v_c (v_var rfl)) ?_)
  have fin : ∀ (cell : Int) (D : Ends) (tz : TS), (∀ H', Xb a H H' → Strm H' a l → tz D [some (.ref a), some (.int m), none, some (.int k), some (.int cell)] H') → 
      tSeq (tAsg (tVar 4) (gSub (tVar 0) (tC (.int 1)) rSetL)) (tAsg (tOp (rI0 fun i j => .int (i + j)) (tVar 3) (tC (.int 1))) (gSub (tVar 0) (tC (.int 2)) rSetL)) { D with nx := tz D } [some (.ref a), some (.int m), none, some (.int k), some (.int cell)] H := by
    intro cell D tz hk
    refine v_sub (v_var rfl) (v_var rfl) v_c h1 rfl ?_
    refine v_subE (v_I0 (v_var rfl) v_c) (v_var rfl) v_c upd_same rfl ?_
    refine hk _ (Xb.set.trans Xb.set) ⟨ns, cell, k + 1, upd_same, ?_, by omega, h4⟩
    rw [upd_ne h4, upd_ne h4]
    exact h2
  refine v_ifSet (v_T (v_I0 (v_var rfl) (v_lenL (v_ixL (v_var rfl) v_c h1 at3.1) h2))) (fun hb => ?_) fun σ' hσ => ?_
  · rw [List.length_map] at hb
    obtain ⟨x, hx, mx⟩ := atI_in (xs := ns.map V.int) h3 (by rw [List.length_map]; exact of_decide_eq_true hb)
    obtain ⟨y, _, rfl⟩ := List.mem_map.mp mx
    exact ⟨_, v_abs (v_ixL (v_ixL (v_var rfl) v_c h1 at3.1) (v_var rfl) h2 hx)⟩
  · obtain ⟨cell, rfl⟩ : ∃ cell : Int, σ' = [some (.ref a), some (.int m), none, some (.int k), some (.int cell)] := by
      rcases hσ with e | ⟨n, e⟩
      · exact ⟨_, e⟩
      · exact ⟨n, e⟩
    refine v_if (v_T (v_I0 (v_var rfl) (v_I v_c v_c ⟨by decide, by decide, by decide⟩))) (fun _ => ?_) (fun _ => fin cell _ _ fun H' x S' => tail _ _ _ _ rfl x S')
    refine v_set (v_I (v_int1 (v_I0 (v_I0 (v_I (v_var rfl) v_c (.inr ⟨by decide, by decide⟩)) (v_I (v_var rfl) v_c (.inr ⟨by decide, by decide⟩))) v_c)) v_c (by decide)) ?_
    refine v_setE (v_I0 (v_I (v_I (v_int1 (v_I0 (v_I (v_var rfl) v_c (.inr ⟨by decide, by decide⟩)) v_c)) v_c (by decide)) v_c (.inr ⟨by decide, by decide⟩)) (v_var rfl)) ?_
    exact fin _ _ _ fun H' x S' => tail _ _ _ _ rfl x S'
end
end Kt
namespace Kt
open PySem PySem.Spec PyProof.Rows L2
open Evl (Ex Ev EvT EvO)
/-- the ints below n -/
def rgI (n : Nat) : List Int := (List.range n).map fun i : Nat => (i : Int)
theorem rgI_len (n : Nat) : (rgI n).length = n := by unfold rgI; rw [List.length_map, List.length_range]
theorem rgI_nd (n : Nat) : (rgI n).Nodup := by
  unfold rgI
  exact List.pairwise_map.mpr (List.Pairwise.imp (fun h e => h (Int.ofNat.inj e)) List.nodup_range)
theorem rgI_mem {n : Nat} {x : Int} : x ∈ rgI n ↔ 0 ≤ x ∧ x < n := by
  unfold rgI
  rw [List.mem_map]
  constructor
  · rintro ⟨i, hi, rfl⟩
    have := List.mem_range.mp hi
    omega
  · rintro ⟨h0, h1⟩
    exact ⟨x.toNat, List.mem_range.mpr (by omega), by omega⟩
theorem rgV_I (n : Int) : rgV 0 n = (rgI n.toNat).map V.int := by
  unfold rgV rgI
  rw [List.map_map, Int.sub_zero]
  apply List.map_congr_left
  intro i _
  show V.int (0 + (i : Int)) = V.int (i : Int)
  rw [Int.zero_add]
theorem take_one : ∀ {l : List Int} {j : Nat} (h : j < l.length), (l[j] :: l.eraseIdx j).Perm l
  | a :: l, 0, _ => List.Perm.refl _
  | a :: l, j + 1, h => (List.Perm.swap a _ _).trans ((take_one (l := l) (j := j) (by simpa using h)).cons a)
theorem map_erase {f : Int → V} : ∀ {l : List Int} {j : Nat}, (l.map f).eraseIdx j = (l.eraseIdx j).map f
  | [], _ => rfl
  | _ :: _, 0 => rfl
  | a :: l, j + 1 => congrArg (f a :: ·) (map_erase (l := l) (j := j))
section
variable {P : Program} {w : World} {K : PySem.W.Frag} {mg : Str → Option Value} {base : Heap}
def spShuf : Sp := fun vs H Q _ => ∃ s l n, vs = [.ref s, .int n] ∧ Strm H s l ∧ 0 ≤ n ∧ n ≤ 1000 ∧ ∀ (p : Addr) (ns : List Int) (H' : Hp), ns.Perm (rgI n.toNat) → H p = none → H' p = some (.lst (ns.map V.int)) → Xb s H H' → Strm H' s l → Q (.ref p) H'
theorem ok_law_shuffled (D : Df K mg "_law_shuffled" s_law_shuffled ["_law_stream_here", "_law_many"]) (B : Bi mg) (O_law_next : Ok P w K mg base "_law_next" 1 ["_law_stream_here", "_law_many"] spNext) :
    Ok P w K mg base "_law_shuffled" 2 ["_law_stream_here", "_law_many"] spShuf := by
  refine D.ok sc_law_shuffled (fun vs H Q E h => by obtain ⟨a, ns, _, rfl, _⟩ := h; rfl) (fun f cdv A outer s H vs Q E hr h => ?_)
  obtain ⟨a, l, n, rfl, S, n0, n1, q⟩ := h
  refine ⟨_, (pss_cons (ps_set (i := 2) sc_law_shuffled.nd rfl (.inl rfl) (pe_listRg rfl (by rfl) B.list (prg_1 (by rfl) B.range (pv 1))))
      (pss_cons (ps_set (i := 3) sc_law_shuffled.nd rfl (.inl rfl) (pe_lst pa_nil))
      (pss_cons (ps_for PassesOwn.never rfl (pi_range1 rfl B.range (pa_cons (pv 1) pa_nil)) (pg_name (i := 4) sc_law_shuffled.nd rfl (.inl rfl)) (pss_one (ps_expr (pe_bm PySem.F.plainAttrs_list PySem.F.slot_list_append PySem.F.type_list_append mt_append (pv 3) (pa_cons (pe_bm PySem.F.plainAttrs_list PySem.F.slot_list_pop PySem.F.type_list_pop mt_popAt (pv 2) (pa_cons (pe_callOk O_law_next (hr.mono (by decide)) (by rfl) (pa_cons (pv 0) (pa_cons (pe_callB call_len_seq (by rfl) B.len (by decide +kernel) (pa_cons (pv 2) pa_nil)) pa_nil))) pa_nil)) pa_nil)))))
      (pss_one (ps_ret (pv 3)))))), ?_⟩
  refine ⟨.int n, rfl, n, rfl, ⟨by omega, by omega, by omega, by omega, by omega⟩, fun L nL => ?_⟩
  rw [rgV_I]
  refine ⟨by show 0 ≤ sizeLine; decide, fun F nF => ?_⟩
  have SL := S.ne nL
  have hFL : L ≠ F := ne_of_none (H := upd H L (.lst ((rgI n.toNat).map V.int))) upd_same nF
  have nF0 : H F = none := Evl.fresh_back (Ex.new nL) nF
  have SF := S.ne nF0
  refine ⟨.int n, rfl, n, rfl, by omega, by omega, for_range (lo := 0) (n := n.toNat) (fun i σ' H' => ∃ (v4 : Option V) (ls fs : List Int), σ' = [some (.ref a), some (.int n), some (.ref L), some (.ref F), v4] ∧ Xb a H H' ∧ Strm H' a l ∧ H' L = some (.lst (ls.map V.int)) ∧ H' F = some (.lst (fs.map V.int)) ∧ (fs ++ ls).Perm (rgI n.toNat) ∧ fs.length = i)
    ⟨none, rgI n.toNat, [], rfl, ?_, ?_, ?_, upd_same, List.Perm.refl _, rfl⟩ (fun i σ' H' hi hp => ?_) (fun σ' H' hp => ?_)⟩
  · exact Xb.of ((Ex.new nL).trans (Ex.new nF))
  · exact (S.upd SL).upd SF
  · rw [upd_ne hFL]; exact upd_same
  · obtain ⟨v4, ls, fs, rfl, x, S', hL, hF, pm, hl⟩ := hp
    have len : fs.length + ls.length = n.toNat := by
      have e := pm.length_eq
      rw [List.length_append, rgI_len] at e
      exact e
    refine ⟨.ref F, rfl, .inl ⟨rfl, _, SqL.of hF⟩, .ref L, rfl, .inl ⟨rfl, _, SqL.of hL⟩, .ref a, rfl, .ref L, rfl, L, _, rfl, .inl (SqL.of hL), a, l, ((ls.map V.int).length : Int), rfl, S', by rw [List.length_map]; omega, by rw [List.length_map]; omega, fun d H2 d0 d1 x2 S2 => ?_⟩
    rw [List.length_map] at d1
    obtain ⟨j, rfl⟩ := Int.eq_ofNat_of_zero_le d0
    have hj : j < ls.length := by omega
    have hL2 := x2 L _ hL SL.1
    have hF2 := x2 F _ hF SF.1
    refine ⟨L, ls.map V.int, j, j, .int ls[j], rfl, rfl, hL2, by omega, by omega, (ixN_seq (Evl.ixN_nat (n := (ls.map V.int).length) (j := j) (by rw [List.length_map]; exact hj))).1, by rw [List.getElem?_map, List.getElem?_eq_getElem hj]; rfl, ?_⟩
    refine ⟨F, fs.map V.int, .int ls[j], rfl, rfl, by rw [upd_ne hFL.symm]; exact hF2, Evl.sz_lt (by rw [List.length_map]; omega), ?_⟩
    refine ⟨_, ls.eraseIdx j, fs ++ [ls[j]], rfl, ((x.trans x2).mut nL).mut nF0, (S2.upd SL).upd SF, ?_, ?_, ?_, ?_⟩
    · rw [upd_ne hFL, upd_same, map_erase]
    · rw [upd_same, List.map_append]; rfl
    · rw [List.append_assoc]
      exact (List.Perm.append_left fs (take_one hj)).trans pm
    · rw [List.length_append, hl]; rfl
  · obtain ⟨v4, ls, fs, rfl, x, S', hL, hF, pm, hl⟩ := hp
    refine ⟨.ref F, rfl, q F fs H' ?_ nF0 hF x S'⟩
    have e := pm.length_eq
    rw [List.length_append, rgI_len] at e
    have : ls = [] := List.eq_nil_of_length_eq_zero (by omega)
    rw [this, List.append_nil] at pm
    exact pm
end
end Kt
namespace Kt
open PySem PySem.Spec PyProof.Rows L2
open Evl (Ex Ev EvT EvO)
theorem rgI_inc (n : Nat) : (rgI n).Pairwise (· < ·) := by
  unfold rgI
  exact List.pairwise_map.mpr (List.Pairwise.imp (fun h => Int.ofNat_lt.mpr h) List.pairwise_lt_range)
theorem rgI_succ (n : Nat) : rgI (n + 1) = rgI n ++ [(n : Int)] := by
  unfold rgI
  rw [List.range_succ, List.map_append]; rfl
theorem setOk_sub {n : Int} {ns : List Int} (h8 : n ≤ 8) (h : ns.Sublist (rgI n.toNat)) : SetOk n ns := by
  refine ⟨List.Pairwise.sublist h (rgI_inc _), fun e m => ?_, ?_⟩
  · have q := rgI_mem.mp (h.subset m)
    omega
  · have q := h.length_le
    rw [rgI_len] at q
    omega
theorem inc_of {ns : List Int} (h : ns.Pairwise (· ≤ ·)) (nd : ns.Nodup) : ns.Pairwise (· < ·) := by
  induction ns with
  | nil => exact .nil
  | cons a r ih =>
    rw [List.pairwise_cons] at h
    rw [List.nodup_cons] at nd
    refine List.pairwise_cons.mpr ⟨fun b m => ?_, ih h.2 nd.2⟩
    have h1 := h.1 b m
    have h2 : a ≠ b := fun e => nd.1 (e ▸ m)
    omega
theorem setOk_cut {n : Int} {row cut ns : List Int} (h8 : n ≤ 8) (h : row.Perm (rgI n.toNat)) (hc : cut.Sublist row) (hp : ns.Perm cut) (hs : ns.Pairwise (· ≤ ·)) : SetOk n ns := by
  have nd : row.Nodup := h.nodup_iff.mpr (rgI_nd _)
  have nd2 : ns.Nodup := hp.nodup_iff.mpr (List.Pairwise.sublist hc nd)
  refine ⟨inc_of hs nd2, fun e m => ?_, ?_⟩
  · have q := rgI_mem.mp (h.mem_iff.mp (hc.subset (hp.mem_iff.mp m)))
    omega
  · have q1 := hp.length_eq
    have q2 := hc.length_le
    have q3 := h.length_eq
    rw [rgI_len] at q3
    omega
theorem cut_map {row : List Int} (lo hi : Option Int) : ∃ cut : List Int, cutV (row.map V.int) lo hi = cut.map V.int ∧ cut.Sublist row := by
  unfold cutV
  refine ⟨_, by rw [← List.map_drop, ← List.map_take], ?_⟩
  exact (List.take_sublist _ _).trans (List.drop_sublist _ _)
section
variable {K : PySem.W.Frag} {σ : L2.St} {H : Hp}
theorem z_int {te : TE} {tz : TS} {D : Ends} {i : Nat} (Pp : Int → Hp → Prop) (h : ∀ Q : VK, (∀ n H1, Pp n H1 → Q (.int n) H1) → te σ H Q) (k : ∀ n H1, Pp n H1 → tz D (σ.set i (some (.int n))) H1) : tSeq (tAsg te (gName i)) tz D σ H := h _ k
/-- a sorted slice of a row between two drawn ends -/
theorem xslice {r : Addr} {row : List Int} {n lo hi : Int} {ir il ih : Nat} (h8 : n ≤ 8) (h1 : σ[ir]? = some (some (.ref r))) (h2 : σ[il]? = some (some (.int lo))) (h3 : σ[ih]? = some (some (.int hi))) (hr : H r = some (.lst (row.map V.int))) (hp : row.Perm (rgI n.toNat)) :
    EvN (tCB (fun xs H Q => ∃ p ys, xs = [V.ref p] ∧ ((SqL K H p ys ∧ ∀ l, H l = none → Q (.ref l) (upd H l (.tup ys))) ∨ (SqT K H p ys ∧ Q (.ref p) H))) (tCons (tCB (rSortedI K) (tCons (tSl (rSlL K) (tVar ir)
      (tPart (tCB (fun xs H Q => ∃ i j : Int, xs = [.int i, .int j] ∧ Q (.int (if j < i then j else i)) H) (tCons (tVar il) (tCons (tVar ih) tNil))))
      (tPart (tCB (fun xs H Q => ∃ i j : Int, xs = [.int i, .int j] ∧ Q (.int (if j > i then j else i)) H) (tCons (tVar il) (tCons (tVar ih) tNil))))) tNil)) tNil)) σ H (fun d => ∃ ns, d = sD ns ∧ SetOk n ns) := fun H1 e Q q => by
  obtain ⟨cut, hcut, hsub⟩ := cut_map (row := row) (some (if hi < lo then hi else lo)) (some (if hi > lo then hi else lo))
  refine ⟨.ref r, h1, .int lo, h2, .int hi, h3, lo, hi, rfl, _, rfl, .int lo, h2, .int hi, h3, lo, hi, rfl, _, rfl, r, row.map V.int, rfl, SqL.of (e r _ hr), fun p np => ?_⟩
  rw [hcut]
  refine ⟨p, cut, rfl, SqL.of upd_same, fun ns p2 pm srt np2 => ?_⟩
  refine ⟨p2, _, rfl, .inl ⟨SqL.of upd_same, fun T nT => ?_⟩⟩
  exact q _ (sD ns) _ ⟨ns, rfl, setOk_cut h8 hp hsub pm srt⟩ (((Ex.new np).trans (Ex.new np2)).trans (Ex.new nT)) (.tup upd_same DtAll.of_ints)
end
section
variable {P : Program} {w : World} {K : PySem.W.Frag} {mg : Str → Option Value} {base : Heap}
theorem Strm.neI {H : Hp} {s l r : Addr} {row : List Int} (S : Strm H s l) (h : H r = some (.lst (row.map V.int))) : r ≠ s := fun e => by
  obtain ⟨ns, c, k, h1, _⟩ := S.ex
  rw [e, h1] at h
  cases row with
  | nil => cases h
  | cons a r => injection h with h; injection h with h; injection h with h; cases h
def spSet : Sp := fun vs H Q _ => ∃ (s l r : Addr) (row : List Int) (n : Int), vs = [.ref s, .ref r] ∧ Strm H s l ∧ H r = some (.lst (row.map V.int)) ∧ n ≤ 8 ∧ row.Perm (rgI n.toNat) ∧ ∀ v ns H', SetOk n ns → Dt H' v (sD ns) → Xb s H H' → Strm H' s l → Q v H'
theorem ok_law_set (D : Df K mg "_law_set" s_law_set ["_law_stream_here", "_law_row"]) (B : Bi mg) (O_law_next : Ok P w K mg base "_law_next" 1 ["_law_stream_here", "_law_many"] spNext) :
    Ok P w K mg base "_law_set" 2 ["_law_stream_here", "_law_row"] spSet := by
  refine D.ok sc_law_set (fun vs H Q E h => by obtain ⟨a, ns, _, _, _, rfl, _⟩ := h; rfl) (fun f cdv A outer s H vs Q E hr h => ?_)
  obtain ⟨a, l, r, row, n, rfl, S, hR, h8, hp, q⟩ := h
  have rlen : row.length = n.toNat := by rw [hp.length_eq, rgI_len]
  have hra := S.neI hR
  refine ⟨_, (pss_cons (ps_if (pt_cmpR op_eq (pe_callOk O_law_next (hr.mono (by decide)) (by rfl) (pa_cons (pv 0) (pa_cons pe_int pa_nil))) pe_int (nomark _)) (pss_one (ps_ret (pe_callTy call_tuple_of (by rfl) B.tuple (by decide +kernel) (pa_cons (pe_lc (own := [("_law_one", 4)]) (g := gName 4) rfl sc_law_set.nd (pi_range1 rfl B.range (pa_cons (pe_callB call_len_seq (by rfl) B.len (by decide +kernel) (pa_cons (pv 1) pa_nil)) pa_nil)) (blkOk_by (N := N_law_set) (sc := defScope s_law_set) (by decide +kernel)) (fun _ _ _ _ _ => (pg_name (i := 4) sc_law_set.nd rfl (.inl rfl))) (fun _ _ _ _ _ => pts_one (pt_cmpR op_eq (pe_callOk O_law_next (hr.mono (by decide)) (by rfl) (pa_cons (pv 0) (pa_cons pe_int pa_nil))) pe_int (nomark _))) (fun _ _ _ _ _ => (pv 4))) pa_nil)))) pss_nil)
      (pss_cons (ps_set (i := 2) sc_law_set.nd rfl (.inl rfl) (pe_callOk O_law_next (hr.mono (by decide)) (by rfl) (pa_cons (pv 0) (pa_cons (pe_op op_add (pe_callB call_len_seq (by rfl) B.len (by decide +kernel) (pa_cons (pv 1) pa_nil)) pe_int) pa_nil))))
      (pss_cons (ps_set (i := 3) sc_law_set.nd rfl (.inl rfl) (pe_callOk O_law_next (hr.mono (by decide)) (by rfl) (pa_cons (pv 0) (pa_cons (pe_op op_add (pe_callB call_len_seq (by rfl) B.len (by decide +kernel) (pa_cons (pv 1) pa_nil)) pe_int) pa_nil))))
      (pss_one (ps_ret (pe_callTy call_tuple_of (by rfl) B.tuple (by decide +kernel) (pa_cons (pe_callB cr_sortedI (by rfl) B.sorted (by decide +kernel) (pa_cons (pe_slice sl_list (pv 1) (po_some (pe_callB (call_min2 rfl) (by rfl) B.min (by decide +kernel) (pa_cons (pv 2) (pa_cons (pv 3) pa_nil)))) (po_some (pe_callB (call_max2 rfl) (by rfl) B.max (by decide +kernel) (pa_cons (pv 2) (pa_cons (pv 3) pa_nil))))) pa_nil)) pa_nil))))))), ?_⟩
  refine ⟨.ref a, rfl, a, l, 4, rfl, S, by decide, by decide, fun d H1 d0 d1 x1 S1 => ⟨rfl, decide (V.int d = V.int 0), rfl, ?_⟩⟩
  have hR1 := x1 r _ hR hra
  cases decide (V.int d = V.int 0) with
  | true =>
    refine iteT ?_
    refine ⟨.ref r, rfl, r, _, rfl, .inl (SqL.of hR1), ((row.map V.int).length : Int), rfl, by rw [List.length_map]; omega, by rw [List.length_map]; omega, fun L nL => ?_⟩
    have SL := S1.ne nL
    refine lc_range (lo := 0) (n := ((row.map V.int).length : Int).toNat) (fun i H' => Xb a H1 H' ∧ Strm H' a l ∧ ∃ ns : List Int, H' L = some (.lst (ns.map V.int)) ∧ ns.Sublist (rgI i)) ⟨Xb.of (Ex.new nL), S1.upd SL, [], upd_same, List.nil_sublist _⟩ (fun i H' hi hc => ⟨rfl, ?_⟩) fun H' hc => ?_
    · obtain ⟨x2, S2, ns, hL, hs⟩ := hc
      refine ⟨.ref a, rfl, a, l, 2, rfl, S2, by decide, by decide, fun d H3 d0 d1 x3 S3 => ⟨rfl, decide (V.int d = V.int 1), rfl, ?_⟩⟩
      have hL3 := x3 L _ hL SL.1
      have hil : i ≤ 8 := by
        rw [List.length_map, Int.toNat_natCast] at hi
        omega
      have hnl := hs.length_le
      rw [rgI_len] at hnl
      cases decide (V.int d = V.int 1) with
      | true =>
        refine iteT ⟨.int (0 + (i : Int)), rfl, ns.map V.int, hL3, Evl.sz_lt (by rw [List.length_map]; omega), (x2.trans x3).mut nL, S3.upd SL, ns ++ [(i : Int)], ?_, ?_⟩
        · rw [upd_same, List.map_append, Int.zero_add]; rfl
        · rw [rgI_succ]
          exact hs.append (List.Sublist.refl _)
      | false =>
        refine iteF ⟨x2.trans x3, S3, ns, hL3, ?_⟩
        rw [rgI_succ]
        exact hs.trans (List.sublist_append_left _ _)
    · obtain ⟨x2, S2, ns, hL, hs⟩ := hc
      rw [List.length_map, Int.toNat_natCast, rlen] at hs
      refine ⟨L, _, rfl, .inl ⟨SqL.of hL, fun T nT => ?_⟩⟩
      exact q _ ns _ (setOk_sub h8 hs) (.tup upd_same DtAll.of_ints) ((x1.trans x2).trans (Xb.of (Ex.new nT))) (S2.mono (Ex.new nT))
  | false =>
    refine iteF ?_
    refine ⟨.ref a, rfl, .ref r, rfl, r, _, rfl, .inl (SqL.of hR1), _, _, rfl, rfl, a, l, ((row.map V.int).length : Int) + 1, rfl, S1, by omega, by rw [List.length_map]; omega, fun lo H2 _ _ x2 S2 => ?_⟩
    have hR2 := x2 r _ hR1 hra
    refine ⟨.ref a, rfl, .ref r, rfl, r, _, rfl, .inl (SqL.of hR2), _, _, rfl, rfl, a, l, ((row.map V.int).length : Int) + 1, rfl, S2, by omega, by rw [List.length_map]; omega, fun hi H3 _ _ x3 S3 => ?_⟩
    have hR3 := x3 r _ hR2 hra
    refine e_retN (xslice h8 rfl rfl rfl hR3 hp) fun v d H4 ⟨ns, hd, ok⟩ e4 hv => ?_
    subst hd
    exact q v ns H4 ok hv (((x1.trans x2).trans x3).trans (Xb.of e4)) (S3.mono e4)
def spSystem : Sp := fun vs H Q _ => ∃ (s l : Addr), vs = [.ref s, .int 2, .int 5, .int 5] ∧ Strm H s l ∧ ∀ v n S H', SysOk n S → Dt H' v (SD n S) → Xb s H H' → Strm H' s l → Q v H'
theorem ok_law_system (D : Df K mg "_law_system" s_law_system ["_law_stream_here", "_law_least", "_law_most", "_law_many"]) (B : Bi mg) (O_law_next : Ok P w K mg base "_law_next" 1 ["_law_stream_here", "_law_many"] spNext)
    (O_law_shuffled : Ok P w K mg base "_law_shuffled" 2 ["_law_stream_here", "_law_many"] spShuf) (O_law_set : Ok P w K mg base "_law_set" 2 ["_law_stream_here", "_law_row"] spSet) :
    Ok P w K mg base "_law_system" 3 ["_law_stream_here", "_law_least", "_law_most", "_law_many"] spSystem := by
  refine D.ok sc_law_system (fun vs H Q E h => by obtain ⟨a, ns, rfl, _⟩ := h; rfl) (fun f cdv A outer s H vs Q E hr h => ?_)
  obtain ⟨a, l, rfl, S, q⟩ := h
  refine ⟨_, (pss_cons (ps_set (i := 4) sc_law_system.nd rfl (.inl rfl) (pe_op op_add (pv 1) (pe_callOk O_law_next (hr.mono (by decide)) (by rfl) (pa_cons (pv 0) (pa_cons (pe_op op_add (pe_op op_sub (pv 2) (pv 1)) pe_int) pa_nil)))))
      (pss_cons (ps_set (i := 5) sc_law_system.nd rfl (.inl rfl) (pe_callOk O_law_shuffled (hr.mono (by decide)) (by rfl) (pa_cons (pv 0) (pa_cons (pv 4) pa_nil))))
      (pss_cons (ps_set (i := 6) sc_law_system.nd rfl (.inl rfl) (pe_callOk O_law_next (hr.mono (by decide)) (by rfl) (pa_cons (pv 0) (pa_cons pe_int pa_nil))))
      (pss_cons (ps_set (i := 7) sc_law_system.nd rfl (.inl rfl) (pe_lst pa_nil))
      (pss_cons (ps_for PassesOwn.never rfl (pi_range1 rfl B.range (pa_cons (pe_callOk O_law_next (hr.mono (by decide)) (by rfl) (pa_cons (pv 0) (pa_cons (pe_op op_add (pv 3) pe_int) pa_nil))) pa_nil)) (pg_name (i := 8) sc_law_system.nd rfl (.inl rfl)) (pss_one (ps_if (pt_cmpR op_gt (pv 6) pe_int (nomark _)) (pss_cons (ps_set (i := 9) sc_law_system.nd rfl (.inl rfl) (pe_callOk O_law_next (hr.mono (by decide)) (by rfl) (pa_cons (pv 0) (pa_cons (pe_op op_add (pv 4) pe_int) pa_nil))))
      (pss_cons (ps_set (i := 10) sc_law_system.nd rfl (.inl rfl) (pe_callOk O_law_next (hr.mono (by decide)) (by rfl) (pa_cons (pv 0) (pa_cons (pe_op op_add (pv 4) pe_int) pa_nil))))
      (pss_one (ps_expr (pe_bm PySem.F.plainAttrs_list PySem.F.slot_list_append PySem.F.type_list_append mt_append (pv 7) (pa_cons (pe_callTy call_tuple_of (by rfl) B.tuple (by decide +kernel) (pa_cons (pe_callB cr_sortedI (by rfl) B.sorted (by decide +kernel) (pa_cons (pe_slice sl_list (pv 5) (po_some (pe_callB (call_min2 rfl) (by rfl) B.min (by decide +kernel) (pa_cons (pv 9) (pa_cons (pv 10) pa_nil)))) (po_some (pe_callB (call_max2 rfl) (by rfl) B.max (by decide +kernel) (pa_cons (pv 9) (pa_cons (pv 10) pa_nil))))) pa_nil)) pa_nil)) pa_nil)))))) (pss_one (ps_expr (pe_bm PySem.F.plainAttrs_list PySem.F.slot_list_append PySem.F.type_list_append mt_append (pv 7) (pa_cons (pe_callOk O_law_set (hr.mono (by decide)) (by rfl) (pa_cons (pv 0) (pa_cons (pv 5) pa_nil))) pa_nil)))))))
      (pss_one (ps_ret (pe_tup (pa_cons (pv 4) (pa_cons (pe_callTy call_tuple_of (by rfl) B.tuple (by decide +kernel) (pa_cons (pv 7) pa_nil)) pa_nil)))))))))), ?_⟩
  -- size
  refine z_int (fun n H1 => 2 ≤ n ∧ n ≤ 5 ∧ Xb a H H1 ∧ Strm H1 a l) (fun Q k => ⟨.int 2, rfl, .ref a, rfl, .int 5, rfl, .int 2, rfl, _, _, rfl, rfl, _, _, rfl, rfl, a, l, 4, rfl, S, by decide, by decide, fun d H1 d0 d1 x1 S1 => ⟨_, _, rfl, rfl, k _ _ ⟨by omega, by omega, x1, S1⟩⟩⟩) fun n H1 ⟨n2, n5, x1, S1⟩ => ?_
  -- row
  refine ⟨.ref a, rfl, .int n, rfl, a, l, n, rfl, S1, by omega, by omega, fun R row H2 pm nR hR2 x2 S2 => ?_⟩
  have hRa := S2.neI hR2
  -- wild
  refine ⟨.ref a, rfl, a, l, 3, rfl, S2, by decide, by decide, fun wild H3 w0 w1 x3 S3 => ?_⟩
  have hR3 := x3 R _ hR2 hRa
  -- sets
  refine ⟨by show 0 ≤ sizeLine; decide, fun G nG => ?_⟩
  have SG := S3.ne nG
  have hGR : R ≠ G := ne_of_none hR3 nG
  have x4 : Xb a H (upd H3 G (.lst [])) := ((x1.trans x2).trans x3).trans (Xb.of (Ex.new nG))
  have S4 := S3.upd (o := .lst []) SG
  have hR4 : upd H3 G (.lst []) R = some (.lst (row.map V.int)) := by rw [upd_ne hGR]; exact hR3
  have hG4 : upd H3 G (.lst []) G = some (.lst []) := upd_same
  have nG0 : ∀ b o, H b = some o → b ≠ a → b ≠ G := fun b o hb ha e => by
    have q := (x1.trans x2).trans x3 b o hb ha
    rw [e, nG] at q
    cases q
  generalize upd H3 G (.lst []) = H4 at x4 S4 hR4 hG4
  refine ⟨.ref a, rfl, .int 5, rfl, _, _, rfl, rfl, a, l, 6, rfl, S4, by decide, by decide, fun m H5 m0 m1 x5 S5 => ?_⟩
  have hR5 := x5 R _ hR4 hRa
  have hG5 := x5 G _ hG4 SG.1
  have x45 := x4.trans x5
  refine ⟨m, rfl, by omega, by omega, for_range (lo := 0) (n := m.toNat) (fun i σ' H' => ∃ (v8 v9 v10 : Option V) (xs : List V) (Ss : List (List Int)), σ' = [some (.ref a), some (.int 2), some (.int 5), some (.int 5), some (.int n), some (.ref R), some (.int wild), some (.ref G), v8, v9, v10] ∧ Xb a H H' ∧ Strm H' a l ∧ H' R = some (.lst (row.map V.int)) ∧ H' G = some (.lst xs) ∧ DtAll H' xs (Ss.map sD) ∧ Ss.length = i ∧ ∀ c ∈ Ss, SetOk n c)
    ⟨none, none, none, [], [], rfl, x45, S5, hR5, hG5, .nil, rfl, fun _ h => nomatch h⟩ (fun i σ' H' hi hp => ?_) (fun σ' H' hp => ?_)⟩
  · obtain ⟨v8, v9, v10, xs, Ss, rfl, x, S', hR, hG, hd, hl, hok⟩ := hp
    have app : ∀ (H2 : Hp) (v : V) (ns : List Int) (v8' v9' v10' : Option V), SetOk n ns → Dt H2 v (sD ns) → Xb a H' H2 → Strm H2 a l → ∃ ys, H2 G = some (.lst ys) ∧ ys.length < sizeLine ∧ ∃ (v8 v9 v10 : Option V) (xs : List V) (Ss : List (List Int)), [some (.ref a), some (.int 2), some (.int 5), some (.int 5), some (.int n), some (.ref R), some (.int wild), some (.ref G), v8', v9', v10'] = [some (.ref a), some (.int 2), some (.int 5), some (.int 5), some (.int n), some (.ref R), some (.int wild), some (.ref G), v8, v9, v10] ∧ Xb a H (upd H2 G (.lst (ys ++ [v]))) ∧ Strm (upd H2 G (.lst (ys ++ [v]))) a l ∧ upd H2 G (.lst (ys ++ [v])) R = some (.lst (row.map V.int)) ∧ upd H2 G (.lst (ys ++ [v])) G = some (.lst xs) ∧ DtAll (upd H2 G (.lst (ys ++ [v]))) xs (Ss.map sD) ∧ Ss.length = i + 1 ∧ ∀ c ∈ Ss, SetOk n c := by
      intro H2 v ns v8' v9' v10' ok hv x2 S2
      have hG2 := x2 G _ hG SG.1
      have t : Tx H2 (upd H2 G (.lst (xs ++ [v]))) := Tx.upd hG2 fun _ z => nomatch z
      refine ⟨xs, hG2, Evl.sz_lt (by rw [hd.length, List.length_map]; omega), v8', v9', v10', xs ++ [v], Ss ++ [ns], rfl, fun b o hb hn => ?_, S2.upd SG, by rw [upd_ne hGR]; exact x2 R _ hR hRa, upd_same, ?_, by rw [List.length_append, hl]; rfl, fun c m => ?_⟩
      · rw [upd_ne (nG0 b o hb hn)]
        exact x.trans x2 b o hb hn
      · rw [List.map_append]
        exact (hd.mono ((S'.tx x2).trans t)).append (.cons (hv.mono t) .nil)
      · rcases List.mem_append.mp m with m | m
        · exact hok c m
        · rw [List.mem_singleton.mp m]; exact ok
    refine ⟨.int wild, rfl, _, _, rfl, rfl, decide (0 < wild), rfl, ?_⟩
    cases decide (0 < wild) with
    | true =>
      refine iteT ?_
      refine ⟨.ref a, rfl, .int n, rfl, _, _, rfl, rfl, a, l, n + 1, rfl, S', by omega, by omega, fun lo H2 _ _ x2 S2 => ?_⟩
      refine ⟨.ref a, rfl, .int n, rfl, _, _, rfl, rfl, a, l, n + 1, rfl, S2, by omega, by omega, fun hi H3 _ _ x3 S3 => ?_⟩
      have hR3 := x3 R _ (x2 R _ hR hRa) hRa
      have hG3 := x3 G _ (x2 G _ hG SG.1) SG.1
      refine ⟨.ref G, rfl, .inl ⟨rfl, _, SqL.of hG3⟩, ?_⟩
      refine xslice (n := n) (by omega) rfl rfl rfl hR3 pm H3 (Ex.refl _) _ fun v d H4 ⟨ns, hd, ok⟩ e4 hv => ?_
      subst hd
      obtain ⟨ys, h1, h2, h3⟩ := app H4 v ns (some (.int (0 + (i : Int)))) (some (.int lo)) (some (.int hi)) ok hv ((x2.trans x3).trans (Xb.of e4)) (S3.mono e4)
      exact ⟨G, ys, v, rfl, rfl, h1, h2, h3⟩
    | false =>
      refine iteF ?_
      refine ⟨.ref G, rfl, .inl ⟨rfl, _, SqL.of hG⟩, .ref a, rfl, .ref R, rfl, a, l, R, row, n, rfl, S', hR, by omega, pm, fun v ns H4 ok hv x4 S4 => ?_⟩
      obtain ⟨ys, h1, h2, h3⟩ := app H4 v ns (some (.int (0 + (i : Int)))) v9 v10 ok hv x4 S4
      exact ⟨G, ys, v, rfl, rfl, h1, h2, h3⟩
  · obtain ⟨v8, v9, v10, xs, Ss, rfl, x, S', hR, hG, hd, hl, hok⟩ := hp
    refine ⟨.int n, rfl, .ref G, rfl, G, xs, rfl, .inl ⟨SqL.of hG, fun T nT => ⟨by show 2 ≤ sizeLine; decide, fun p np => ?_⟩⟩⟩
    have e1 := Ex.new (o := .tup xs) nT
    have e2 := Ex.new (o := .tup [V.int n, V.ref T]) np
    refine q _ n Ss _ ⟨n2, n5, by omega, hok⟩ (.tup upd_same (.cons (.int n) (.cons ?_ .nil))) (x.trans (Xb.of (e1.trans e2))) (S'.mono (e1.trans e2))
    exact (Dt.tup upd_same (hd.mono (tx e1))).mono (tx e2)
end
end Kt
namespace Kt
open PySem PySem.Spec PyProof.Rows L2
open Evl (Ex Ev EvT EvO)
def intsOf : PyData → List Int
  | .tuple ds => ds.map intOf
  | _ => []
theorem intsOf_sD (c : List Int) : intsOf (sD c) = c := by
  show (c.map PyData.int).map intOf = c
  rw [List.map_map]
  exact List.map_id' c
theorem rgD_I (n : Nat) : rgD n = (rgI n).map .int := by
  unfold rgD rgI
  rw [List.map_map]; rfl
theorem atI_last {α : Type} (a : α) (l : List α) (x : α) : atI (a :: l) (-1) = some ((a :: l).getLastD x) := by
  have h : ixN (a :: l).length (-1) = some l.length := by
    unfold ixN
    rw [if_neg (by decide), if_pos (by rw [List.length_cons]; omega)]
    congr 1
    rw [List.length_cons]
    omega
  unfold atI
  rw [h]
  show (a :: l)[l.length]? = _
  rw [List.getLastD_eq_getLast?, List.getLast?_eq_getElem?]
  show _ = some (((a :: l)[(a :: l).length - 1]?).getD x)
  rw [List.length_cons, Nat.add_sub_cancel, List.getElem?_eq_getElem (by rw [List.length_cons]; omega)]
  rfl
section
variable {K : PySem.W.Frag} {σ : L2.St} {H H' : Hp} {ta tb te : TE} {t : TT} {d d0 d1 d2 d3 : PyData} {ds : List PyData} {D : Ends} {tu tw tz : TS} {i : Nat} {p : Addr} {xs : List V}
/-- a list in a slot: not xs, xs[j], len(xs) -/
theorem xnotTL (hv : σ[i]? = some (some (.ref p))) (hp : H p = some (.lst xs)) : EvD (tNotT K (tVar i)) σ H (.bool xs.isEmpty) := fun H1 e _ q =>
  ⟨.ref p, hv, !xs.isEmpty, .inl ⟨xs, SqL.of (e p _ hp), rfl⟩, q _ H1 (Ex.refl _) (by rw [Bool.not_not]; exact .bl _)⟩
theorem xixL {j : Int} (hv : σ[i]? = some (some (.ref p))) (hp : H p = some (.lst xs)) (hd : DtAll H xs ds) (hb : EvD tb σ H (.int j)) (h : atI ds j = some d) : EvD (tOp (rIxL K) (tVar i) tb) σ H d := fun H1 e _ q =>
  ⟨.ref p, hv, hb H1 e _ fun y H3 e3 hy => by
    rw [hy.int_inv]
    obtain ⟨w, h1, h2⟩ : ∃ w, atI xs j = some w ∧ Dt H w d := by
      unfold atI at h ⊢
      rw [hd.length]
      cases hn : ixN ds.length j with
      | none => rw [hn] at h; cases h
      | some k =>
        rw [hn] at h
        exact hd.get (i := k) h
    exact ⟨p, xs, j, w, rfl, rfl, SqL.of (e3 p _ (e p _ hp)), h1, q w H3 e3 (h2.mono (tx (e.trans e3)))⟩⟩
theorem xlenL (hv : σ[i]? = some (some (.ref p))) (hp : H p = some (.lst xs)) (hd : DtAll H xs ds) : EvD (tCB (fun xs H Q => ∃ p ys, xs = [V.ref p] ∧ (SqL K H p ys ∨ SqT K H p ys) ∧ Q (.int ys.length) H) (tCons (tVar i) tNil)) σ H (.int (ds.length : Int)) := fun H1 e _ q =>
  ⟨.ref p, hv, p, xs, rfl, .inl (SqL.of (e p _ hp)), by
    rw [hd.length]
    exact q _ H1 (Ex.refl _) (.int _)⟩
/-- a tuple with one more at its end -/
theorem xsnoc {r : List Int} {x : Int} (ha : EvD ta σ H (sD r)) (hb : EvD tb σ H (.int x)) (hl : r.length ≤ 1000) : EvD (tOp (rCatA K) ta (tTup (tCons tb tNil))) σ H (sD (r ++ [x])) := fun H1 e _ q =>
  ha H1 e _ fun u H2 e2 hu => xtup (xacons hb xanil) (by show 1 ≤ 100000; decide) H2 (e.trans e2) _ fun v H3 e3 hv => by
    obtain ⟨a, xs, rfl, h1, hs⟩ := (hu.mono (tx e3)).tup_inv
    obtain ⟨b, ys, rfl, h2, ht⟩ := hv.tup_inv
    have hx := hs.ints
    have hy : ys = [V.int x] := by
      obtain ⟨z, rfl, hz⟩ := ht.inv1
      rw [hz.int_inv]
    subst hx hy
    refine ⟨a, b, _, _, rfl, rfl, SqT.of h1, SqT.of h2, Evl.sz_of (by rw [List.length_map]; show r.length + 1 ≤ 100000; omega), fun en => ?_, fun _ z => (nomatch z), fun _ _ p np => ?_⟩
    · have er : r = [] := List.map_eq_nil_iff.mp en
      subst er
      exact q _ H3 (e2.trans e3) hv
    · refine q _ _ ((e2.trans e3).trans (Ex.new np)) (.tup upd_same ?_)
      have z : r.map V.int ++ [V.int x] = (r ++ [x]).map V.int := by rw [List.map_append]; rfl
      rw [z]
      exact DtAll.of_ints
end
/-- a list of different ints below n -/
structure RowIn (n : Int) (k : Nat) (r : List Int) : Prop where
  len : r.length = k
  nd : r.Nodup
  mem : ∀ e ∈ r, 0 ≤ e ∧ e < n
/-- n different ints below n are all -/
theorem nodup_full : ∀ (N : Nat) (l : List Int), l.Nodup → (∀ x ∈ l, 0 ≤ x ∧ x < (N : Int)) → l.length = N → ∀ e : Int, 0 ≤ e → e < N → e ∈ l := by
  intro N l nd h len e e0 e1
  apply Classical.byContradiction
  intro hn
  have nd2 : ((e :: l).map Int.toNat).Nodup := by
    refine List.pairwise_map.mpr (List.Pairwise.imp_of_mem (R := (· ≠ ·)) ?_ (List.nodup_cons.mpr ⟨hn, nd⟩))
    intro a b ma mb ne e'
    have ha : 0 ≤ a := by
      rcases List.mem_cons.mp ma with q | m
      · omega
      · exact (h a m).1
    have hb : 0 ≤ b := by
      rcases List.mem_cons.mp mb with q | m
      · omega
      · exact (h b m).1
    exact ne (by omega)
  have le := nodup_lt N _ nd2 fun x m => by
    obtain ⟨y, my, rfl⟩ := List.mem_map.mp m
    rcases List.mem_cons.mp my with q | m
    · omega
    · have := h y m
      omega
  rw [List.length_map, List.length_cons] at le
  omega
theorem RowIn.ok {n : Int} {r : List Int} (h0 : 0 ≤ n) (h : RowIn n n.toNat r) : RowOk n r := ⟨h.nd, fun e e0 e1 => nodup_full n.toNat r h.nd (fun x m => by have := h.mem x m; omega) h.len e e0 (by omega)⟩
theorem RowIn.snoc {n x : Int} {k : Nat} {r : List Int} (h : RowIn n k r) (hx : x ∉ r) (x0 : 0 ≤ x) (x1 : x < n) : RowIn n (k + 1) (r ++ [x]) := by
  refine ⟨by rw [List.length_append, h.len]; rfl, ?_, fun e m => ?_⟩
  · refine List.nodup_append.mpr ⟨h.nd, List.pairwise_singleton _ _, fun a ma b mb e => ?_⟩
    rw [List.mem_singleton.mp mb] at e
    exact hx (e ▸ ma)
  · rcases List.mem_append.mp m with m | m
    · exact h.mem e m
    · rw [List.mem_singleton.mp m]; exact ⟨x0, x1⟩
section
variable {P : Program} {w : World} {K : PySem.W.Frag} {mg : Str → Option Value} {base : Heap}
/-! ### _law_rows -/
def R_rows : List PyData → (List PyData → Prop) → Prop := fun ds P => ∃ n, ds = [.int n] ∧ 0 ≤ n ∧ n ≤ 5 ∧ P = fun es => ∃ rows : List (List Int), es = rows.map sD ∧ (∀ r ∈ rows, RowIn n n.toNat r) ∧ rows.length ≤ 3125
theorem ok_law_rows (D : Df K mg "_law_rows" s_law_rows ["_law_size"]) (B : Bi mg) : Ok P w K mg base "_law_rows" 1 ["_law_size"] (spL R_rows) := by
  refine D.ok sc_law_rows (fun vs H Q E h => spL_len (fun ds P ⟨_, e, _⟩ => by rw [e]; rfl) h) (fun f cdv A outer s H vs Q E hr h => ?_)
  obtain ⟨ds, P, hv, ⟨n, rfl, n0, n5, rfl⟩, q⟩ := h
  obtain ⟨v0, rfl, h0⟩ := hv.inv1
  obtain rfl := h0.int_inv
  refine ⟨_, (pss_cons (ps_set (i := 1) sc_law_rows.nd rfl (.inl rfl) (pe_lst (pa_cons (pe_tup pa_nil) pa_nil)))
      (pss_cons (ps_for PassesOwn.never rfl (pi_range1 rfl B.range (pa_cons (pv 0) pa_nil)) (pg_name (i := 2) sc_law_rows.nd rfl (.inl rfl)) (pss_cons (ps_set (i := 3) sc_law_rows.nd rfl (.inl rfl) (pe_lst pa_nil))
      (pss_cons (ps_for PassesOwn.never rfl (pi_list (pv 1)) (pg_name (i := 4) sc_law_rows.nd rfl (.inr rfl)) (pss_one (ps_set (i := 3) sc_law_rows.nd rfl (.inl rfl) (pe_op op_cat (pv 3) (pe_lc (own := [("_law_one", 5)]) (g := gName 5) rfl sc_law_rows.nd (pi_range1 rfl B.range (pa_cons (pv 0) pa_nil)) (blkOk_by (N := N_law_rows) (sc := defScope s_law_rows) (by decide +kernel)) (fun _ _ _ _ _ => (pg_name (i := 5) sc_law_rows.nd rfl (.inl rfl))) (fun _ _ _ _ _ => pts_one (pt_cmpR (niS (K := K)) (pv 5) (pv 4) rfl)) (fun _ _ _ _ _ => (pe_op (catA (K := K)) (pv 4) (pe_tup (pa_cons (pv 5) pa_nil)))))))))
      (pss_one (ps_set (i := 1) sc_law_rows.nd rfl (.inl rfl) (pv 3))))))
      (pss_one (ps_ret (pv 1))))), ?_⟩
  refine z_setS (xlst (xacons (xtup xanil (by show 0 ≤ 100000; decide)) xanil) (by show 1 ≤ 100000; decide)) fun p1 xs1 H1 n1 e1 hx1 hd1 => ?_
  have five : ∀ i : Nat, (i : Int) < n → (5 : Nat) ^ i * 5 ≤ 3125 := fun i hi => by
    have h4 : i ≤ 4 := by omega
    have : (5 : Nat) ^ i ≤ 5 ^ 4 := Nat.pow_le_pow_right (by decide) h4
    have e : (5 : Nat) ^ 4 = 625 := by decide
    omega
  refine z_forR (m := n) (xacons (xvar rfl (.int n)) xanil) ⟨n0, by omega⟩ (fun i σ' H' => ∃ (v2 v3 v4 : Option V) (p : Addr) (xs : List V) (rows : List (List Int)), σ' = [some (.int n), some (.ref p), v2, v3, v4, none] ∧ H p = none ∧ Ex H H' ∧ H' p = some (.lst xs) ∧ DtAll H' xs (rows.map sD) ∧ (∀ r ∈ rows, RowIn n i r) ∧ rows.length ≤ 5 ^ i)
    (fun H2 e2 => ⟨none, none, none, p1, xs1, [[]], rfl, n1, e1.trans e2, e2 _ _ hx1, hd1.mono (tx e2), fun r m => by rw [List.mem_singleton.mp m]; exact ⟨rfl, .nil, fun _ z => (nomatch z)⟩, by show 1 ≤ 5 ^ 0; decide⟩) (fun i σ' H' hi hp => ?_) (fun σ' H' hp => ?_)
  · obtain ⟨v2, v3, v4, p, xs, rows, rfl, np, ex, hx, hd, hrow, hlen⟩ := hp
    refine z_setS (xlst xanil (by show 0 ≤ 100000; decide)) fun L0 ys0 H2 nL e2 hy0 hdy0 => ?_
    have nL0 : H L0 = none := Evl.fresh_back ex nL
    have hx2 := e2 p _ hx
    refine ⟨.ref p, rfl, p, rfl, ⟨xs, SqL.of hx2⟩, for_list (xs := xs) (fun j σ' H' => ∃ (v4 : Option V) (L : Addr) (ys : List V) (lon : List (List Int)), σ' = [some (.int n), some (.ref p), some (.int (i : Int)), some (.ref L), v4, none] ∧ H L = none ∧ Ex H2 H' ∧ H' L = some (.lst ys) ∧ DtAll H' ys (lon.map sD) ∧ (∀ r ∈ lon, RowIn n (i + 1) r) ∧ lon.length ≤ 5 * j)
      ⟨v4, L0, ys0, [], rfl, nL0, Ex.refl _, hy0, hdy0, fun _ z => (nomatch z), Nat.le_refl _⟩ (fun j σ' H' _ hp => ?_) (fun j x σ' H' hj hp' => ?_) (fun σ' H' hp' => ?_)⟩
    · obtain ⟨_, _, _, _, _, _, e3, _⟩ := hp
      exact SqL.of (e3 p _ hx2)
    · obtain ⟨v4, L, ys, lon, rfl, nL, e3, hL, hdL, hlon, hll⟩ := hp'
      obtain ⟨d, hd', hdx⟩ := (hd.mono (tx (e2.trans e3))).getV hj
      have hjl : j < rows.length := by
        have z := (List.getElem?_eq_some_iff.mp hj).1
        rw [hd.length, List.length_map] at z
        exact z
      rw [List.getElem?_map, List.getElem?_eq_getElem hjl] at hd'
      have hm : rows[j] ∈ rows := List.getElem_mem hjl
      generalize rows[j] = r at hd' hm
      obtain rfl : sD r = d := Option.some.inj hd'
      have hr := hrow r hm
      have hc : giv (fun d => !decide (intOf d ∈ r)) (fun d => sD (r ++ [intOf d])) (rgD n.toNat) = ((((rgI n.toNat).filter fun k => !decide (k ∈ r)).map fun k => r ++ [k])).map sD := by
        rw [rgD_I]
        exact giv_ints (fun k => !decide (k ∈ r)) (fun k => r ++ [k]) sD _ _ (fun _ => rfl) (fun _ => rfl) _
      have hcl : ((((rgI n.toNat).filter fun k => !decide (k ∈ r)).map fun k => r ++ [k])).length ≤ 5 := by
        rw [List.length_map]
        have z := List.length_filter_le (fun k => !decide (k ∈ r)) (rgI n.toNat)
        rw [rgI_len] at z
        omega
      have five' := five i hi
      have bnd : (lon.length + 5) ≤ 3125 := by
        have : 5 * (j + 1) ≤ 5 * 5 ^ i := Nat.mul_le_mul_left 5 (by omega)
        omega
      refine e_setS (xcatV (ds := lon.map sD) rfl hL hdL ((xlcR (m := n) (fun d => !decide (intOf d ∈ r)) (fun d => sD (r ++ [intOf d])) (xacons (xvar rfl (.int n)) xanil) (by omega) (by omega) (fun x => rfl) (fun k H3 _ e4 => ?_) (fun k H3 _ e4 _ => ?_)).is hc) (by rw [List.length_map, List.length_map]; omega)) fun q' zs H3 nq e4 hq hdq => ?_
      · exact xT (xin (neg := true) (xvar rfl (.int _)) (xvar rfl (hdx.mono (tx e4))))
      · exact xsnoc (xvar rfl (hdx.mono (tx e4))) (xvar rfl (.int _)) (by rw [hr.len]; omega)
      · rw [← List.map_append] at hdq
        refine ⟨_, q', zs, _, rfl, Evl.fresh_back (ex.trans (e2.trans e3)) nq, e3.trans e4, hq, hdq, fun s m => ?_, ?_⟩
        · rcases List.mem_append.mp m with m | m
          · exact hlon s m
          · obtain ⟨k, mk, rfl⟩ := List.mem_map.mp m
            obtain ⟨mk1, mk2⟩ := List.mem_filter.mp mk
            have mk3 := rgI_mem.mp mk1
            exact hr.snoc (by simpa using mk2) mk3.1 (by omega)
        · rw [List.length_append]
          omega
    · obtain ⟨v4, L, ys, lon, rfl, nL, e3, hL, hdL, hlon, hll⟩ := hp'
      refine ⟨.ref L, rfl, _, _, _, L, ys, lon, rfl, nL, ex.trans (e2.trans e3), hL, hdL, hlon, ?_⟩
      rw [hd.length, List.length_map] at hll
      rw [Nat.pow_succ]
      omega
  · obtain ⟨v2, v3, v4, p, xs, rows, rfl, np, ex, hx, hd, hrow, hlen⟩ := hp
    have b : (5 : Nat) ^ n.toNat ≤ 5 ^ 5 := Nat.pow_le_pow_right (by decide) (by omega)
    have e : (5 : Nat) ^ 5 = 3125 := by decide
    exact ⟨.ref p, rfl, q p xs (rows.map sD) H' ⟨rows, rfl, hrow, by omega⟩ np ex hx hd⟩
/-! ### _law_is_together, _law_keeps, _law_keeping -/
def R_tog : List PyData → (PyData → Prop) → Prop := fun ds P => ∃ c r, ds = [sD c, sD r] ∧ r.length ≤ 1000 ∧ P = (· = .bool (tog c r))
theorem ok_law_is_together (D : Df K mg "_law_is_together" s_law_is_together ["_law_chosen", "_law_row"]) (B : Bi mg) : Ok P w K mg base "_law_is_together" 1 ["_law_chosen", "_law_row"] (spN R_tog) := by
  refine D.ok sc_law_is_together (fun vs H Q E h => spN_len (fun ds P ⟨_, _, e, _⟩ => by rw [e]; rfl) h) (fun f cdv A outer s H vs Q E hr h => ?_)
  obtain ⟨ds, P, hv, ⟨c, r, rfl, hl, rfl⟩, q⟩ := h
  obtain ⟨v0, v1, rfl, h0, h1⟩ := hv.inv2
  have hc : giv (fun d => decide (r.getD (intOf d).toNat 0 ∈ c)) id (rgD (r.length : Int).toNat) = (places c r).map fun i : Nat => PyData.int (i : Int) := by
    unfold giv rgD places
    rw [List.map_id, Int.toNat_natCast, List.filter_map]
    rfl
  refine ⟨_, (pss_cons (ps_setLc (i := 2) (own := [("_law_at", 3)]) (g := gName 3) rfl sc_law_is_together.nd rfl rfl (sw_true rfl rfl rfl (by decide +kernel)) (pi_range1 rfl B.range (pa_cons (pe_callB call_len_seq (by rfl) B.len (by decide +kernel) (pa_cons (pv 1) pa_nil)) pa_nil)) (blkOk_by (N := N_law_is_together) (sc := defScope s_law_is_together) (by decide +kernel)) (fun _ _ _ _ _ => (pg_name (i := 3) sc_law_is_together.nd rfl (.inl rfl))) (fun _ _ _ _ _ => pts_one (pt_cmpR (inS (K := K)) (pe_ix (ixT (K := K)) (pv 1) (pv 3) (fun _ _ => rfl)) (pv 0) rfl)) (fun _ _ _ _ _ => (pv 3)))
      (pss_one (ps_ret (pe_or (pe_notT (pv 2)) (pe_one (pe_cmpR op_eq (pe_op op_add (pe_op op_sub (pe_ix ix_list (pv 2) (pe_un un_neg pe_int) (fun _ _ => rfl)) (pe_ix ix_list (pv 2) pe_int (fun _ _ => rfl))) pe_int) (pe_callB call_len_seq (by rfl) B.len (by decide +kernel) (pa_cons (pv 2) pa_nil)) (nomark _))))))), ?_⟩
  refine z_setS ((xlcR (m := (r.length : Int)) (fun d => decide (r.getD (intOf d).toNat 0 ∈ c)) id (xacons ((xlen (xvar rfl h1)).is (by rw [List.length_map])) xanil) (by omega) (by omega) (fun x => rfl) (fun k H3 hk e4 => ?_) (fun k H3 _ e4 _ => xvar rfl (.int _))).is hc) fun p xs H1 np e1 hx hd => ?_
  · have hk' : k < r.length := by omega
    have e : r.getD (intOf (.int (k : Int))).toNat 0 = r[k] := by
      show r.getD (k : Int).toNat 0 = _
      rw [Int.toNat_natCast, List.getD_eq_getElem?_getD, List.getElem?_eq_getElem hk']; rfl
    rw [e]
    refine xT (xin (neg := false) (xix (xvar rfl (h1.mono (tx e4))) (xvar rfl (.int _)) (atI_nat (j := k) ?_)) (xvar rfl (h0.mono (tx e4))))
    rw [List.getElem?_map, List.getElem?_eq_getElem hk']; rfl
  · cases hpl : places c r with
    | nil =>
      rw [hpl] at hd
      have ex0 : xs = [] := by cases hd; rfl
      subst ex0
      refine e_ret (xor (b := true) (xnotTL rfl hx) (fun z => nomatch z)) fun v H2 e2 hv => ?_
      refine q v _ H2 ?_ (e1.trans e2) hv
      unfold tog
      rw [hpl]; rfl
    | cons a l =>
      rw [hpl] at hd
      have hne : xs.isEmpty = false := by
        cases xs with
        | nil => cases hd
        | cons _ _ => rfl
      have i0 : atI ((a :: l).map fun i : Nat => PyData.int (i : Int)) 0 = some (.int (a : Int)) := atI_nat (j := 0) rfl
      have i1 : atI ((a :: l).map fun i : Nat => PyData.int (i : Int)) (-1) = some (.int (((a :: l).getLastD 0 : Nat) : Int)) := by
        have z := atI_last (PyData.int (a : Int)) (l.map fun i : Nat => PyData.int (i : Int)) (PyData.int ((0 : Nat) : Int))
        rw [List.map_cons, z]
        congr 1
        exact (List.getLastD_map (f := fun i : Nat => PyData.int (i : Int)) (l := a :: l) (a := 0))
      refine e_ret (xor (xnotTL rfl hx) fun _ => xeqI (xadd (xsub (xixL rfl hx hd (xneg xint) i1) (xixL rfl hx hd xint i0)) xint) (xlenL rfl hx hd)) fun v H2 e2 hv => ?_
      refine q v _ H2 ?_ (e1.trans e2) hv
      unfold tog
      rw [hpl, hne, Bool.false_or, List.length_map]
end
end Kt
namespace Kt
open PySem PySem.Spec PyProof.Rows L2
open Evl (Ex Ev EvT EvO)
theorem giv_map {α : Type} (f : α → Bool) (g : α → PyData) (F : PyData → Bool) (hF : ∀ a, F (g a) = f a) : ∀ l : List α, giv F id (l.map g) = (l.filter f).map g
  | [] => rfl
  | a :: l => by
    have ih := giv_map f g F hF l
    unfold giv at ih ⊢
    rw [List.map_cons, List.filter_cons, List.filter_cons, hF]
    cases f a with
    | true =>
      show g a :: _ = g a :: _
      exact congrArg _ ih
    | false => exact ih
section
variable {P : Program} {w : World} {K : PySem.W.Frag} {mg : Str → Option Value} {base : Heap}
def R_keeps : List PyData → (PyData → Prop) → Prop := fun ds P => ∃ n S r, ds = [SD n S, sD r] ∧ S.length ≤ 1000 ∧ r.length ≤ 1000 ∧ P = (· = .bool (S.all fun c => tog c r))
theorem ok_law_keeps (D : Df K mg "_law_keeps" s_law_keeps ["_law_system_here", "_law_row"]) (B : Bi mg) (O_law_is_together : Ok P w K mg base "_law_is_together" 1 ["_law_chosen", "_law_row"] (spN R_tog)) :
    Ok P w K mg base "_law_keeps" 2 ["_law_system_here", "_law_row"] (spN R_keeps) := by
  refine D.ok sc_law_keeps (fun vs H Q E h => spN_len (fun ds P ⟨_, _, _, e, _⟩ => by rw [e]; rfl) h) (fun f cdv A outer s H vs Q E hr h => ?_)
  obtain ⟨ds, P, hv, ⟨n, S, r, rfl, hS, hl, rfl⟩, q⟩ := h
  obtain ⟨v0, v1, rfl, h0, h1⟩ := hv.inv2
  refine ⟨_, (pss_one (ps_ret (pe_callB (cr_all rfl) (by rfl) B.all (by decide +kernel) (pa_cons (pe_lc (own := [("_law_chosen", 2)]) (g := gName 2) (tt := tYes) rfl sc_law_keeps.nd (pi_tup (pe_ix (ixT (K := K)) (pv 0) pe_int (fun _ _ => rfl))) (blkOk_by (N := N_law_keeps) (sc := defScope s_law_keeps) (by decide +kernel)) (fun _ _ _ _ _ => (pg_name (i := 2) sc_law_keeps.nd rfl (.inl rfl))) (fun _ _ _ _ _ => pts_nil) (fun _ _ _ _ _ => (pe_callOk O_law_is_together (hr.mono (by decide)) (by rfl) (pa_cons (pv 2) (pa_cons (pv 1) pa_nil))))) pa_nil)))), ?_⟩
  have hc : giv (fun _ => true) (fun d => .bool (tog (intsOf d) r)) (S.map sD) = (S.map fun c => tog c r).map .bool := by
    rw [giv_all _ _ fun _ _ => rfl, List.map_map, List.map_map]
    refine List.map_congr_left fun c _ => ?_
    show PyData.bool (tog (intsOf (sD c)) r) = .bool (tog c r)
    rw [intsOf_sD]
  refine e_ret (xall ((xlcT (fun _ => true) (fun d => .bool (tog (intsOf d) r)) (xix (xvar rfl h0) xint sd1) (by rw [List.length_map]; omega) (fun x => rfl) (fun d v H1 m e hv => etY) (fun d v H1 m e hv _ => ?_)).is hc)) fun v H2 e2 hv => ?_
  · obtain ⟨c, mc, rfl⟩ := List.mem_map.mp m
    rw [intsOf_sD]
    exact xcall (xacons (xvar rfl hv) (xacons (xvar rfl (h1.mono (tx e))) xanil)) ⟨c, r, rfl, hl, rfl⟩
  · refine q v _ H2 ?_ e2 hv
    rw [List.all_map]; rfl
def R_keeping : List PyData → (List PyData → Prop) → Prop := fun ds P => ∃ n S, ds = [SD n S] ∧ SysOk n S ∧ P = fun es => ∃ rows : List (List Int), es = rows.map sD ∧ ∀ r ∈ rows, RowIn n n.toNat r ∧ ∀ c ∈ S, tog c r = true
theorem ok_law_keeping (D : Df K mg "_law_keeping" s_law_keeping ["_law_system_here"]) (B : Bi mg) (O_law_rows : Ok P w K mg base "_law_rows" 1 ["_law_size"] (spL R_rows)) (O_law_keeps : Ok P w K mg base "_law_keeps" 2 ["_law_system_here", "_law_row"] (spN R_keeps)) :
    Ok P w K mg base "_law_keeping" 3 ["_law_system_here"] (spL R_keeping) := by
  refine D.ok sc_law_keeping (fun vs H Q E h => spL_len (fun ds P ⟨_, _, e, _⟩ => by rw [e]; rfl) h) (fun f cdv A outer s H vs Q E hr h => ?_)
  obtain ⟨ds, P, hv, ⟨n, S, rfl, hS, rfl⟩, q⟩ := h
  obtain ⟨v0, rfl, h0⟩ := hv.inv1
  refine ⟨_, (pss_one (ps_ret (pe_lc (own := [("_law_row", 1)]) (g := gName 1) rfl sc_law_keeping.nd (pi_list (pe_callOk O_law_rows (hr.mono (by decide)) (by rfl) (pa_cons (pe_ix (ixT (K := K)) (pv 0) pe_int (fun _ _ => rfl)) pa_nil))) (blkOk_by (N := N_law_keeping) (sc := defScope s_law_keeping) (by decide +kernel)) (fun _ _ _ _ _ => (pg_name (i := 1) sc_law_keeping.nd rfl (.inl rfl))) (fun _ _ _ _ _ => pts_one (pt_val (pe_callOk O_law_keeps (hr.mono (by decide)) (by rfl) (pa_cons (pv 0) (pa_cons (pv 1) pa_nil))))) (fun _ _ _ _ _ => (pv 1))))), ?_⟩
  have n2 := hS.n2
  have n5 := hS.n5
  have few := hS.few
  refine e_retSN (xlcSN _ (fun d => S.all fun c => tog c (intsOf d)) id (xcallL (xacons (xix (xvar rfl h0) xint sd0) xanil) ⟨n, rfl, by omega, hS.n5, rfl⟩) (fun ds ⟨rows, e, _, hl⟩ => by rw [e, List.length_map]; omega) (fun x => rfl) (fun ds d v H1 hP m e hv => ?_) (fun ds d v H1 hP m e hv _ => xvar rfl hv)) fun p xs es H2 hP np e2 hx hd => ?_
  · obtain ⟨rows, rfl, hrow, hl⟩ := hP
    obtain ⟨r, mr, rfl⟩ := List.mem_map.mp m
    rw [intsOf_sD]
    exact xT (xcall (xacons (xvar rfl (h0.mono (tx e))) (xacons (xvar rfl hv) xanil)) ⟨n, S, r, rfl, by omega, by rw [(hrow r mr).len]; omega, rfl⟩)
  · obtain ⟨ds, ⟨rows, rfl, hrow, hl⟩, rfl⟩ := hP
    refine q p xs _ H2 ⟨rows.filter fun r => S.all fun c => tog c r, giv_map _ _ _ (fun r => by rw [intsOf_sD]) _, fun r m => ?_⟩ np e2 hx hd
    obtain ⟨m1, m2⟩ := List.mem_filter.mp m
    exact ⟨hrow r m1, fun c mc => List.all_eq_true.mp m2 c mc⟩
/-! ### _law_pairs -/
def R_pairs : List PyData → (List PyData → Prop) → Prop := fun ds P => ∃ n, ds = [.int n] ∧ 2 ≤ n ∧ n ≤ 5 ∧ P = fun es => ∃ l : List Pr, es = l.map pD ∧ l ≠ [] ∧ (∀ p ∈ l, Vp n p) ∧ l.length ≤ 25
theorem ok_law_pairs (D : Df K mg "_law_pairs" s_law_pairs ["_law_size"]) (B : Bi mg) : Ok P w K mg base "_law_pairs" 1 ["_law_size"] (spL R_pairs) := by
  refine D.ok sc_law_pairs (fun vs H Q E h => spL_len (fun ds P ⟨_, e, _⟩ => by rw [e]; rfl) h) (fun f cdv A outer s H vs Q E hr h => ?_)
  obtain ⟨ds, P, hv, ⟨n, rfl, n2, n5, rfl⟩, q⟩ := h
  obtain ⟨v0, rfl, h0⟩ := hv.inv1
  obtain rfl := h0.int_inv
  refine ⟨_, (pss_cons (ps_set (i := 1) sc_law_pairs.nd rfl (.inl rfl) (pe_lst pa_nil))
      (pss_cons (ps_for PassesOwn.never rfl (pi_range1 rfl B.range (pa_cons (pv 0) pa_nil)) (pg_name (i := 2) sc_law_pairs.nd rfl (.inr rfl)) (pss_one (ps_set (i := 1) sc_law_pairs.nd rfl (.inl rfl) (pe_op op_cat (pv 1) (pe_lc (own := [("_law_y", 3)]) (g := gName 3) rfl sc_law_pairs.nd (pi_range1 rfl B.range (pa_cons (pv 0) pa_nil)) (blkOk_by (N := N_law_pairs) (sc := defScope s_law_pairs) (by decide +kernel)) (fun _ _ _ _ _ => (pg_name (i := 3) sc_law_pairs.nd rfl (.inl rfl))) (fun _ _ _ _ _ => pts_one (pt_cmpR op_ne (pv 3) (pv 2) (nomark _))) (fun _ _ _ _ _ => (pe_tup (pa_cons (pv 2) (pa_cons (pv 3) pa_nil)))))))))
      (pss_one (ps_ret (pv 1))))), ?_⟩
  refine z_setS (xlst xanil (by show 0 ≤ 100000; decide)) fun p1 xs1 H1 np1 e1 hx1 hd1 => ?_
  refine z_forR (m := n) (xacons (xvar rfl (.int n)) xanil) ⟨by omega, by omega⟩ (fun i σ' H' => ∃ (v2 : Option V) (p : Addr) (xs : List V) (l : List Pr), σ' = [some (.int n), some (.ref p), v2, none] ∧ H p = none ∧ Ex H H' ∧ H' p = some (.lst xs) ∧ DtAll H' xs (l.map pD) ∧ (0 < i → l ≠ []) ∧ (∀ p ∈ l, Vp n p) ∧ l.length ≤ 5 * i)
    (fun H2 e2 => ⟨none, p1, xs1, [], rfl, np1, e1.trans e2, e2 _ _ hx1, hd1.mono (tx e2), fun z => absurd z (Nat.lt_irrefl 0), fun _ z => (nomatch z), Nat.le_refl _⟩) (fun i σ' H' hi hp => ?_) (fun σ' H' hp => ?_)
  · obtain ⟨v2, p, xs, l, rfl, np, ex, hx, hd, hne, hvp, hlen⟩ := hp
    have hc : giv (fun d => !decide (intOf d = (i : Int))) (fun d => .tuple [.int (i : Int), .int (intOf d)]) (rgD n.toNat) = (((rgI n.toNat).filter fun k => !decide (k = (i : Int))).map fun k => (((i : Int), k) : Pr)).map pD := by
      rw [rgD_I]
      exact giv_ints (fun k => !decide (k = (i : Int))) (fun k => (((i : Int), k) : Pr)) pD _ _ (fun _ => rfl) (fun _ => rfl) _
    have hcl : (((rgI n.toNat).filter fun k => !decide (k = (i : Int))).map fun k => (((i : Int), k) : Pr)).length ≤ 5 := by
      rw [List.length_map]
      have z := List.length_filter_le (fun k => !decide (k = (i : Int))) (rgI n.toNat)
      rw [rgI_len] at z
      omega
    have hcm : ∀ q ∈ ((rgI n.toNat).filter fun k => !decide (k = (i : Int))).map fun k => (((i : Int), k) : Pr), Vp n q := fun q m => by
      obtain ⟨k, mk, rfl⟩ := List.mem_map.mp m
      obtain ⟨mk1, mk2⟩ := List.mem_filter.mp mk
      have mk3 := rgI_mem.mp mk1
      have ne : k ≠ (i : Int) := by simpa using mk2
      exact ⟨by show (0 : Int) ≤ (i : Int); omega, hi, mk3.1, by show k < n; omega, fun e => ne e.symm⟩
    have hcn : ((rgI n.toNat).filter fun k => !decide (k = (i : Int))).map (fun k => (((i : Int), k) : Pr)) ≠ [] := by
      obtain ⟨k, hk0, hk1, hk2⟩ : ∃ k : Int, 0 ≤ k ∧ k < n ∧ k ≠ (i : Int) := by
        by_cases h : i = 0
        · exact ⟨1, by omega, by omega, by omega⟩
        · exact ⟨0, by omega, by omega, by omega⟩
      have m : (((i : Int), k) : Pr) ∈ ((rgI n.toNat).filter fun k => !decide (k = (i : Int))).map fun k => (((i : Int), k) : Pr) :=
        List.mem_map.mpr ⟨k, List.mem_filter.mpr ⟨rgI_mem.mpr ⟨hk0, by omega⟩, by simpa using hk2⟩, rfl⟩
      intro e
      rw [e] at m
      cases m
    refine e_setS (xcatV (ds := l.map pD) rfl hx hd ((xlcR (m := n) (fun d => !decide (intOf d = (i : Int))) (fun d => .tuple [.int (i : Int), .int (intOf d)]) (xacons (xvar rfl (.int n)) xanil) (by omega) (by omega) (fun x => rfl) (fun k H3 _ e4 => ?_) (fun k H3 _ e4 _ => ?_)).is hc) (by rw [List.length_map, List.length_map]; omega)) fun q' zs H3 nq e4 hq hdq => ?_
    · exact xT (xneI (xvar rfl (.int _)) (xvar rfl (.int _)))
    · exact xtup (xacons (xvar rfl (.int _)) (xacons (xvar rfl (.int _)) xanil)) (by show 2 ≤ 100000; decide)
    · rw [← List.map_append] at hdq
      refine ⟨_, q', zs, _, rfl, Evl.fresh_back ex nq, ex.trans e4, hq, hdq, fun _ e => ?_, fun s m => ?_, ?_⟩
      · exact hcn (List.append_eq_nil_iff.mp e).2
      · rcases List.mem_append.mp m with m | m
        · exact hvp s m
        · exact hcm s m
      · rw [List.length_append]
        omega
  · obtain ⟨v2, p, xs, l, rfl, np, ex, hx, hd, hne, hvp, hlen⟩ := hp
    exact ⟨.ref p, rfl, q p xs (l.map pD) H' ⟨l, rfl, hne (by omega), hvp, by omega⟩ np ex hx hd⟩
end
end Kt
namespace Kt
open PySem PySem.Spec PyProof.Rows L2
open Evl (Ex Ev EvT EvO)
section
variable {K : PySem.W.Frag} {σ : L2.St} {H H' : Hp} {ta tb te : TE} {t : TT} {d d0 d1 d2 d3 : PyData} {ds : List PyData} {D : Ends} {tu tw tz : TS} {i : Nat} {p : Addr} {xs : List V}
/-- if t: .., both ways go on where J holds -/
theorem z_ifJ {b : Bool} (Jn : L2.St → Hp → Prop) (h : EvT t σ H b) (k : ∀ σ' H', Jn σ' H' → tz D σ' H') (hb : b = true → ∀ Nx : L2.St → Hp → Prop, (∀ σ' H', Jn σ' H' → Nx σ' H') → ∀ H1, Ex H H1 → tu { D with nx := Nx } σ H1)
    (h2 : b = false → ∀ H1, Ex H H1 → Jn σ H1) : tSeq (tIfS t tu tNext) tz D σ H := z_if h (fun e H1 e1 => hb e _ k H1 e1) (fun e H1 e1 => k _ _ (h2 e H1 e1))
/-- tuple(range(m)) -/
theorem xtupRg {m : Int} (h : EvD ta σ H (.int m)) (h0 : 0 ≤ m ∧ m ≤ 1000) : EvD (tTupRg (tRg1 ta)) σ H (sD (rgI m.toNat)) := fun H1 e _ q =>
  h H1 e _ fun v H2 e2 hv => ⟨m, hv.int_inv, ⟨by omega, by omega, by omega, by omega, by omega⟩, fun T nT => q _ _ (e2.trans (Ex.new nT)) (.tup upd_same (by rw [rgV_I]; exact DtAll.of_ints))⟩
/-- a word that is not this one -/
theorem xeqSN {P : PyData → Prop} {w : Str} (ha : EvN ta σ H P) (hb : EvD tb σ H (.str w)) (hP : ∀ d, P d → ∃ s, d = .str s ∧ s ≠ w) : EvD (tOp rEq ta tb) σ H (.bool false) := fun H1 e _ q =>
  ha H1 e _ fun x d H2 hp e2 hx => hb H2 (e.trans e2) _ fun y H3 e3 hy => by
    obtain ⟨s, rfl, hs⟩ := hP d hp
    rw [hx.str_inv, hy.str_inv]
    refine ⟨rfl, ?_⟩
    have z : decide (V.str s = V.str w) = false := by simp [hs]
    rw [z]
    exact q _ H3 (e2.trans e3) (.bl _)
/-- [.. for x in xs], xs a list in a slot -/
theorem xlcV {j : Nat} {vs : List Nat} (f : PyData → Bool) (g : PyData → PyData) (hv : σ[i]? = some (some (.ref p))) (hp : H p = some (.lst xs)) (hs : DtAll H xs ds) (hl : ds.length ≤ 50000) (hw : ∀ x, wipe ((wipe σ vs).set j (some x)) vs = wipe σ vs)
    (ht : ∀ d v H1, d ∈ ds → Ex H H1 → Dt H1 v d → EvT t ((wipe σ vs).set j (some v)) H1 (f d)) (he : ∀ d v H1, d ∈ ds → Ex H H1 → Dt H1 v d → f d = true → EvD te ((wipe σ vs).set j (some v)) H1 (g d)) :
    EvS (tLc (iList K (tVar i)) (gName j) t te vs) σ H (giv f g ds) := fun H1 e Q q => ⟨.ref p, hv, by
  have hh := e p _ hp
  have hs' := hs.mono (tx e)
  refine ⟨p, rfl, ⟨xs, SqL.of hh⟩, fun L hL => ?_⟩
  refine lc_list (xs := xs) (fun i H' => Cw H1 L (giv f g (ds.take i)) H') (Cw.start hL) (fun i H' _ c => SqL.of (c.ex p _ hh)) (fun i x H' hi c => ⟨hw x, ?_⟩) fun H' c => ?_
  · obtain ⟨d, hd, hxd⟩ := hs'.getV hi
    have hm : d ∈ ds := List.mem_of_getElem? hd
    have hlen : (giv f g (ds.take i)).length < 100000 := by
      have h1 := giv_len f g (ds.take i)
      have h2 : (ds.take i).length ≤ ds.length := by rw [List.length_take]; exact Nat.min_le_right _ _
      omega
    refine cw_turn (dd := g d) c hlen (ht d x H1 hm e hxd) (fun hb => he d x H1 hm e hxd hb) fun H2 c2 => ?_
    show Cw H1 L (giv f g (ds.take (i + 1))) H2
    rw [take_snoc hd, giv_snoc]
    exact c2
  · obtain ⟨n, ex, ys, hy, hd⟩ := c
    rw [List.take_of_length_le (by rw [hs'.length] <;> exact Nat.le_refl _)] at hd
    exact q L ys H' n ex hy hd⟩
theorem tLst_i {ta : TA} {Q : VK} (h : ta σ H fun xs H1 => xs.length ≤ sizeLine ∧ ∀ p, H1 p = none → Q (.ref p) (upd H1 p (.lst xs))) : tLst ta σ H Q := h
theorem tSA_i {g : TG} (h : te σ H fun x H1 => g x σ H1 (tz D)) : tSeq (tAsg te g) tz D σ H := h
theorem tOp_i {r : R2} {Q : VK} (h : ta σ H fun x H1 => tb σ H1 fun y H2 => r x y H2 Q) : tOp r ta tb σ H Q := h
theorem tCB_i {r : List V → Hp → VK → Prop} {ta : TA} {Q : VK} (h : ta σ H fun vs H1 => r vs H1 Q) : tCB r ta σ H Q := h
theorem tCons_i {tr : TA} {Q : List V → Hp → Prop} (h : ta σ H fun x H1 => tr σ H1 fun xs H2 => Q (x :: xs) H2) : tCons ta tr σ H Q := h
/-- [u, v] not in [[a1, b1], [a2, b2], [a3, b3]], words -/
def lD2 (u v : Str) : PyData := .list [.str u, .str v]
theorem lD2_lay {u v : Str} (h : PyData.strOk u = true ∧ PyData.strOk v = true) : (lD2 u v).canLay0 = true := by simp [lD2, PyData.canLay0, PyData.canLayAll0, h.1, h.2]
theorem lD2_depth (u v : Str) : (lD2 u v).depth = 1 := by simp [lD2, PyData.depth, PyData.depthAll]
theorem lD2_shaped {u v : Str} (ok : PyData.strOk u = true ∧ PyData.strOk v = true) : SeqAt.shaped (lD2 u v) = true := by
  have h := lD2_depth u v
  show ((lD2 u v).canLay0 && decide ((lD2 u v).depth ≤ 64)) = true
  rw [Bool.and_eq_true]
  exact ⟨lD2_lay ok, decide_eq_true (by omega)⟩
theorem lD2s_shaped {u1 v1 u2 v2 u3 v3 : Str} (o1 : PyData.strOk u1 = true ∧ PyData.strOk v1 = true) (o2 : PyData.strOk u2 = true ∧ PyData.strOk v2 = true) (o3 : PyData.strOk u3 = true ∧ PyData.strOk v3 = true) : SeqAt.shaped (.list [lD2 u1 v1, lD2 u2 v2, lD2 u3 v3]) = true := by
  have h1 := lD2_depth u1 v1
  have h2 := lD2_depth u2 v2
  have h3 := lD2_depth u3 v3
  have h4 := lD2_lay o1
  have h5 := lD2_lay o2
  have h6 := lD2_lay o3
  show ((PyData.list [lD2 u1 v1, lD2 u2 v2, lD2 u3 v3]).canLay0 && decide ((PyData.list [lD2 u1 v1, lD2 u2 v2, lD2 u3 v3]).depth ≤ 64)) = true
  rw [Bool.and_eq_true]
  refine ⟨by simp [PyData.canLay0, PyData.canLayAll0, h4, h5, h6], decide_eq_true ?_⟩
  unfold PyData.depth
  simp only [PyData.depthAll]
  omega
theorem lD2_eqv (u v u' v' : Str) : PyData.eqv (lD2 u v) (lD2 u' v') = (decide (u = u') && decide (v = v')) := by
  simp only [lD2, PyData.eqv, PyData.eqvAll, Bool.and_true]
  by_cases hx : u = u' <;> by_cases hy : v = v' <;> simp [hx, hy]
theorem xnotin3 {u v a1 b1 a2 b2 a3 b3 : Str} (hv : σ[i]? = some (some (.ref p))) (hp : H p = some (.lst xs)) (hd : DtAll H xs [.str u, .str v]) (h : (u = a1 ∧ v = b1) ∨ (u = a2 ∧ v = b2) ∨ (u = a3 ∧ v = b3)) (o1 : PyData.strOk a1 = true ∧ PyData.strOk b1 = true) (o2 : PyData.strOk a2 = true ∧ PyData.strOk b2 = true) (o3 : PyData.strOk a3 = true ∧ PyData.strOk b3 = true) :
    EvT (tTest (tOp (rNotInD K) (tVar i) (tLst (tCons (tLst (tCons (tC (.str a1)) (tCons (tC (.str b1)) tNil))) (tCons (tLst (tCons (tC (.str a2)) (tCons (tC (.str b2)) tNil))) (tCons (tLst (tCons (tC (.str a3)) (tCons (tC (.str b3)) tNil))) tNil)))))) σ H false := fun H1 e Q q => by
  have o0 : PyData.strOk u = true ∧ PyData.strOk v = true := by
    rcases h with ⟨rfl, rfl⟩ | ⟨rfl, rfl⟩ | ⟨rfl, rfl⟩
    · exact o1
    · exact o2
    · exact o3
  refine ⟨.ref p, hv, ?_⟩
  refine tLst_i (tCons_i ?_)
  refine xlst (xacons xstr (xacons xstr xanil)) (by show 2 ≤ 100000; decide) H1 e _ fun q1 xs1 H2 n1 e1 h1 d1 => tCons_i ?_
  refine xlst (xacons xstr (xacons xstr xanil)) (by show 2 ≤ 100000; decide) H2 (e.trans e1) _ fun q2 xs2 H3 n2 e2 h2 d2 => tCons_i ?_
  refine xlst (xacons xstr (xacons xstr xanil)) (by show 2 ≤ 100000; decide) H3 ((e.trans e1).trans e2) _ fun q3 xs3 H4 n3 e3 h3 d3 => ?_
  refine ⟨by show 3 ≤ sizeLine; decide, fun q4 n4 => ?_⟩
  have e4 := Ex.new (o := .lst [.ref q1, .ref q2, .ref q3]) n4
  have eA := ((((e.trans e1).trans e2).trans e3).trans e4)
  refine ⟨lD2 u v, [lD2 a1 b1, lD2 a2 b2, lD2 a3 b3], .lst (SqL.of (eA p _ hp)) (hd.mono (tx eA)).dp, .lst (SqL.of upd_same) (.cons (.lst (SqL.of (e4 _ _ (e3 _ _ (e2 _ _ h1)))) (d1.mono (tx ((e2.trans e3).trans e4))).dp) (.cons (.lst (SqL.of (e4 _ _ (e3 _ _ h2))) (d2.mono (tx (e3.trans e4))).dp) (.cons (.lst (SqL.of (e4 _ _ h3)) (d3.mono (tx e4)).dp) .nil))), lD2_shaped o0, lD2s_shaped o1 o2 o3, ?_⟩
  have z : ([lD2 a1 b1, lD2 a2 b2, lD2 a3 b3].any fun z => PyData.eqv z (lD2 u v)) = true := by
    rw [List.any_cons, List.any_cons, List.any_cons, List.any_nil, lD2_eqv, lD2_eqv, lD2_eqv]
    rcases h with ⟨rfl, rfl⟩ | ⟨rfl, rfl⟩ | ⟨rfl, rfl⟩ <;> simp
  rw [z]
  exact ⟨false, rfl, q _ (((e1.trans e2).trans e3).trans e4)⟩
end
theorem map_constF (ds : List PyData) : ds.map (fun _ => PyData.bool false) = (List.replicate ds.length false).map .bool := by
  induction ds with
  | nil => rfl
  | cons d ds ih => rw [List.map_cons, ih]; rfl
theorem any_rep (n : Nat) : (List.replicate n false).any id = false := by
  induction n with
  | zero => rfl
  | succ n ih => rw [List.replicate_succ, List.any_cons, ih]; rfl
/-- one of a list's pairs -/
theorem pick {H : Hp} {xs : List V} {l : List Pr} {d : Int} (h : DtAll H xs (l.map pD)) (d0 : 0 ≤ d) (d1 : d < xs.length) : ∃ v p, atI xs d = some v ∧ p ∈ l ∧ Dt H v (pD p) := by
  obtain ⟨v, h1, h2⟩ := atI_in d0 d1
  obtain ⟨p, mp, hp⟩ := h.map_of v h2
  exact ⟨v, p, h1, mp, hp⟩
theorem cut3 (a b c : V) (r : List V) : cutV (a :: b :: c :: r) none (some 3) = [a, b, c] := by
  unfold cutV
  have h1 : HT.sIx (a :: b :: c :: r).length 0 none = 0 := rfl
  have h2 : HT.sIx (a :: b :: c :: r).length (a :: b :: c :: r).length (some 3) = 3 := by
    rw [show (3 : Int) = ((3 : Nat) : Int) from rfl, HT.sIx_nat, List.length_cons, List.length_cons, List.length_cons]
    omega
  rw [h1, h2]
  rfl
theorem three {n : Int} {row : List Int} (h3 : 2 < n) (pm : row.Perm (rgI n.toNat)) : ∃ x y z r, row = x :: y :: z :: r ∧ Ask.ok n (.btw x y z) := by
  have len := pm.length_eq
  rw [rgI_len] at len
  have nd : row.Nodup := pm.nodup_iff.mpr (rgI_nd _)
  have mem : ∀ e ∈ row, 0 ≤ e ∧ e < n := fun e m => by
    have q := rgI_mem.mp (pm.mem_iff.mp m)
    omega
  match row, len, nd, mem with
  | [], len, _, _ => simp at len; omega
  | [_], len, _, _ => simp at len; omega
  | [_, _], len, _, _ => simp at len; omega
  | x :: y :: z :: r, _, nd, mem =>
    refine ⟨x, y, z, r, rfl, mem x (by simp), mem y (by simp), mem z (by simp), ?_, ?_, ?_⟩
    · rintro rfl; simp at nd
    · rintro rfl; simp at nd
    · rintro rfl; simp at nd
section
variable {P : Program} {w : World} {K : PySem.W.Frag} {mg : Str → Option Value} {base : Heap}
/-- the law holds at a script -/
def spLaw (K : PySem.W.Frag) : Sp := fun vs H Q _ => ∃ (a : Addr) (ns : List Int), vs = [.ref a] ∧ SqL K H a (ns.map V.int) ∧ ∀ H', Q (.bl true) H'
/-- what the law's state is, from the middle on -/
def LawJ (n : Int) (S : List (List Int)) (a s l p3 p6 : Addr) (v2 v4 v5 : V) (σ' : L2.St) (H' : Hp) : Prop :=
  ∃ v8 v9 v10 v11 : Option V, σ' = [some (.ref a), some (.ref s), some v2, some (.ref p3), some v4, some v5, some (.ref p6), none, v8, v9, v10, v11, none] ∧ Strm H' s l ∧ Dt H' v2 (SD n S)
theorem fn_law {f0 : Addr} {fd : FuncData} (F : Fun K "law" "law" s_law f0 fd) (B : Bi mg) (O_law_stream : Ok P w K mg base "_law_stream" 1 ["_law_script"] (spStream K))
    (O_law_next : Ok P w K mg base "_law_next" 1 ["_law_stream_here", "_law_many"] spNext) (O_law_shuffled : Ok P w K mg base "_law_shuffled" 2 ["_law_stream_here", "_law_many"] spShuf)
    (O_law_system : Ok P w K mg base "_law_system" 3 ["_law_stream_here", "_law_least", "_law_most", "_law_many"] spSystem) (O_law_keeping : Ok P w K mg base "_law_keeping" 3 ["_law_system_here"] (spL R_keeping))
    (O_law_pairs : Ok P w K mg base "_law_pairs" 1 ["_law_size"] (spL R_pairs)) (O_told : Ok P w K mg base "told" 8 ["system", "asked"] (spN R_told)) : FnOk P w K mg base CX0 9 f0 fd ["_law_script"] (spLaw K) := by
  refine F.ok sc_law (fun vs H Q E h => by obtain ⟨a, ns, rfl, _⟩ := h; rfl) fun cdv A outer s0 H vs Q E hr h => ?_
  obtain ⟨a, ns, rfl, isL, q⟩ := h
  have hu65 := room65 hr
  refine ⟨_, (pss_cons (ps_set (i := 1) sc_law.nd rfl (.inl rfl) (pe_callOk O_law_stream (hr.mono (by decide)) (by rfl) (pa_cons (pv 0) pa_nil)))
      (pss_cons (ps_set (i := 2) sc_law.nd rfl (.inr rfl) (pe_callOk O_law_system (hr.mono (by decide)) (by rfl) (pa_cons (pv 1) (pa_cons pe_int (pa_cons pe_int (pa_cons pe_int pa_nil))))))
      (pss_cons (ps_if (pt_not (pt_truth (pe_callOk O_law_keeping (hr.mono (by decide)) (by rfl) (pa_cons (pv 2) pa_nil)) (by intro _; rfl))) (pss_one (ps_ret pe_bl)) pss_nil)
      (pss_cons (ps_set (i := 3) sc_law.nd rfl (.inl rfl) (pe_callOk O_law_pairs (hr.mono (by decide)) (by rfl) (pa_cons (pe_ix (ixT (K := K)) (pv 2) pe_int (fun _ _ => rfl)) pa_nil)))
      (pss_cons (ps_set (i := 4) sc_law.nd rfl (.inl rfl) (pe_ix ix_list (pv 3) (pe_callOk O_law_next (hr.mono (by decide)) (by rfl) (pa_cons (pv 1) (pa_cons (pe_callB call_len_seq (by rfl) B.len (by decide +kernel) (pa_cons (pv 3) pa_nil)) pa_nil))) (fun _ _ => rfl)))
      (pss_cons (ps_set (i := 5) sc_law.nd rfl (.inl rfl) (pe_ix ix_list (pv 3) (pe_callOk O_law_next (hr.mono (by decide)) (by rfl) (pa_cons (pv 1) (pa_cons (pe_callB call_len_seq (by rfl) B.len (by decide +kernel) (pa_cons (pv 3) pa_nil)) pa_nil))) (fun _ _ => rfl)))
      (pss_cons (ps_set (i := 6) sc_law.nd rfl (.inl rfl) (pe_lst (pa_cons (pe_callOk O_told (hr.mono (by decide)) (by rfl) (pa_cons (pv 2) (pa_cons (pe_tup (pa_cons pe_str (pa_cons (pv 4) (pa_cons (pv 5) pa_nil)))) pa_nil))) (pa_cons (pe_callOk O_told (hr.mono (by decide)) (by rfl) (pa_cons (pv 2) (pa_cons (pe_tup (pa_cons pe_str (pa_cons (pv 4) (pa_cons (pe_rev2 (pv 5)) pa_nil)))) pa_nil))) pa_nil))))
      (pss_cons (ps_if (pt_cmpR (op_notInD hu65) (pv 6) (pe_lst (pa_cons (pe_lst (pa_cons pe_str (pa_cons pe_str pa_nil))) (pa_cons (pe_lst (pa_cons pe_str (pa_cons pe_str pa_nil))) (pa_cons (pe_lst (pa_cons pe_str (pa_cons pe_str pa_nil))) pa_nil)))) rfl) (pss_one (ps_ret pe_bl)) pss_nil)
      (pss_cons (ps_if (pt_cmpR op_ne (pe_callOk O_told (hr.mono (by decide)) (by rfl) (pa_cons (pv 2) (pa_cons (pe_tup (pa_cons pe_str (pa_cons (pv 5) (pa_cons (pv 4) pa_nil)))) pa_nil))) (pe_ix ix_list (pv 6) pe_int (fun _ _ => rfl)) (nomark _)) (pss_one (ps_ret pe_bl)) pss_nil)
      (pss_cons (ps_if (pt_cmpR op_gt (pe_ix (ixT (K := K)) (pv 2) pe_int (fun _ _ => rfl)) pe_int (nomark _)) (pss_cons (ps_asg (pe_slice sl_list (pe_callOk O_law_shuffled (hr.mono (by decide)) (by rfl) (pa_cons (pv 1) (pa_cons (pe_ix (ixT (K := K)) (pv 2) pe_int (fun _ _ => rfl)) pa_nil))) po_none (po_some pe_int)) (pg_unl rfl (pgs_cons (pg_name (i := 8) sc_law.nd rfl (.inl rfl)) (pgs_cons (pg_name (i := 9) sc_law.nd rfl (.inl rfl)) (pgs_cons (pg_name (i := 10) sc_law.nd rfl (.inl rfl)) pgs_nil)))))
      (pss_cons (ps_set (i := 11) sc_law.nd rfl (.inl rfl) (pe_callOk O_told (hr.mono (by decide)) (by rfl) (pa_cons (pv 2) (pa_cons (pe_tup (pa_cons pe_str (pa_cons (pv 8) (pa_cons (pv 9) (pa_cons (pv 10) pa_nil))))) pa_nil))))
      (pss_one (ps_if (PW.pt (pw_or (pt_cmpR op_ne (pv 11) (pe_callOk O_told (hr.mono (by decide)) (by rfl) (pa_cons (pv 2) (pa_cons (pe_tup (pa_cons pe_str (pa_cons (pe_tup (pa_cons (pv 8) (pa_cons (pv 9) pa_nil))) (pa_cons (pe_tup (pa_cons (pv 9) (pa_cons (pv 10) pa_nil))) pa_nil)))) pa_nil))) (nomark _)) (pw_or1 (pt_cmpR op_ne (pv 11) (pe_callOk O_told (hr.mono (by decide)) (by rfl) (pa_cons (pv 2) (pa_cons (pe_tup (pa_cons pe_str (pa_cons (pv 10) (pa_cons (pv 9) (pa_cons (pv 8) pa_nil))))) pa_nil))) (nomark _))))) (pss_one (ps_ret pe_bl)) pss_nil)))) pss_nil)
      (pss_cons (ps_set (i := 7) sc_law.nd rfl (.inl rfl) (pe_op op_cat (pe_callTy call_list_of (by rfl) B.list (by decide +kernel) (pa_cons (pe_ix (ixT (K := K)) (pv 2) pe_int (fun _ _ => rfl)) pa_nil)) (pe_lst (pa_cons (pe_tup pa_nil) (pa_cons (pe_tup (pa_cons (pe_callOk O_law_next (hr.mono (by decide)) (by rfl) (pa_cons (pv 1) (pa_cons (pe_ix (ixT (K := K)) (pv 2) pe_int (fun _ _ => rfl)) pa_nil))) pa_nil)) (pa_cons (pe_tupRg rfl (by rfl) B.tuple (prg_1 (by rfl) B.range (pe_ix (ixT (K := K)) (pv 2) pe_int (fun _ _ => rfl)))) pa_nil))))))
      (pss_cons (ps_if (pt_not (pt_val (pe_callB (cr_all rfl) (by rfl) B.all (by decide +kernel) (pa_cons (pe_lc (own := [("_law_chosen", 12)]) (g := gName 12) (tt := tYes) rfl sc_law.nd (pi_list (pv 7)) (blkOk_by (N := N_law) (sc := defScope s_law) (by decide +kernel)) (fun _ _ _ _ _ => (pg_name (i := 12) sc_law.nd rfl (.inl rfl))) (fun _ _ _ _ _ => pts_nil) (fun _ _ _ _ _ => (pe_cmpR op_eq (pe_callOk O_told (hr.mono (by decide)) (by rfl) (pa_cons (pv 2) (pa_cons (pe_tup (pa_cons pe_str (pa_cons (pv 12) pa_nil))) pa_nil))) pe_str (nomark _)))) pa_nil)))) (pss_one (ps_ret pe_bl)) pss_nil)
      (pss_one (ps_ret (pe_not (pe_callB (cr_any rfl) (by rfl) B.any (by decide +kernel) (pa_cons (pe_lc (own := [("_law_x", 8)]) (g := gName 8) (tt := tYes) rfl sc_law.nd (pi_range1 rfl B.range (pa_cons (pe_ix (ixT (K := K)) (pv 2) pe_int (fun _ _ => rfl)) pa_nil)) (blkOk_by (N := N_law) (sc := defScope s_law) (by decide +kernel)) (fun _ _ _ _ _ => (pg_name (i := 8) sc_law.nd rfl (.inl rfl))) (fun _ _ _ _ _ => pts_nil) (fun _ _ _ _ _ => (pe_cmpR op_eq (pe_callOk O_told (hr.mono (by decide)) (by rfl) (pa_cons (pv 2) (pa_cons (pe_tup (pa_cons pe_str (pa_cons (pv 8) pa_nil))) pa_nil))) pe_str (nomark _)))) pa_nil))))))))))))))))), ?_⟩
  -- stream, system
  refine ⟨.ref a, rfl, a, ns, rfl, isL, fun s l H1 n1 e1 S1 => ?_⟩
  refine ⟨.ref s, rfl, s, l, rfl, S1, fun v2 n S H2 hS h2 x2 S2 => ?_⟩
  have n2 := hS.n2
  have n5 := hS.n5
  have few := hS.few
  -- keeping
  refine ⟨v2, rfl, [SD n S], _, .cons h2 .nil, ⟨n, S, rfl, hS, rfl⟩, fun pk xsk esk H3 ⟨rows, hes, hrows⟩ _ e3 hxk hdk => ⟨!xsk.isEmpty, .inl ⟨xsk, SqL.of hxk, rfl⟩, ?_⟩⟩
  subst hes
  cases rows with
  | nil =>
    have ex0 : xsk = [] := by cases hdk; rfl
    subst ex0
    exact iteT (q H3)
  | cons r rows =>
  have hne : xsk.isEmpty = false := by
    cases xsk with
    | nil => cases hdk
    | cons _ _ => rfl
  rw [hne]
  refine iteF ?_
  have nc : Nc n S := nc_of hS.sets ((hrows r List.mem_cons_self).1.ok (by omega)) (hrows r List.mem_cons_self).2
  have S3 := S2.mono e3
  have h3 := h2.mono (tx e3)
  clear hrows hdk hxk hne
  -- pairs
  refine z_setSN (xcallL (xacons (xix (xvar rfl h3) xint sd0) xanil) ⟨n, rfl, n2, n5, rfl⟩) fun p3 xs3 es3 H4 ⟨l3, hes, l3n, l3v, l3l⟩ np3 e4 hx4 hd4 => ?_
  subst hes
  have S4 := S3.mono e4
  have h4 := h3.mono (tx e4)
  have p3s := (S3.ne np3).1
  have len3 : xs3.length = l3.length := by rw [hd4.length, List.length_map]
  have pos3 : 0 < l3.length := List.length_pos_iff.mpr l3n
  -- one
  refine ⟨.ref p3, rfl, .ref s, rfl, .ref p3, rfl, p3, xs3, rfl, .inl (SqL.of hx4), s, l, (xs3.length : Int), rfl, S4, by omega, by omega, fun d H5 d0 d1 x5 S5 => ?_⟩
  obtain ⟨v4, p, hat4, mp, hp4⟩ := pick hd4 d0 d1
  have hx5 := x5 p3 _ hx4 p3s
  have t5 := S4.tx x5
  refine ⟨p3, xs3, d, v4, rfl, rfl, SqL.of hx5, hat4, ?_⟩
  -- other
  refine ⟨.ref p3, rfl, .ref s, rfl, .ref p3, rfl, p3, xs3, rfl, .inl (SqL.of hx5), s, l, (xs3.length : Int), rfl, S5, by omega, by omega, fun d' H6 d0' d1' x6 S6 => ?_⟩
  obtain ⟨v5, r', hat5, mr, hp5⟩ := pick hd4 d0' d1'
  have hx6 := x6 p3 _ hx5 p3s
  have t6 := t5.trans (S5.tx x6)
  refine ⟨p3, xs3, d', v5, rfl, rfl, SqL.of hx6, hat5, ?_⟩
  have h6 := h4.mono t6
  have k4 := hp4.mono t6
  have k5 := hp5.mono t6
  have vp := l3v p mp
  have vr := l3v r' mr
  clear hx4 hx5 hx6 hd4 hat4 hat5
  -- both
  refine z_setS (xlst (xacons (xcall (d := .str (eqvW S p r')) (xacons (xvar rfl h6) (xacons (xtup (xacons xstr (xacons (xvar rfl k4) (xacons (xvar rfl k5) xanil))) (by show 3 ≤ 100000; decide)) xanil)) ⟨n, S, .eqv p r', rfl, hS, nc, ⟨vp, vr⟩, trivial, rfl⟩)
    (xacons (xcall (d := .str (eqvW S p (rv r'))) (xacons (xvar rfl h6) (xacons (xtup (xacons xstr (xacons (xvar rfl k4) (xacons (xrev2 (xvar rfl k5)) xanil))) (by show 3 ≤ 100000; decide)) xanil)) ⟨n, S, .eqv p (rv r'), rfl, hS, nc, ⟨vp, vr.rv⟩, trivial, rfl⟩) xanil)) (by show 2 ≤ 100000; decide)) fun p6 xs6 H7 np6 e7 hx7 hd7 => ?_
  have h7 := h6.mono (tx e7)
  have k4' := k4.mono (tx e7)
  have k5' := k5.mono (tx e7)
  have S7 := S6.mono e7
  refine z_skip (xnotin3 rfl hx7 hd7 (eqvW_rev nc vr) (by decide +kernel) (by decide +kernel) (by decide +kernel)) fun H8 e8 => ?_
  have h8 := h7.mono (tx e8)
  have S8 := S7.mono e8
  refine z_skip (Evl.et_is (xT (xneS (xcall (d := .str (eqvW S r' p)) (xacons (xvar rfl h8) (xacons (xtup (xacons xstr (xacons (xvar rfl (k5'.mono (tx e8))) (xacons (xvar rfl (k4'.mono (tx e8))) xanil))) (by show 3 ≤ 100000; decide)) xanil)) ⟨n, S, .eqv r' p, rfl, hS, nc, ⟨vr, vp⟩, trivial, rfl⟩) (xixL rfl (e8 _ _ hx7) (hd7.mono (tx e8)) xint (atI_nat (j := 0) rfl)))) (by rw [eqvW_comm]; simp)) fun H9 e9 => ?_
  have h9 := h8.mono (tx e9)
  have S9 := S8.mono e9
  -- three elements
  refine z_ifJ (LawJ n S a s l p3 p6 v2 v4 v5) (xT (xgt (xix (xvar rfl h9) xint sd0) xint)) (fun σ' H' hJ => ?_) (fun hb Nx hN H10 e10 => ?_) (fun _ H10 e10 => ⟨none, none, none, none, rfl, S9.mono e10, h9.mono (tx e10)⟩)
  · obtain ⟨v8, v9, v10, v11, rfl, SJ, hJ⟩ := hJ
    -- sure
    refine tSA_i (tOp_i (tCB_i (tCons_i ?_)))
    refine xix (xvar rfl hJ) xint sd1 _ (Ex.refl _) _ fun v HA eA hv => ?_
    obtain ⟨b, xs, rfl, hb, hds⟩ := hv.tup_inv
    have hA := hJ.mono (tx eA)
    have SA := SJ.mono eA
    refine ⟨b, xs, rfl, .inr (SqT.of hb), fun L nL => ?_⟩
    have eB := Ex.new (o := .lst xs) nL
    have hL : upd HA L (.lst xs) L = some (.lst xs) := upd_same
    have SB := SA.mono eB
    have sL := (SA.ne nL).1
    have hB := hA.mono (tx eB)
    have dB := hds.mono (tx eB)
    generalize upd HA L (.lst xs) = HB at eB hL SB hB dB ⊢
    -- ()
    refine tLst_i (tCons_i ?_)
    refine xtup xanil (by show 0 ≤ 100000; decide) HB (Ex.refl _) _ fun t0 HC eC ht0 => tCons_i ?_
    have hC := hB.mono (tx eC)
    have SC := SB.mono eC
    -- (next,)
    refine ⟨.ref s, rfl, ?_⟩
    refine tCons_i ?_
    refine xix (xvar rfl hC) xint sd0 HC (Ex.refl _) _ fun v HD eD hv => ?_
    obtain rfl := hv.int_inv
    have SD' := SC.mono eD
    refine ⟨s, l, n, rfl, SD', by omega, by omega, fun k HE k0 k1 xE SE => ⟨by show 1 ≤ sizeLine; decide, fun T1 nT1 => tCons_i ?_⟩⟩
    have tE := SD'.tx xE
    have eF := Ex.new (o := .tup [.int k]) nT1
    have ht1 : Dt (upd HE T1 (.tup [.int k])) (.ref T1) (sD [k]) := .tup upd_same (.cons (.int k) .nil)
    have hF := ((hC.mono (tx eD)).mono tE).mono (tx eF)
    have SF := SE.mono eF
    have ht0F := ((ht0.mono (tx eD)).mono tE).mono (tx eF)
    have dF := (((dB.mono (tx eC)).mono (tx eD)).mono tE).mono (tx eF)
    have hLF := eF _ _ (xE _ _ (eD _ _ (eC _ _ hL)) sL)
    generalize upd HE T1 (.tup [.int k]) = HF at eF ht1 hF SF ht0F dF hLF ⊢
    -- tuple(range)
    refine xtupRg (xix (xvar rfl hF) xint sd0) ⟨by omega, by omega⟩ HF (Ex.refl _) _ fun t2 HG eG ht2 => ?_
    refine ⟨by show 3 ≤ sizeLine; decide, fun L2 nL2 => ?_⟩
    have eH := Ex.new (o := .lst [t0, .ref T1, t2]) nL2
    have hxs : xs.length = S.length := by rw [hds.length, List.length_map]
    refine ⟨L, L2, xs, [t0, .ref T1, t2], rfl, rfl, eH _ _ (eG _ _ hLF), upd_same, Evl.sz_of (by rw [hxs]; show S.length + 3 ≤ 100000; omega), fun L3 nL3 => ?_⟩
    have eI := Ex.new (o := .lst (xs ++ [t0, .ref T1, t2])) nL3
    have eGI := (eG.trans eH).trans eI
    have dI : DtAll (upd (upd HG L2 (.lst [t0, .ref T1, t2])) L3 (.lst (xs ++ [t0, .ref T1, t2]))) (xs ++ [t0, .ref T1, t2]) ((S ++ [[], [k], rgI n.toNat]).map sD) := by
      rw [List.map_append]
      exact (dF.mono (tx eGI)).append (.cons (ht0F.mono (tx eGI)) (.cons (ht1.mono (tx eGI)) (.cons (ht2.mono (tx (eH.trans eI))) .nil)))
    have hI := hF.mono (tx eGI)
    have hL3 : upd (upd HG L2 (.lst [t0, .ref T1, t2])) L3 (.lst (xs ++ [t0, .ref T1, t2])) L3 = some (.lst (xs ++ [t0, .ref T1, t2])) := upd_same
    generalize upd (upd HG L2 (.lst [t0, .ref T1, t2])) L3 (.lst (xs ++ [t0, .ref T1, t2])) = HI at dI hI hL3 ⊢
    clear eI eGI eH
    have all : ∀ c ∈ S ++ [[], [k], rgI n.toNat], SetOk n c ∧ TogAll n S c := fun c m => by
      rcases List.mem_append.mp m with m | m
      · exact ⟨hS.sets c m, togAll_set m⟩
      · rcases List.mem_cons.mp m with e | m
        · rw [e]; exact ⟨⟨.nil, fun _ z => (nomatch z), by show 0 ≤ 8; decide⟩, togAll_nil⟩
        · rcases List.mem_cons.mp m with e | m
          · rw [e]; exact ⟨⟨List.pairwise_singleton _ _, fun e me => by rw [List.mem_singleton.mp me]; exact ⟨k0, k1⟩, by show 1 ≤ 8; decide⟩, togAll_one⟩
          · rw [List.mem_singleton.mp m]
            exact ⟨setOk_sub (by omega) (List.Sublist.refl _), togAll_full fun z z0 z1 => rgI_mem.mpr ⟨z0, by omega⟩⟩
    have hc : giv (fun _ => true) (fun _ => .bool true) ((S ++ [[], [k], rgI n.toNat]).map sD) = (List.replicate ((S ++ [[], [k], rgI n.toNat]).map sD).length true).map .bool := by
      rw [giv_all _ _ fun _ _ => rfl]
      exact map_const _
    have hc0 : giv (fun _ => true) (fun _ => .bool false) (rgD n.toNat) = (List.replicate (rgD n.toNat).length false).map .bool := by
      rw [giv_all _ _ fun _ _ => rfl]
      exact map_constF _
    refine z_skip (Evl.et_is (Evl.et_not (xB (xall ((xlcV (fun _ => true) (fun _ => .bool true) rfl hL3 dI (by rw [List.length_map, List.length_append]; show S.length + 3 ≤ 50000; omega) (fun x => rfl) (fun d v H1 m e hv => etY) (fun d v H1 m e hv _ => ?_)).is hc)))) (by rw [all_rep]; rfl)) fun HJ eJ => ?_
    · obtain ⟨c, mc, rfl⟩ := List.mem_map.mp m
      exact (xeqS (xcall (d := .str "always") (xacons (xvar rfl (hI.mono (tx e))) (xacons (xtup (xacons xstr (xacons (xvar rfl hv) xanil)) (by show 2 ≤ 100000; decide)) xanil)) ⟨n, S, .tog c, rfl, hS, nc, (all c mc).1, (all c mc).2, rfl⟩) xstr).is (by rw [decide_eq_true rfl])
    · have hJ' := hI.mono (tx eJ)
      refine e_ret (xnot (xany ((xlcR (m := n) (fun _ => true) (fun _ => .bool false) (xacons (xix (xvar rfl hJ') xint sd0) xanil) (by omega) (by omega) (fun x => rfl) (fun i H1 hi e => etY) (fun i H1 hi e _ => ?_)).is hc0))) fun v HK eK hv => ?_
      · exact xeqSN (xcallN (P := tolP S (.fst (i : Int))) (xacons (xvar rfl (hJ'.mono (tx e))) (xacons (xtup (xacons xstr (xacons (xvar rfl (.int _)) xanil)) (by show 2 ≤ 100000; decide)) xanil)) ⟨n, S, .fst (i : Int), rfl, hS, nc, ⟨by omega, hi⟩, trivial, rfl⟩) xstr fun d hd => by
          rcases hd with e | e
          · exact ⟨_, e, by decide +kernel⟩
          · exact ⟨_, e, by decide +kernel⟩
      · rw [any_rep] at hv
        rw [hv.bl_inv]
        exact q HK
  · have h3n : 2 < n := of_decide_eq_true hb
    have h10 := h9.mono (tx e10)
    have S10 := S9.mono e10
    refine ⟨.ref s, rfl, xix (xvar rfl h10) xint sd0 _ (Ex.refl _) _ fun v H11 e11 hv => ?_⟩
    obtain rfl := hv.int_inv
    have S11 := S10.mono e11
    refine ⟨s, l, n, rfl, S11, by omega, by omega, fun pr row H12 pm npr hrow x12 S12 => ?_⟩
    obtain ⟨x, y, z, rest, rfl, ok⟩ := three h3n pm
    refine ⟨3, rfl, pr, _, rfl, SqL.of hrow, fun p8 n8 => ?_⟩
    rw [List.map_cons, List.map_cons, List.map_cons, cut3]
    refine ⟨p8, _, rfl, SqL.of upd_same, rfl, .int x, _, rfl, .int y, _, rfl, .int z, _, rfl, rfl, ?_⟩
    have e13 := Ex.new (o := .lst [.int x, .int y, .int z]) n8
    have h13 := ((h10.mono (tx e11)).mono (S11.tx x12)).mono (tx e13)
    have S13 := S12.mono e13
    obtain ⟨⟨x0, x1⟩, ⟨y0, y1⟩, ⟨z0, z1⟩, nxy, nyz, nxz⟩ := id ok
    refine z_set (xcall (d := .str (eqvW S (x, y) (y, z))) (xacons (xvar rfl h13) (xacons (xtup (xacons xstr (xacons (xvar rfl (.int x)) (xacons (xvar rfl (.int y)) (xacons (xvar rfl (.int z)) xanil)))) (by show 4 ≤ 100000; decide)) xanil)) ⟨n, S, .btw x y z, rfl, hS, nc, ok, trivial, rfl⟩) fun vb H14 e14 hvb => ?_
    have h14 := h13.mono (tx e14)
    have S14 := S13.mono e14
    refine e_if (Evl.et_is (Evl.et_or (xT (xneS (xvar rfl hvb) (xcall (d := .str (eqvW S (x, y) (y, z))) (xacons (xvar rfl h14) (xacons (xtup (xacons xstr (xacons (xtup (xacons (xvar rfl (.int x)) (xacons (xvar rfl (.int y)) xanil)) (by show 2 ≤ 100000; decide)) (xacons (xtup (xacons (xvar rfl (.int y)) (xacons (xvar rfl (.int z)) xanil)) (by show 2 ≤ 100000; decide)) xanil))) (by show 3 ≤ 100000; decide)) xanil)) ⟨n, S, .eqv (x, y) (y, z), rfl, hS, nc, ⟨⟨x0, x1, y0, y1, nxy⟩, ⟨y0, y1, z0, z1, nyz⟩⟩, trivial, rfl⟩)))
      (fun _ => xT (xneS (xvar rfl hvb) (xcall (d := .str (eqvW S (z, y) (y, x))) (xacons (xvar rfl h14) (xacons (xtup (xacons xstr (xacons (xvar rfl (.int z)) (xacons (xvar rfl (.int y)) (xacons (xvar rfl (.int x)) xanil)))) (by show 4 ≤ 100000; decide)) xanil)) ⟨n, S, .btw z y x, rfl, hS, nc, ⟨⟨z0, z1⟩, ⟨y0, y1⟩, ⟨x0, x1⟩, nyz.symm, nxy.symm, nxz.symm⟩, trivial, rfl⟩)))) (b := false) (by rw [eqvW_turn]; simp)) (fun z => nomatch z) fun _ H15 e15 => hN _ _ ⟨_, _, _, _, rfl, S14.mono e15, h14.mono (tx e15)⟩
end
end Kt
namespace Kt
open PySem PySem.Spec PyProof.Rows L2
/-- a def, from what the top has written of it -/
theorem df_mk {K : PySem.W.Frag} {h : Heap} {mg : Str → Option Value} {x : Str} {st : Stmt} {ps : List Str} {f : Addr} {oc : Value} {od an : Option Addr} {osl : Array (Option Value)} {kV doc pm cdv ct : Value} (X : K.In h) (G : h.Ns mainGlobals mg)
    (a : PySem.W.nsIn K mainGlobals x = some (some (.ref f))) (l : K.lookup f = some ⟨oc, od, .func (PySem.W.fnOf x x (defArgs st) (defBody st) (defScope st) .none kV doc pm an cdv ct), osl⟩)
    (c : PySem.W.codeIn K cdv x = true) (k : PySem.W.keepIn K (.ref f) = true)
    (hb : ∀ (kV doc pm : Value) (an : Option Addr) (cdv ct : Value) (us : List Value), us.length = ps.length → bindArgs (PySem.W.fnOf x x (defArgs st) (defBody st) (defScope st) .none kV doc pm an cdv ct) ⟨us, []⟩ = pure (ps.zip us)) : Df K mg x st ps :=
  ⟨f, _, PySem.W.mg_of X G a, (fun_mk (st := st) l c k).binds hb, fun_mk (st := st) l c k⟩
theorem all_mk {lw : PySem.W.OpenLaw} {w : World} {K : PySem.W.Frag} {h : Heap} {mg : Str → Option Value} {fa f0 f1 f2 f3 f4 f5 f6 f7 f8 f9 f10 f11 f12 f13 f14 f15 f16 f17 f18 f19 f20 f21 f22 f23 f24 f25 f26 f27 f28 f29 f30 f31 f32 f33 : Addr} (X : K.In h) (G : h.Ns mainGlobals mg) (hfa : mg "law" = some (.ref fa))
    {od0 an0 od1 an1 od2 an2 od3 an3 od4 an4 od5 an5 od6 an6 od7 an7 od8 an8 od9 an9 od10 an10 od11 an11 od12 an12 od13 an13 od14 an14 od15 an15 od16 an16 od17 an17 od18 an18 od19 an19 od20 an20 od21 an21 od22 an22 od23 an23 od24 an24 od25 an25 od26 an26 od27 an27 od28 an28 od29 an29 od30 an30 od31 an31 od32 an32 od33 an33 : Option Addr} {sl0 sl1 sl2 sl3 sl4 sl5 sl6 sl7 sl8 sl9 sl10 sl11 sl12 sl13 sl14 sl15 sl16 sl17 sl18 sl19 sl20 sl21 sl22 sl23 sl24 sl25 sl26 sl27 sl28 sl29 sl30 sl31 sl32 sl33 : Array (Option Value)}
    {oc0 kV0 dc0 pm0 cd0 ct0 oc1 kV1 dc1 pm1 cd1 ct1 oc2 kV2 dc2 pm2 cd2 ct2 oc3 kV3 dc3 pm3 cd3 ct3 oc4 kV4 dc4 pm4 cd4 ct4 oc5 kV5 dc5 pm5 cd5 ct5 oc6 kV6 dc6 pm6 cd6 ct6 oc7 kV7 dc7 pm7 cd7 ct7 oc8 kV8 dc8 pm8 cd8 ct8 oc9 kV9 dc9 pm9 cd9 ct9 oc10 kV10 dc10 pm10 cd10 ct10 oc11 kV11 dc11 pm11 cd11 ct11 oc12 kV12 dc12 pm12 cd12 ct12 oc13 kV13 dc13 pm13 cd13 ct13 oc14 kV14 dc14 pm14 cd14 ct14 oc15 kV15 dc15 pm15 cd15 ct15 oc16 kV16 dc16 pm16 cd16 ct16 oc17 kV17 dc17 pm17 cd17 ct17 oc18 kV18 dc18 pm18 cd18 ct18 oc19 kV19 dc19 pm19 cd19 ct19 oc20 kV20 dc20 pm20 cd20 ct20 oc21 kV21 dc21 pm21 cd21 ct21 oc22 kV22 dc22 pm22 cd22 ct22 oc23 kV23 dc23 pm23 cd23 ct23 oc24 kV24 dc24 pm24 cd24 ct24 oc25 kV25 dc25 pm25 cd25 ct25 oc26 kV26 dc26 pm26 cd26 ct26 oc27 kV27 dc27 pm27 cd27 ct27 oc28 kV28 dc28 pm28 cd28 ct28 oc29 kV29 dc29 pm29 cd29 ct29 oc30 kV30 dc30 pm30 cd30 ct30 oc31 kV31 dc31 pm31 cd31 ct31 oc32 kV32 dc32 pm32 cd32 ct32 oc33 kV33 dc33 pm33 cd33 ct33 : Value}
    {t0 t1 t2 t3 t4 : Tok}
    (a0 : PySem.W.nsIn K mainGlobals "is_between" = some (some (.ref f0))) (l0 : K.lookup f0 = some ⟨oc0, od0, .func (PySem.W.fnOf "is_between" "is_between" (defArgs s_is_between) (defBody s_is_between) (defScope s_is_between) .none kV0 dc0 pm0 an0 cd0 ct0), sl0⟩) (c0 : PySem.W.codeIn K cd0 "is_between" = true) (k0 : PySem.W.keepIn K (.ref f0) = true)
    (a1 : PySem.W.nsIn K mainGlobals "is_set" = some (some (.ref f1))) (l1 : K.lookup f1 = some ⟨oc1, od1, .func (PySem.W.fnOf "is_set" "is_set" (defArgs s_is_set) (defBody s_is_set) (defScope s_is_set) .none kV1 dc1 pm1 an1 cd1 ct1), sl1⟩) (c1 : PySem.W.codeIn K cd1 "is_set" = true) (k1 : PySem.W.keepIn K (.ref f1) = true)
    (a2 : PySem.W.nsIn K mainGlobals "is_system" = some (some (.ref f2))) (l2 : K.lookup f2 = some ⟨oc2, od2, .func (PySem.W.fnOf "is_system" "is_system" (defArgs s_is_system) (defBody s_is_system) (defScope s_is_system) .none kV2 dc2 pm2 an2 cd2 ct2), sl2⟩) (c2 : PySem.W.codeIn K cd2 "is_system" = true) (k2 : PySem.W.keepIn K (.ref f2) = true)
    (a3 : PySem.W.nsIn K mainGlobals "check_system" = some (some (.ref f3))) (l3 : K.lookup f3 = some ⟨oc3, od3, .func (PySem.W.fnOf "check_system" "check_system" (defArgs s_check_system) (defBody s_check_system) (defScope s_check_system) .none kV3 dc3 pm3 an3 cd3 ct3), sl3⟩) (c3 : PySem.W.codeIn K cd3 "check_system" = true) (k3 : PySem.W.keepIn K (.ref f3) = true)
    (a4 : PySem.W.nsIn K mainGlobals "is_pair" = some (some (.ref f4))) (l4 : K.lookup f4 = some ⟨oc4, od4, .func (PySem.W.fnOf "is_pair" "is_pair" (defArgs s_is_pair) (defBody s_is_pair) (defScope s_is_pair) .none kV4 dc4 pm4 an4 cd4 ct4), sl4⟩) (c4 : PySem.W.codeIn K cd4 "is_pair" = true) (k4 : PySem.W.keepIn K (.ref f4) = true)
    (a5 : PySem.W.nsIn K mainGlobals "steps_by" = some (some (.ref f5))) (l5 : K.lookup f5 = some ⟨oc5, od5, .func (PySem.W.fnOf "steps_by" "steps_by" (defArgs s_steps_by) (defBody s_steps_by) (defScope s_steps_by) .none kV5 dc5 pm5 an5 cd5 ct5), sl5⟩) (c5 : PySem.W.codeIn K cd5 "steps_by" = true) (k5 : PySem.W.keepIn K (.ref f5) = true)
    (a6 : PySem.W.nsIn K mainGlobals "steps_of" = some (some (.ref f6))) (l6 : K.lookup f6 = some ⟨oc6, od6, .func (PySem.W.fnOf "steps_of" "steps_of" (defArgs s_steps_of) (defBody s_steps_of) (defScope s_steps_of) .none kV6 dc6 pm6 an6 cd6 ct6), sl6⟩) (c6 : PySem.W.codeIn K cd6 "steps_of" = true) (k6 : PySem.W.keepIn K (.ref f6) = true)
    (a7 : PySem.W.nsIn K mainGlobals "class_in" = some (some (.ref f7))) (l7 : K.lookup f7 = some ⟨oc7, od7, .func (PySem.W.fnOf "class_in" "class_in" (defArgs s_class_in) (defBody s_class_in) (defScope s_class_in) .none kV7 dc7 pm7 an7 cd7 ct7), sl7⟩) (c7 : PySem.W.codeIn K cd7 "class_in" = true) (k7 : PySem.W.keepIn K (.ref f7) = true)
    (a8 : PySem.W.nsIn K mainGlobals "linked" = some (some (.ref f8))) (l8 : K.lookup f8 = some ⟨oc8, od8, .func (PySem.W.fnOf "linked" "linked" (defArgs s_linked) (defBody s_linked) (defScope s_linked) .none kV8 dc8 pm8 an8 cd8 ct8), sl8⟩) (c8 : PySem.W.codeIn K cd8 "linked" = true) (k8 : PySem.W.keepIn K (.ref f8) = true)
    (a9 : PySem.W.nsIn K mainGlobals "reversed_in" = some (some (.ref f9))) (l9 : K.lookup f9 = some ⟨oc9, od9, .func (PySem.W.fnOf "reversed_in" "reversed_in" (defArgs s_reversed_in) (defBody s_reversed_in) (defScope s_reversed_in) .none kV9 dc9 pm9 an9 cd9 ct9), sl9⟩) (c9 : PySem.W.codeIn K cd9 "reversed_in" = true) (k9 : PySem.W.keepIn K (.ref f9) = true)
    (a10 : PySem.W.nsIn K mainGlobals "is_contradictory_of" = some (some (.ref f10))) (l10 : K.lookup f10 = some ⟨oc10, od10, .func (PySem.W.fnOf "is_contradictory_of" "is_contradictory_of" (defArgs s_is_contradictory_of) (defBody s_is_contradictory_of) (defScope s_is_contradictory_of) .none kV10 dc10 pm10 an10 cd10 ct10), sl10⟩) (c10 : PySem.W.codeIn K cd10 "is_contradictory_of" = true) (k10 : PySem.W.keepIn K (.ref f10) = true)
    (a11 : PySem.W.nsIn K mainGlobals "ways_from" = some (some (.ref f11))) (l11 : K.lookup f11 = some ⟨oc11, od11, .func (PySem.W.fnOf "ways_from" "ways_from" (defArgs s_ways_from) (defBody s_ways_from) (defScope s_ways_from) .none kV11 dc11 pm11 an11 cd11 ct11), sl11⟩) (c11 : PySem.W.codeIn K cd11 "ways_from" = true) (k11 : PySem.W.keepIn K (.ref f11) = true)
    (a12 : PySem.W.nsIn K mainGlobals "shortest_of" = some (some (.ref f12))) (l12 : K.lookup f12 = some ⟨oc12, od12, .func (PySem.W.fnOf "shortest_of" "shortest_of" (defArgs s_shortest_of) (defBody s_shortest_of) (defScope s_shortest_of) .none kV12 dc12 pm12 an12 cd12 ct12), sl12⟩) (c12 : PySem.W.codeIn K cd12 "shortest_of" = true) (k12 : PySem.W.keepIn K (.ref f12) = true)
    (a13 : PySem.W.nsIn K mainGlobals "is_property" = some (some (.ref f13))) (l13 : K.lookup f13 = some ⟨oc13, od13, .func (PySem.W.fnOf "is_property" "is_property" (defArgs s_is_property) (defBody s_is_property) (defScope s_is_property) .none kV13 dc13 pm13 an13 cd13 ct13), sl13⟩) (c13 : PySem.W.codeIn K cd13 "is_property" = true) (k13 : PySem.W.keepIn K (.ref f13) = true)
    (a14 : PySem.W.nsIn K mainGlobals "check_asked" = some (some (.ref f14))) (l14 : K.lookup f14 = some ⟨oc14, od14, .func (PySem.W.fnOf "check_asked" "check_asked" (defArgs s_check_asked) (defBody s_check_asked) (defScope s_check_asked) .none kV14 dc14 pm14 an14 cd14 ct14), sl14⟩) (c14 : PySem.W.codeIn K cd14 "check_asked" = true) (k14 : PySem.W.keepIn K (.ref f14) = true)
    (a15 : PySem.W.nsIn K mainGlobals "as_pairs" = some (some (.ref f15))) (l15 : K.lookup f15 = some ⟨oc15, od15, .func (PySem.W.fnOf "as_pairs" "as_pairs" (defArgs s_as_pairs) (defBody s_as_pairs) (defScope s_as_pairs) .none kV15 dc15 pm15 an15 cd15 ct15), sl15⟩) (c15 : PySem.W.codeIn K cd15 "as_pairs" = true) (k15 : PySem.W.keepIn K (.ref f15) = true)
    (a16 : PySem.W.nsIn K mainGlobals "asked_links" = some (some (.ref f16))) (l16 : K.lookup f16 = some ⟨oc16, od16, .func (PySem.W.fnOf "asked_links" "asked_links" (defArgs s_asked_links) (defBody s_asked_links) (defScope s_asked_links) .none kV16 dc16 pm16 an16 cd16 ct16), sl16⟩) (c16 : PySem.W.codeIn K cd16 "asked_links" = true) (k16 : PySem.W.keepIn K (.ref f16) = true)
    (a17 : PySem.W.nsIn K mainGlobals "is_always" = some (some (.ref f17))) (l17 : K.lookup f17 = some ⟨oc17, od17, .func (PySem.W.fnOf "is_always" "is_always" (defArgs s_is_always) (defBody s_is_always) (defScope s_is_always) .none kV17 dc17 pm17 an17 cd17 ct17), sl17⟩) (c17 : PySem.W.codeIn K cd17 "is_always" = true) (k17 : PySem.W.keepIn K (.ref f17) = true)
    (a18 : PySem.W.nsIn K mainGlobals "against_first" = some (some (.ref f18))) (l18 : K.lookup f18 = some ⟨oc18, od18, .func (PySem.W.fnOf "against_first" "against_first" (defArgs s_against_first) (defBody s_against_first) (defScope s_against_first) .none kV18 dc18 pm18 an18 cd18 ct18), sl18⟩) (c18 : PySem.W.codeIn K cd18 "against_first" = true) (k18 : PySem.W.keepIn K (.ref f18) = true)
    (a19 : PySem.W.nsIn K mainGlobals "never_chain" = some (some (.ref f19))) (l19 : K.lookup f19 = some ⟨oc19, od19, .func (PySem.W.fnOf "never_chain" "never_chain" (defArgs s_never_chain) (defBody s_never_chain) (defScope s_never_chain) .none kV19 dc19 pm19 an19 cd19 ct19), sl19⟩) (c19 : PySem.W.codeIn K cd19 "never_chain" = true) (k19 : PySem.W.keepIn K (.ref f19) = true)
    (a20 : PySem.W.nsIn K mainGlobals "told_of" = some (some (.ref f20))) (l20 : K.lookup f20 = some ⟨oc20, od20, .func (PySem.W.fnOf "told_of" "told_of" (defArgs s_told_of) (defBody s_told_of) (defScope s_told_of) .none kV20 dc20 pm20 an20 cd20 ct20), sl20⟩) (c20 : PySem.W.codeIn K cd20 "told_of" = true) (k20 : PySem.W.keepIn K (.ref f20) = true)
    (a21 : PySem.W.nsIn K mainGlobals "check_possible" = some (some (.ref f21))) (l21 : K.lookup f21 = some ⟨oc21, od21, .func (PySem.W.fnOf "check_possible" "check_possible" (defArgs s_check_possible) (defBody s_check_possible) (defScope s_check_possible) .none kV21 dc21 pm21 an21 cd21 ct21), sl21⟩) (c21 : PySem.W.codeIn K cd21 "check_possible" = true) (k21 : PySem.W.keepIn K (.ref f21) = true)
    (a22 : PySem.W.nsIn K mainGlobals "told" = some (some (.ref f22))) (l22 : K.lookup f22 = some ⟨oc22, od22, .func (PySem.W.fnOf "told" "told" (defArgs s_told) (defBody s_told) (defScope s_told) .none kV22 dc22 pm22 an22 cd22 ct22), sl22⟩) (c22 : PySem.W.codeIn K cd22 "told" = true) (k22 : PySem.W.keepIn K (.ref f22) = true)
    (a23 : PySem.W.nsIn K mainGlobals "_law_stream" = some (some (.ref f23))) (l23 : K.lookup f23 = some ⟨oc23, od23, .func (PySem.W.fnOf "_law_stream" "_law_stream" (defArgs s_law_stream) (defBody s_law_stream) (defScope s_law_stream) .none kV23 dc23 pm23 an23 cd23 ct23), sl23⟩) (c23 : PySem.W.codeIn K cd23 "_law_stream" = true) (k23 : PySem.W.keepIn K (.ref f23) = true)
    (a24 : PySem.W.nsIn K mainGlobals "_law_next" = some (some (.ref f24))) (l24 : K.lookup f24 = some ⟨oc24, od24, .func (PySem.W.fnOf "_law_next" "_law_next" (defArgs s_law_next) (defBody s_law_next) (defScope s_law_next) .none kV24 dc24 pm24 an24 cd24 ct24), sl24⟩) (c24 : PySem.W.codeIn K cd24 "_law_next" = true) (k24 : PySem.W.keepIn K (.ref f24) = true)
    (a25 : PySem.W.nsIn K mainGlobals "_law_shuffled" = some (some (.ref f25))) (l25 : K.lookup f25 = some ⟨oc25, od25, .func (PySem.W.fnOf "_law_shuffled" "_law_shuffled" (defArgs s_law_shuffled) (defBody s_law_shuffled) (defScope s_law_shuffled) .none kV25 dc25 pm25 an25 cd25 ct25), sl25⟩) (c25 : PySem.W.codeIn K cd25 "_law_shuffled" = true) (k25 : PySem.W.keepIn K (.ref f25) = true)
    (a26 : PySem.W.nsIn K mainGlobals "_law_set" = some (some (.ref f26))) (l26 : K.lookup f26 = some ⟨oc26, od26, .func (PySem.W.fnOf "_law_set" "_law_set" (defArgs s_law_set) (defBody s_law_set) (defScope s_law_set) .none kV26 dc26 pm26 an26 cd26 ct26), sl26⟩) (c26 : PySem.W.codeIn K cd26 "_law_set" = true) (k26 : PySem.W.keepIn K (.ref f26) = true)
    (a27 : PySem.W.nsIn K mainGlobals "_law_system" = some (some (.ref f27))) (l27 : K.lookup f27 = some ⟨oc27, od27, .func (PySem.W.fnOf "_law_system" "_law_system" (defArgs s_law_system) (defBody s_law_system) (defScope s_law_system) .none kV27 dc27 pm27 an27 cd27 ct27), sl27⟩) (c27 : PySem.W.codeIn K cd27 "_law_system" = true) (k27 : PySem.W.keepIn K (.ref f27) = true)
    (a28 : PySem.W.nsIn K mainGlobals "_law_rows" = some (some (.ref f28))) (l28 : K.lookup f28 = some ⟨oc28, od28, .func (PySem.W.fnOf "_law_rows" "_law_rows" (defArgs s_law_rows) (defBody s_law_rows) (defScope s_law_rows) .none kV28 dc28 pm28 an28 cd28 ct28), sl28⟩) (c28 : PySem.W.codeIn K cd28 "_law_rows" = true) (k28 : PySem.W.keepIn K (.ref f28) = true)
    (a29 : PySem.W.nsIn K mainGlobals "_law_is_together" = some (some (.ref f29))) (l29 : K.lookup f29 = some ⟨oc29, od29, .func (PySem.W.fnOf "_law_is_together" "_law_is_together" (defArgs s_law_is_together) (defBody s_law_is_together) (defScope s_law_is_together) .none kV29 dc29 pm29 an29 cd29 ct29), sl29⟩) (c29 : PySem.W.codeIn K cd29 "_law_is_together" = true) (k29 : PySem.W.keepIn K (.ref f29) = true)
    (a30 : PySem.W.nsIn K mainGlobals "_law_keeps" = some (some (.ref f30))) (l30 : K.lookup f30 = some ⟨oc30, od30, .func (PySem.W.fnOf "_law_keeps" "_law_keeps" (defArgs s_law_keeps) (defBody s_law_keeps) (defScope s_law_keeps) .none kV30 dc30 pm30 an30 cd30 ct30), sl30⟩) (c30 : PySem.W.codeIn K cd30 "_law_keeps" = true) (k30 : PySem.W.keepIn K (.ref f30) = true)
    (a31 : PySem.W.nsIn K mainGlobals "_law_keeping" = some (some (.ref f31))) (l31 : K.lookup f31 = some ⟨oc31, od31, .func (PySem.W.fnOf "_law_keeping" "_law_keeping" (defArgs s_law_keeping) (defBody s_law_keeping) (defScope s_law_keeping) .none kV31 dc31 pm31 an31 cd31 ct31), sl31⟩) (c31 : PySem.W.codeIn K cd31 "_law_keeping" = true) (k31 : PySem.W.keepIn K (.ref f31) = true)
    (a32 : PySem.W.nsIn K mainGlobals "_law_pairs" = some (some (.ref f32))) (l32 : K.lookup f32 = some ⟨oc32, od32, .func (PySem.W.fnOf "_law_pairs" "_law_pairs" (defArgs s_law_pairs) (defBody s_law_pairs) (defScope s_law_pairs) .none kV32 dc32 pm32 an32 cd32 ct32), sl32⟩) (c32 : PySem.W.codeIn K cd32 "_law_pairs" = true) (k32 : PySem.W.keepIn K (.ref f32) = true)
    (a33 : PySem.W.nsIn K mainGlobals "law" = some (some (.ref f33))) (l33 : K.lookup f33 = some ⟨oc33, od33, .func (PySem.W.fnOf "law" "law" (defArgs s_law) (defBody s_law) (defScope s_law) .none kV33 dc33 pm33 an33 cd33 ct33), sl33⟩) (c33 : PySem.W.codeIn K cd33 "law" = true) (k33 : PySem.W.keepIn K (.ref f33) = true)
    (z0 : PySem.W.nsIn K mainGlobals "len" = some none) (z1 : PySem.W.nsIn K mainGlobals "isinstance" = some none) (z2 : PySem.W.nsIn K mainGlobals "all" = some none) (z3 : PySem.W.nsIn K mainGlobals "any" = some none) (z4 : PySem.W.nsIn K mainGlobals "sorted" = some none) (z5 : PySem.W.nsIn K mainGlobals "enumerate" = some none) (z6 : PySem.W.nsIn K mainGlobals "range" = some none) (z7 : PySem.W.nsIn K mainGlobals "zip" = some none) (z8 : PySem.W.nsIn K mainGlobals "abs" = some none) (z9 : PySem.W.nsIn K mainGlobals "min" = some none) (z10 : PySem.W.nsIn K mainGlobals "max" = some none) (z11 : PySem.W.nsIn K mainGlobals "int" = some none) (z12 : PySem.W.nsIn K mainGlobals "bool" = some none) (z13 : PySem.W.nsIn K mainGlobals "str" = some none) (z14 : PySem.W.nsIn K mainGlobals "tuple" = some none) (z15 : PySem.W.nsIn K mainGlobals "list" = some none)
    (y0 : PySem.W.nsIn K mainGlobals "MOST_ELEMENTS" = some (some (.int 8 t0))) (y1 : PySem.W.nsIn K mainGlobals "MOST_SETS" = some (some (.int 8 t1))) (y2 : PySem.W.nsIn K mainGlobals "ALWAYS" = some (some (.str "always" t2))) (y3 : PySem.W.nsIn K mainGlobals "SOMETIMES" = some (some (.str "sometimes" t3))) (y4 : PySem.W.nsIn K mainGlobals "NEVER" = some (some (.str "never" t4))) :
    ∃ fd : FuncData, (∀ (s : Shared) (v : Value), BindsTo s fd ⟨[v], []⟩ [("_law_script", v)]) ∧ ∀ base : Heap, K.In base → base.Ns mainGlobals mg → FnOk lw.prog w K mg base CX0 9 fa fd ["_law_script"] (spLaw K) := by
  have e := hfa.symm.trans (PySem.W.mg_of X G a33)
  cases e
  have B : Bi mg := { len := PySem.W.mg_none_of X G z0, isinstance := PySem.W.mg_none_of X G z1, all := PySem.W.mg_none_of X G z2, any := PySem.W.mg_none_of X G z3, sorted := PySem.W.mg_none_of X G z4, enumerate := PySem.W.mg_none_of X G z5, range := PySem.W.mg_none_of X G z6, zip := PySem.W.mg_none_of X G z7, abs := PySem.W.mg_none_of X G z8, min := PySem.W.mg_none_of X G z9, max := PySem.W.mg_none_of X G z10, int := PySem.W.mg_none_of X G z11, bool := PySem.W.mg_none_of X G z12, str := PySem.W.mg_none_of X G z13, tuple := PySem.W.mg_none_of X G z14, list := PySem.W.mg_none_of X G z15, mostE := ⟨t0, PySem.W.mg_of X G y0⟩, mostS := ⟨t1, PySem.W.mg_of X G y1⟩, always := ⟨t2, PySem.W.mg_of X G y2⟩, sometimes := ⟨t3, PySem.W.mg_of X G y3⟩, never := ⟨t4, PySem.W.mg_of X G y4⟩ }
  have D_is_between : Df K mg "is_between" s_is_between ["value", "low", "high"] := df_mk X G a0 l0 c0 k0 fun _ _ _ _ _ _ us hl => match us, hl with | [_, _, _], _ => rfl
  have D_is_set : Df K mg "is_set" s_is_set ["value", "size"] := df_mk X G a1 l1 c1 k1 fun _ _ _ _ _ _ us hl => match us, hl with | [_, _], _ => rfl
  have D_is_system : Df K mg "is_system" s_is_system ["value"] := df_mk X G a2 l2 c2 k2 fun _ _ _ _ _ _ us hl => match us, hl with | [_], _ => rfl
  have D_check_system : Df K mg "check_system" s_check_system ["value"] := df_mk X G a3 l3 c3 k3 fun _ _ _ _ _ _ us hl => match us, hl with | [_], _ => rfl
  have D_is_pair : Df K mg "is_pair" s_is_pair ["value", "size"] := df_mk X G a4 l4 c4 k4 fun _ _ _ _ _ _ us hl => match us, hl with | [_, _], _ => rfl
  have D_steps_by : Df K mg "steps_by" s_steps_by ["chosen", "pair"] := df_mk X G a5 l5 c5 k5 fun _ _ _ _ _ _ us hl => match us, hl with | [_, _], _ => rfl
  have D_steps_of : Df K mg "steps_of" s_steps_of ["system", "pair"] := df_mk X G a6 l6 c6 k6 fun _ _ _ _ _ _ us hl => match us, hl with | [_, _], _ => rfl
  have D_class_in : Df K mg "class_in" s_class_in ["system", "pair"] := df_mk X G a7 l7 c7 k7 fun _ _ _ _ _ _ us hl => match us, hl with | [_, _], _ => rfl
  have D_linked : Df K mg "linked" s_linked ["system", "pair", "other"] := df_mk X G a8 l8 c8 k8 fun _ _ _ _ _ _ us hl => match us, hl with | [_, _, _], _ => rfl
  have D_reversed_in : Df K mg "reversed_in" s_reversed_in ["system"] := df_mk X G a9 l9 c9 k9 fun _ _ _ _ _ _ us hl => match us, hl with | [_], _ => rfl
  have D_is_contradictory_of : Df K mg "is_contradictory_of" s_is_contradictory_of ["system"] := df_mk X G a10 l10 c10 k10 fun _ _ _ _ _ _ us hl => match us, hl with | [_], _ => rfl
  have D_ways_from : Df K mg "ways_from" s_ways_from ["system", "pair"] := df_mk X G a11 l11 c11 k11 fun _ _ _ _ _ _ us hl => match us, hl with | [_, _], _ => rfl
  have D_shortest_of : Df K mg "shortest_of" s_shortest_of ["system", "pair", "other"] := df_mk X G a12 l12 c12 k12 fun _ _ _ _ _ _ us hl => match us, hl with | [_, _, _], _ => rfl
  have D_is_property : Df K mg "is_property" s_is_property ["value", "size"] := df_mk X G a13 l13 c13 k13 fun _ _ _ _ _ _ us hl => match us, hl with | [_, _], _ => rfl
  have D_check_asked : Df K mg "check_asked" s_check_asked ["system", "asked"] := df_mk X G a14 l14 c14 k14 fun _ _ _ _ _ _ us hl => match us, hl with | [_, _], _ => rfl
  have D_as_pairs : Df K mg "as_pairs" s_as_pairs ["asked"] := df_mk X G a15 l15 c15 k15 fun _ _ _ _ _ _ us hl => match us, hl with | [_], _ => rfl
  have D_asked_links : Df K mg "asked_links" s_asked_links ["size", "asked"] := df_mk X G a16 l16 c16 k16 fun _ _ _ _ _ _ us hl => match us, hl with | [_, _], _ => rfl
  have D_is_always : Df K mg "is_always" s_is_always ["system", "asked"] := df_mk X G a17 l17 c17 k17 fun _ _ _ _ _ _ us hl => match us, hl with | [_, _], _ => rfl
  have D_against_first : Df K mg "against_first" s_against_first ["system", "x"] := df_mk X G a18 l18 c18 k18 fun _ _ _ _ _ _ us hl => match us, hl with | [_, _], _ => rfl
  have D_never_chain : Df K mg "never_chain" s_never_chain ["system", "asked"] := df_mk X G a19 l19 c19 k19 fun _ _ _ _ _ _ us hl => match us, hl with | [_, _], _ => rfl
  have D_told_of : Df K mg "told_of" s_told_of ["system", "asked"] := df_mk X G a20 l20 c20 k20 fun _ _ _ _ _ _ us hl => match us, hl with | [_, _], _ => rfl
  have D_check_possible : Df K mg "check_possible" s_check_possible ["system", "asked"] := df_mk X G a21 l21 c21 k21 fun _ _ _ _ _ _ us hl => match us, hl with | [_, _], _ => rfl
  have D_told : Df K mg "told" s_told ["system", "asked"] := df_mk X G a22 l22 c22 k22 fun _ _ _ _ _ _ us hl => match us, hl with | [_, _], _ => rfl
  have D_law_stream : Df K mg "_law_stream" s_law_stream ["_law_script"] := df_mk X G a23 l23 c23 k23 fun _ _ _ _ _ _ us hl => match us, hl with | [_], _ => rfl
  have D_law_next : Df K mg "_law_next" s_law_next ["_law_stream_here", "_law_many"] := df_mk X G a24 l24 c24 k24 fun _ _ _ _ _ _ us hl => match us, hl with | [_, _], _ => rfl
  have D_law_shuffled : Df K mg "_law_shuffled" s_law_shuffled ["_law_stream_here", "_law_many"] := df_mk X G a25 l25 c25 k25 fun _ _ _ _ _ _ us hl => match us, hl with | [_, _], _ => rfl
  have D_law_set : Df K mg "_law_set" s_law_set ["_law_stream_here", "_law_row"] := df_mk X G a26 l26 c26 k26 fun _ _ _ _ _ _ us hl => match us, hl with | [_, _], _ => rfl
  have D_law_system : Df K mg "_law_system" s_law_system ["_law_stream_here", "_law_least", "_law_most", "_law_many"] := df_mk X G a27 l27 c27 k27 fun _ _ _ _ _ _ us hl => match us, hl with | [_, _, _, _], _ => rfl
  have D_law_rows : Df K mg "_law_rows" s_law_rows ["_law_size"] := df_mk X G a28 l28 c28 k28 fun _ _ _ _ _ _ us hl => match us, hl with | [_], _ => rfl
  have D_law_is_together : Df K mg "_law_is_together" s_law_is_together ["_law_chosen", "_law_row"] := df_mk X G a29 l29 c29 k29 fun _ _ _ _ _ _ us hl => match us, hl with | [_, _], _ => rfl
  have D_law_keeps : Df K mg "_law_keeps" s_law_keeps ["_law_system_here", "_law_row"] := df_mk X G a30 l30 c30 k30 fun _ _ _ _ _ _ us hl => match us, hl with | [_, _], _ => rfl
  have D_law_keeping : Df K mg "_law_keeping" s_law_keeping ["_law_system_here"] := df_mk X G a31 l31 c31 k31 fun _ _ _ _ _ _ us hl => match us, hl with | [_], _ => rfl
  have D_law_pairs : Df K mg "_law_pairs" s_law_pairs ["_law_size"] := df_mk X G a32 l32 c32 k32 fun _ _ _ _ _ _ us hl => match us, hl with | [_], _ => rfl
  refine ⟨PySem.W.fnOf "law" "law" (defArgs s_law) (defBody s_law) (defScope s_law) .none kV33 dc33 pm33 an33 cd33 ct33, fun s v => .of_eq rfl, fun base _ _ => ?_⟩
  have O_is_between := ok_is_between (P := lw.prog) (w := w) (base := base) D_is_between B
  have O_is_set := ok_is_set (P := lw.prog) (w := w) (base := base) D_is_set B O_is_between
  have O_is_system := ok_is_system (P := lw.prog) (w := w) (base := base) D_is_system B O_is_between O_is_set
  have O_check_system := ok_check_system (P := lw.prog) (w := w) (base := base) D_check_system B O_is_system
  have O_is_pair := ok_is_pair (P := lw.prog) (w := w) (base := base) D_is_pair B O_is_between
  have O_steps_by := ok_steps_by (P := lw.prog) (w := w) (base := base) D_steps_by B
  have O_steps_of := ok_steps_of (P := lw.prog) (w := w) (base := base) D_steps_of B O_steps_by
  have O_class_in := ok_class_in (P := lw.prog) (w := w) (base := base) D_class_in B O_steps_of
  have O_linked := ok_linked (P := lw.prog) (w := w) (base := base) D_linked B O_class_in
  have O_reversed_in := ok_reversed_in (P := lw.prog) (w := w) (base := base) D_reversed_in B O_linked
  have O_is_contradictory_of := ok_is_contradictory_of (P := lw.prog) (w := w) (base := base) D_is_contradictory_of B O_reversed_in
  have O_ways_from := ok_ways_from (P := lw.prog) (w := w) (base := base) D_ways_from B O_steps_of
  have O_shortest_of := ok_shortest_of (P := lw.prog) (w := w) (base := base) D_shortest_of B O_ways_from
  have O_is_property := ok_is_property (P := lw.prog) (w := w) (base := base) D_is_property B O_is_between O_is_set O_is_pair
  have O_check_asked := ok_check_asked (P := lw.prog) (w := w) (base := base) D_check_asked B O_is_property
  have O_as_pairs := ok_as_pairs (P := lw.prog) (w := w) (base := base) D_as_pairs B
  have O_asked_links := ok_asked_links (P := lw.prog) (w := w) (base := base) D_asked_links B O_as_pairs
  have O_is_always := ok_is_always (P := lw.prog) (w := w) (base := base) D_is_always B O_linked O_asked_links
  have O_against_first := ok_against_first (P := lw.prog) (w := w) (base := base) D_against_first B O_class_in
  have O_never_chain := ok_never_chain (P := lw.prog) (w := w) (base := base) D_never_chain B O_as_pairs O_against_first O_shortest_of
  have O_told_of := ok_told_of (P := lw.prog) (w := w) (base := base) D_told_of B O_is_always O_never_chain
  have O_check_possible := ok_check_possible (P := lw.prog) (w := w) (base := base) D_check_possible B O_check_system O_check_asked O_is_contradictory_of
  have O_told := ok_told (P := lw.prog) (w := w) (base := base) D_told B O_check_possible O_told_of
  have O_law_stream := ok_law_stream (P := lw.prog) (w := w) (base := base) D_law_stream B
  have O_law_next := ok_law_next (P := lw.prog) (w := w) (base := base) D_law_next B
  have O_law_shuffled := ok_law_shuffled (P := lw.prog) (w := w) (base := base) D_law_shuffled B O_law_next
  have O_law_set := ok_law_set (P := lw.prog) (w := w) (base := base) D_law_set B O_law_next
  have O_law_system := ok_law_system (P := lw.prog) (w := w) (base := base) D_law_system B O_law_next O_law_shuffled O_law_set
  have O_law_rows := ok_law_rows (P := lw.prog) (w := w) (base := base) D_law_rows B
  have O_law_is_together := ok_law_is_together (P := lw.prog) (w := w) (base := base) D_law_is_together B
  have O_law_keeps := ok_law_keeps (P := lw.prog) (w := w) (base := base) D_law_keeps B O_law_is_together
  have O_law_keeping := ok_law_keeping (P := lw.prog) (w := w) (base := base) D_law_keeping B O_law_rows O_law_keeps
  have O_law_pairs := ok_law_pairs (P := lw.prog) (w := w) (base := base) D_law_pairs B
  exact fn_law (fun_mk (st := s_law) l33 c33 k33) B O_law_stream O_law_next O_law_shuffled O_law_system O_law_keeping O_law_pairs O_told
end Kt
open PySem PySem.W PyProof.Rows
set_option maxHeartbeats 0 in
theorem PySem.Challenge.cw_kepttogether_k59_whole_related_propertie_holds : PySem.Challenge.rw_kepttogether_k59_whole_related_propertie.Holds := by
  w_on; o_law; k_head; (case hw => w_witness2)
  k_fill
  refine L2.walk_of (l := PySem.Challenge.rw_kepttogether_k59_whole_related_propertie) (n := 63) (k := 9) (x := "_law_script") (CX := fun _ => L2.CX0) (sp := fun w => Kt.spLaw _) rfl (by decide) rfl ⟨rfl, by decide, by decide⟩ (fun w h Y => PySem.W.kIn_of Y) ?F (fun _ _ a ns hl _ hS => ⟨a, ns, rfl, hS, fun _ => rfl⟩) (fun _ _ _ _ _ h => h)
  case F =>
    intro w mg fa h KX G hmg
    refine' Kt.all_mk KX G hmg ?a0 ?l0 ?c0 ?k0 ?a1 ?l1 ?c1 ?k1 ?a2 ?l2 ?c2 ?k2 ?a3 ?l3 ?c3 ?k3 ?a4 ?l4 ?c4 ?k4 ?a5 ?l5 ?c5 ?k5 ?a6 ?l6 ?c6 ?k6 ?a7 ?l7 ?c7 ?k7 ?a8 ?l8 ?c8 ?k8 ?a9 ?l9 ?c9 ?k9 ?a10 ?l10 ?c10 ?k10 ?a11 ?l11 ?c11 ?k11 ?a12 ?l12 ?c12 ?k12 ?a13 ?l13 ?c13 ?k13 ?a14 ?l14 ?c14 ?k14 ?a15 ?l15 ?c15 ?k15 ?a16 ?l16 ?c16 ?k16 ?a17 ?l17 ?c17 ?k17 ?a18 ?l18 ?c18 ?k18 ?a19 ?l19 ?c19 ?k19 ?a20 ?l20 ?c20 ?k20 ?a21 ?l21 ?c21 ?k21 ?a22 ?l22 ?c22 ?k22 ?a23 ?l23 ?c23 ?k23 ?a24 ?l24 ?c24 ?k24 ?a25 ?l25 ?c25 ?k25 ?a26 ?l26 ?c26 ?k26 ?a27 ?l27 ?c27 ?k27 ?a28 ?l28 ?c28 ?k28 ?a29 ?l29 ?c29 ?k29 ?a30 ?l30 ?c30 ?k30 ?a31 ?l31 ?c31 ?k31 ?a32 ?l32 ?c32 ?k32 ?a33 ?l33 ?c33 ?k33 ?z0 ?z1 ?z2 ?z3 ?z4 ?z5 ?z6 ?z7 ?z8 ?z9 ?z10 ?z11 ?z12 ?z13 ?z14 ?z15 ?y0 ?y1 ?y2 ?y3 ?y4
    (case a0 => k_is); (case l0 => k_is); (case c0 => k_is); (case k0 => k_is); (case a1 => k_is); (case l1 => k_is)
    (case c1 => k_is); (case k1 => k_is); (case a2 => k_is); (case l2 => k_is); (case c2 => k_is); (case k2 => k_is)
    (case a3 => k_is); (case l3 => k_is); (case c3 => k_is); (case k3 => k_is); (case a4 => k_is); (case l4 => k_is)
    (case c4 => k_is); (case k4 => k_is); (case a5 => k_is); (case l5 => k_is); (case c5 => k_is); (case k5 => k_is)
    (case a6 => k_is); (case l6 => k_is); (case c6 => k_is); (case k6 => k_is); (case a7 => k_is); (case l7 => k_is)
    (case c7 => k_is); (case k7 => k_is); (case a8 => k_is); (case l8 => k_is); (case c8 => k_is); (case k8 => k_is)
    (case a9 => k_is); (case l9 => k_is); (case c9 => k_is); (case k9 => k_is); (case a10 => k_is); (case l10 => k_is)
    (case c10 => k_is); (case k10 => k_is); (case a11 => k_is); (case l11 => k_is); (case c11 => k_is); (case k11 => k_is)
    (case a12 => k_is); (case l12 => k_is); (case c12 => k_is); (case k12 => k_is); (case a13 => k_is); (case l13 => k_is)
    (case c13 => k_is); (case k13 => k_is); (case a14 => k_is); (case l14 => k_is); (case c14 => k_is); (case k14 => k_is)
    (case a15 => k_is); (case l15 => k_is); (case c15 => k_is); (case k15 => k_is); (case a16 => k_is); (case l16 => k_is)
    (case c16 => k_is); (case k16 => k_is); (case a17 => k_is); (case l17 => k_is); (case c17 => k_is); (case k17 => k_is)
    (case a18 => k_is); (case l18 => k_is); (case c18 => k_is); (case k18 => k_is); (case a19 => k_is); (case l19 => k_is)
    (case c19 => k_is); (case k19 => k_is); (case a20 => k_is); (case l20 => k_is); (case c20 => k_is); (case k20 => k_is)
    (case a21 => k_is); (case l21 => k_is); (case c21 => k_is); (case k21 => k_is); (case a22 => k_is); (case l22 => k_is)
    (case c22 => k_is); (case k22 => k_is); (case a23 => k_is); (case l23 => k_is); (case c23 => k_is); (case k23 => k_is)
    (case a24 => k_is); (case l24 => k_is); (case c24 => k_is); (case k24 => k_is); (case a25 => k_is); (case l25 => k_is)
    (case c25 => k_is); (case k25 => k_is); (case a26 => k_is); (case l26 => k_is); (case c26 => k_is); (case k26 => k_is)
    (case a27 => k_is); (case l27 => k_is); (case c27 => k_is); (case k27 => k_is); (case a28 => k_is); (case l28 => k_is)
    (case c28 => k_is); (case k28 => k_is); (case a29 => k_is); (case l29 => k_is); (case c29 => k_is); (case k29 => k_is)
    (case a30 => k_is); (case l30 => k_is); (case c30 => k_is); (case k30 => k_is); (case a31 => k_is); (case l31 => k_is)
    (case c31 => k_is); (case k31 => k_is); (case a32 => k_is); (case l32 => k_is); (case c32 => k_is); (case k32 => k_is)
    (case a33 => k_is); (case l33 => k_is); (case c33 => k_is); (case k33 => k_is); (case z0 => k_is); (case z1 => k_is)
    (case z2 => k_is); (case z3 => k_is); (case z4 => k_is); (case z5 => k_is); (case z6 => k_is); (case z7 => k_is)
    (case z8 => k_is); (case z9 => k_is); (case z10 => k_is); (case z11 => k_is); (case z12 => k_is); (case z13 => k_is)
    (case z14 => k_is); (case z15 => k_is); (case y0 => k_is); (case y1 => k_is); (case y2 => k_is); (case y3 => k_is)
    (case y4 => k_is)
