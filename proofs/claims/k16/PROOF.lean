import PyProof.Rows.All
import Wide.All
import OpenK.AllK
import Wide.FinOn
import HandS.ForMost
import HandS.IsInst
import HandS.Codes
import HandS.ExcIs
import HandS.Rev
import HandS.Exc
import HandS.WordsExc
import HandS.ExcOwn
import HandS.TryOnly
import HandS.More
import HandS.SuiteRaise
import PySem.Challenge.RW_boardkin_k16_texts_refused
set_option Elab.async false
set_option linter.all false
set_option maxRecDepth 100000
set_option maxHeartbeats 4000000
namespace Bk
open PySem PySem.Spec PyProof.Rows L2

/-! ### heaps that grow -/
theorem same_upd {H : Hp} {p : Addr} {o : HO} (h : H p = none) : Same H (upd H p o) := fun b x e => by
  rw [upd_ne (ne_of_none e h)]
  exact e
/-- a new object that changes later -/
theorem same_mut {H H' : Hp} {p : Addr} {o : HO} (e : Same H H') (h : H p = none) : Same H (upd H' p o) := fun a u ha => by
  rw [upd_ne (ne_of_none ha h)]
  exact e a u ha
/-- the tuples stand -/
def Tk (H H' : Hp) : Prop := ∀ a xs, H a = some (.tup xs) → H' a = some (.tup xs)
theorem Tk.refl (H : Hp) : Tk H H := fun _ _ h => h
theorem Tk.trans {H H1 H2 : Hp} (a : Tk H H1) (b : Tk H1 H2) : Tk H H2 := fun x o h => b x o (a x o h)
theorem Same.tk {H H' : Hp} (e : Same H H') : Tk H H' := fun a xs h => e a _ h
theorem tk_lst {H : Hp} {p : Addr} {o : HO} {ys : List V} (h : H p = some (.lst ys)) : Tk H (upd H p o) := fun a xs e => by
  rw [upd_ne (ne_of e h (by intro z; cases z))]
  exact e
theorem tk_new {H : Hp} {p : Addr} {o : HO} (h : H p = none) : Tk H (upd H p o) := Same.tk (same_upd h)

/-! ### data that never changes -/
mutual
inductive Im (H : Hp) : V → PyData → Prop
  | non : Im H .non .none
  | bl (b : Bool) : Im H (.bl b) (.bool b)
  | int (i : Int) : Im H (.int i) (.int i)
  | str (x : Str) : Im H (.str x) (.str x)
  | tup {a : Addr} {xs : List V} {ds : List PyData} : H a = some (.tup xs) → ImAll H xs ds → Im H (.ref a) (.tuple ds)
inductive ImAll (H : Hp) : List V → List PyData → Prop
  | nil : ImAll H [] []
  | cons {v : V} {vs : List V} {d : PyData} {ds : List PyData} : Im H v d → ImAll H vs ds → ImAll H (v :: vs) (d :: ds)
end
mutual
theorem Im.mono {H H' : Hp} (k : Tk H H') : ∀ (d : PyData) (v : V), Im H v d → Im H' v d
  | .none, _, h => by cases h; exact .non
  | .bool _, _, h => by cases h; exact .bl _
  | .int _, _, h => by cases h; exact .int _
  | .str _, _, h => by cases h; exact .str _
  | .tuple ds, _, h => by
    cases h with
    | tup e a => exact .tup (k _ _ e) (ImAll.mono k ds _ a)
  | .list _, _, h => by cases h
  | .dict _, _, h => by cases h
theorem ImAll.mono {H H' : Hp} (k : Tk H H') : ∀ (ds : List PyData) (vs : List V), ImAll H vs ds → ImAll H' vs ds
  | [], _, h => by cases h; exact .nil
  | d :: ds, _, h => by
    cases h with
    | cons a b => exact .cons (Im.mono k d _ a) (ImAll.mono k ds _ b)
end
theorem Im.tk {H H' : Hp} {d : PyData} {v : V} (h : Im H v d) (k : Tk H H') : Im H' v d := Im.mono k d v h
theorem ImAll.tk {H H' : Hp} {d : List PyData} {v : List V} (h : ImAll H v d) (k : Tk H H') : ImAll H' v d := ImAll.mono k d v h
theorem Im.sm {H H' : Hp} {d : PyData} {v : V} (h : Im H v d) (k : Same H H') : Im H' v d := h.tk (Same.tk k)
theorem ImAll.sm {H H' : Hp} {d : List PyData} {v : List V} (h : ImAll H v d) (k : Same H H') : ImAll H' v d := h.tk (Same.tk k)
mutual
theorem Im.dp {K : PySem.W.Frag} {H : Hp} : ∀ (d : PyData) (v : V), Im H v d → Dp K H v d
  | .none, _, h => by cases h; exact .non
  | .bool _, _, h => by cases h; exact .bl _
  | .int _, _, h => by cases h; exact .int _
  | .str _, _, h => by cases h; exact .str _
  | .tuple ds, _, h => by
    cases h with
    | tup e a => exact .tup (SqT.of e) (ImAll.dp ds _ a)
  | .list _, _, h => by cases h
  | .dict _, _, h => by cases h
theorem ImAll.dp {K : PySem.W.Frag} {H : Hp} : ∀ (ds : List PyData) (vs : List V), ImAll H vs ds → DpAll K H vs ds
  | [], _, h => by cases h; exact .nil
  | d :: ds, _, h => by
    cases h with
    | cons a b => exact .cons (Im.dp d _ a) (ImAll.dp ds _ b)
end
theorem Im.intv {H : Hp} {v : V} {i : Int} (h : Im H v (.int i)) : v = .int i := by cases h; rfl
theorem Im.blv {H : Hp} {v : V} {i : Bool} (h : Im H v (.bool i)) : v = .bl i := by cases h; rfl
theorem Im.strv {H : Hp} {v : V} {i : Str} (h : Im H v (.str i)) : v = .str i := by cases h; rfl
theorem Im.tupv {H : Hp} {v : V} {ds : List PyData} (h : Im H v (.tuple ds)) : ∃ a xs, v = .ref a ∧ H a = some (.tup xs) ∧ ImAll H xs ds := by
  cases h with
  | tup e a => exact ⟨_, _, rfl, e, a⟩
theorem ImAll.len {H : Hp} : ∀ {vs : List V} {ds : List PyData}, ImAll H vs ds → vs.length = ds.length
  | _, _, .nil => rfl
  | _, _, .cons _ t => congrArg (· + 1) t.len
theorem ImAll.get {H : Hp} : ∀ {vs : List V} {ds : List PyData} {i : Nat} {d : PyData}, ImAll H vs ds → ds[i]? = some d → ∃ v, vs[i]? = some v ∧ Im H v d
  | _, _, _, _, .nil, h => by simp at h
  | _, _, 0, _, .cons a _, h => by
    have e := Option.some.inj h
    exact ⟨_, rfl, e ▸ a⟩
  | _, _, i + 1, _, .cons _ t, h => t.get (i := i) h
theorem ImAll.getv {H : Hp} : ∀ {vs : List V} {ds : List PyData} {i : Nat} {v : V}, ImAll H vs ds → vs[i]? = some v → ∃ d, ds[i]? = some d ∧ Im H v d
  | _, _, _, _, .nil, h => by simp at h
  | _, _, 0, _, .cons a _, h => by
    have e := Option.some.inj h
    exact ⟨_, rfl, e ▸ a⟩
  | _, _, i + 1, _, .cons _ t, h => t.getv (i := i) h
theorem ImAll.app {H : Hp} : ∀ {vs ws : List V} {ds es : List PyData}, ImAll H vs ds → ImAll H ws es → ImAll H (vs ++ ws) (ds ++ es)
  | _, _, _, _, .nil, b => b
  | _, _, _, _, .cons a t, b => .cons a (t.app b)
theorem ImAll.rev {H : Hp} : ∀ {vs : List V} {ds : List PyData}, ImAll H vs ds → ImAll H vs.reverse ds.reverse
  | _, _, .nil => .nil
  | _, _, .cons a t => by
    rw [List.reverse_cons, List.reverse_cons]
    exact t.rev.app (.cons a .nil)
theorem ImAll.take {H : Hp} : ∀ {vs : List V} {ds : List PyData} (n : Nat), ImAll H vs ds → ImAll H (vs.take n) (ds.take n)
  | _, _, 0, _ => .nil
  | _, _, _ + 1, .nil => .nil
  | _, _, n + 1, .cons a t => .cons a (t.take n)
theorem ImAll.drop {H : Hp} : ∀ {vs : List V} {ds : List PyData} (n : Nat), ImAll H vs ds → ImAll H (vs.drop n) (ds.drop n)
  | _, _, 0, h => h
  | _, _, _ + 1, .nil => .nil
  | _, _, n + 1, .cons _ t => t.drop n
theorem ImAll.set {H : Hp} {v : V} {d : PyData} (h : Im H v d) : ∀ {vs : List V} {ds : List PyData} (n : Nat), ImAll H vs ds → ImAll H (vs.set n v) (ds.set n d)
  | _, _, _, .nil => .nil
  | _, _, 0, .cons _ t => .cons h t
  | _, _, n + 1, .cons a t => .cons a (ImAll.set h n t)
theorem imAll_ints {H : Hp} : ∀ (ns : List Int), ImAll H (ns.map V.int) (ns.map .int)
  | [] => .nil
  | n :: r => .cons (.int n) (imAll_ints r)
theorem ImAll.ints {H : Hp} : ∀ {vs : List V} {ns : List Int}, ImAll H vs (ns.map .int) → vs = ns.map V.int
  | _, [], h => by
    have h' : ImAll H _ [] := h
    cases h'; rfl
  | _, n :: r, h => by
    have h' : ImAll H _ (.int n :: r.map .int) := h
    cases h' with
    | cons a b =>
      rw [a.intv, b.ints]
      rfl

/-! ### what evaluates to what, in whatever has grown from H -/
def EvD (te : TE) (σ : L2.St) (H : Hp) (d : PyData) : Prop := ∀ H1, Same H H1 → ∀ Q : VK, (∀ v H2, Same H1 H2 → Im H2 v d → Q v H2) → te σ H1 Q
def EvV (te : TE) (σ : L2.St) (H : Hp) (v : V) : Prop := ∀ H1, Same H H1 → ∀ Q : VK, (∀ H2, Same H1 H2 → Q v H2) → te σ H1 Q
/-- a new list of data -/
def EvN (te : TE) (σ : L2.St) (H : Hp) (ds : List PyData) : Prop := ∀ H1, Same H H1 → ∀ Q : VK, (∀ p xs H2, Same H1 H2 → H1 p = none → H2 p = some (.lst xs) → ImAll H2 xs ds → Q (.ref p) H2) → te σ H1 Q
def EvT (tt : TT) (σ : L2.St) (H : Hp) (b : Bool) : Prop := ∀ H1, Same H H1 → ∀ Q : Bool → Hp → Prop, (∀ H2, Same H1 H2 → Q b H2) → tt σ H1 Q
def EvA (ta : TA) (σ : L2.St) (H : Hp) (ds : List PyData) : Prop := ∀ H1, Same H H1 → ∀ Q : List V → Hp → Prop, (∀ vs H2, Same H1 H2 → ImAll H2 vs ds → Q vs H2) → ta σ H1 Q
section
variable {K : PySem.W.Frag} {σ : L2.St} {H H' : Hp} {ta tb te tx : TE} {t u : TT} {x y z v : V} {d d' : PyData}
theorem EvD.sm (h : EvD te σ H d) (k : Same H H') : EvD te σ H' d := fun H1 s => h H1 (k.trans s)
theorem EvV.sm (h : EvV te σ H v) (k : Same H H') : EvV te σ H' v := fun H1 s => h H1 (k.trans s)
theorem EvT.sm {b : Bool} (h : EvT t σ H b) (k : Same H H') : EvT t σ H' b := fun H1 s => h H1 (k.trans s)
theorem EvN.sm {ds : List PyData} (h : EvN te σ H ds) (k : Same H H') : EvN te σ H' ds := fun H1 s => h H1 (k.trans s)
theorem EvA.sm {ta : TA} {ds : List PyData} (h : EvA ta σ H ds) (k : Same H H') : EvA ta σ H' ds := fun H1 s => h H1 (k.trans s)
theorem EvD.cast (h : EvD te σ H d) (e : d = d') : EvD te σ H d' := e ▸ h
theorem EvT.cast {b b' : Bool} (h : EvT t σ H b) (e : b = b') : EvT t σ H b' := e ▸ h
theorem evd_var {i : Nat} (h : σ[i]? = some (some v)) (hd : Im H v d) : EvD (tVar i) σ H d := fun H1 s _ q => ⟨v, h, q v H1 (Same.refl _) (hd.sm s)⟩
theorem evv_var {i : Nat} (h : σ[i]? = some (some v)) : EvV (tVar i) σ H v := fun H1 _ _ q => ⟨v, h, q H1 (Same.refl _)⟩
theorem evd_int {i : Int} : EvD (tC (.int i)) σ H (.int i) := fun H1 _ _ q => q _ H1 (Same.refl _) (.int i)
theorem evd_bl {i : Bool} : EvD (tC (.bl i)) σ H (.bool i) := fun H1 _ _ q => q _ H1 (Same.refl _) (.bl i)
theorem evd_non : EvD (tC .non) σ H .none := fun H1 _ _ q => q _ H1 (Same.refl _) .non
theorem evd_str {i : Str} : EvD (tC (.str i)) σ H (.str i) := fun H1 _ _ q => q _ H1 (Same.refl _) (.str i)
theorem evv_c : EvV (tC v) σ H v := fun H1 _ _ q => q H1 (Same.refl _)
theorem EvV.toD (h : EvV te σ H v) (hd : Im H v d) : EvD te σ H d := fun H1 s Q q => h H1 s Q fun H2 s2 => q v H2 s2 (hd.sm (s.trans s2))
theorem EvD.vi {i : Int} (h : EvD te σ H (.int i)) : EvV te σ H (.int i) := fun H1 s Q q => h H1 s Q fun v H2 s2 im => by
  rw [im.intv]
  exact q H2 s2
theorem EvD.vb {i : Bool} (h : EvD te σ H (.bool i)) : EvV te σ H (.bl i) := fun H1 s Q q => h H1 s Q fun v H2 s2 im => by
  rw [im.blv]
  exact q H2 s2
theorem EvD.vs {i : Str} (h : EvD te σ H (.str i)) : EvV te σ H (.str i) := fun H1 s Q q => h H1 s Q fun v H2 s2 im => by
  rw [im.strv]
  exact q H2 s2
/-- two operands -/
theorem evd_op {r : R2} {d1 d2 : PyData} (ha : EvD ta σ H d1) (hb : EvD tb σ H d2) (hr : ∀ H1 x y, Same H H1 → Im H1 x d1 → Im H1 y d2 → ∀ Q : VK, (∀ v, Im H1 v d → Q v H1) → r x y H1 Q) : EvD (tOp r ta tb) σ H d := fun H1 s Q q =>
  ha H1 s _ fun x H2 s2 i2 => hb H2 (s.trans s2) _ fun y H3 s3 i3 => hr H3 x y ((s.trans s2).trans s3) (i2.sm s3) i3 _ fun v iv => q v H3 (s2.trans s3) iv
theorem evd_I0 {g : Int → Int → V} {i j : Int} (ha : EvD ta σ H (.int i)) (hb : EvD tb σ H (.int j)) (hg : ∀ H1, Im H1 (g i j) d) : EvD (tOp (rI0 g) ta tb) σ H d :=
  evd_op ha hb fun H1 x y _ i1 i2 Q q => ⟨i, j, i1.intv, i2.intv, q _ (hg H1)⟩
theorem evd_I {C : Int → Int → Prop} {g : Int → Int → V} {i j : Int} (ha : EvD ta σ H (.int i)) (hb : EvD tb σ H (.int j)) (hc : C i j) (hg : ∀ H1, Im H1 (g i j) d) : EvD (tOp (rI C g) ta tb) σ H d :=
  evd_op ha hb fun H1 x y _ i1 i2 Q q => ⟨i, j, i1.intv, i2.intv, hc, q _ (hg H1)⟩
theorem evd_add {i j : Int} (ha : EvD ta σ H (.int i)) (hb : EvD tb σ H (.int j)) : EvD (tOp (rI0 fun i j => .int (i + j)) ta tb) σ H (.int (i + j)) := evd_I0 ha hb fun _ => .int _
theorem evd_sub {i j : Int} (ha : EvD ta σ H (.int i)) (hb : EvD tb σ H (.int j)) : EvD (tOp (rI0 fun i j => .int (i - j)) ta tb) σ H (.int (i - j)) := evd_I0 ha hb fun _ => .int _
theorem evd_mul {i j : Int} (ha : EvD ta σ H (.int i)) (hb : EvD tb σ H (.int j)) (hc : CMul i j) : EvD (tOp (rI CMul fun i j => .int (i * j)) ta tb) σ H (.int (i * j)) := evd_I ha hb hc fun _ => .int _
theorem evd_fdiv {i j : Int} (ha : EvD ta σ H (.int i)) (hb : EvD tb σ H (.int j)) (hc : CDiv i j) : EvD (tOp (rI CDiv fun i j => .int (i / j)) ta tb) σ H (.int (i / j)) := evd_I ha hb hc fun _ => .int _
theorem evd_mod {i j : Int} (ha : EvD ta σ H (.int i)) (hb : EvD tb σ H (.int j)) (hc : 0 < j) : EvD (tOp (rI (fun _ j => 0 < j) fun i j => .int (i % j)) ta tb) σ H (.int (i % j)) := evd_I ha hb hc fun _ => .int _
theorem evd_lt {i j : Int} (ha : EvD ta σ H (.int i)) (hb : EvD tb σ H (.int j)) : EvD (tOp (rI0 fun i j => .bl (decide (i < j))) ta tb) σ H (.bool (decide (i < j))) := evd_I0 ha hb fun _ => .bl _
theorem evd_le {i j : Int} (ha : EvD ta σ H (.int i)) (hb : EvD tb σ H (.int j)) : EvD (tOp (rI0 fun i j => .bl (decide (i ≤ j))) ta tb) σ H (.bool (decide (i ≤ j))) := evd_I0 ha hb fun _ => .bl _
theorem evd_gt {i j : Int} (ha : EvD ta σ H (.int i)) (hb : EvD tb σ H (.int j)) : EvD (tOp (rI0 fun i j => .bl (decide (j < i))) ta tb) σ H (.bool (decide (j < i))) := evd_I0 ha hb fun _ => .bl _
theorem evd_ge {i j : Int} (ha : EvD ta σ H (.int i)) (hb : EvD tb σ H (.int j)) : EvD (tOp (rI0 fun i j => .bl (decide (j ≤ i))) ta tb) σ H (.bool (decide (j ≤ i))) := evd_I0 ha hb fun _ => .bl _
theorem evd_eqI {i j : Int} (ha : EvD ta σ H (.int i)) (hb : EvD tb σ H (.int j)) : EvD (tOp rEq ta tb) σ H (.bool (decide (i = j))) :=
  evd_op ha hb fun H1 x y _ i1 i2 Q q => by
    rw [i1.intv, i2.intv]
    refine ⟨rfl, ?_⟩
    have e : decide (V.int i = V.int j) = decide (i = j) := by
      by_cases h : i = j
      · rw [h, decide_eq_true rfl, decide_eq_true rfl]
      · rw [decide_eq_false h, decide_eq_false fun z => h (V.int.inj z)]
    rw [e]
    exact q _ (.bl _)
theorem evd_neI {i j : Int} (ha : EvD ta σ H (.int i)) (hb : EvD tb σ H (.int j)) : EvD (tOp rNe ta tb) σ H (.bool (!decide (i = j))) :=
  evd_op ha hb fun H1 x y _ i1 i2 Q q => by
    rw [i1.intv, i2.intv]
    refine ⟨rfl, ?_⟩
    have e : decide (V.int i = V.int j) = decide (i = j) := by
      by_cases h : i = j
      · rw [h, decide_eq_true rfl, decide_eq_true rfl]
      · rw [decide_eq_false h, decide_eq_false fun z => h (V.int.inj z)]
    rw [e]
    exact q _ (.bl _)
theorem evd_eqD {d1 d2 : PyData} (ha : EvD ta σ H d1) (hb : EvD tb σ H d2) (s1 : SeqAt.shaped d1 = true) (s2 : SeqAt.shaped d2 = true) : EvD (tOp (rEqD K) ta tb) σ H (.bool (PyData.eqv d1 d2)) :=
  evd_op ha hb fun H1 x y _ i1 i2 Q q => ⟨d1, d2, Im.dp _ _ i1, Im.dp _ _ i2, s1, s2, q _ (.bl _)⟩
theorem evd_neD {d1 d2 : PyData} (ha : EvD ta σ H d1) (hb : EvD tb σ H d2) (s1 : SeqAt.shaped d1 = true) (s2 : SeqAt.shaped d2 = true) : EvD (tOp (rNeD K) ta tb) σ H (.bool (!PyData.eqv d1 d2)) :=
  evd_op ha hb fun H1 x y _ i1 i2 Q q => ⟨d1, d2, Im.dp _ _ i1, Im.dp _ _ i2, s1, s2, q _ (.bl _)⟩
theorem atI_len {α β : Type} {xs : List α} {ys : List β} (e : xs.length = ys.length) {i : Int} {y : β} (h : atI ys i = some y) : ∃ j : Nat, ixN ys.length i = some j ∧ ys[j]? = some y ∧ ∀ x, xs[j]? = some x → atI xs i = some x := by
  unfold atI at h
  cases q : ixN ys.length i with
  | none => rw [q] at h; cases h
  | some j =>
    rw [q] at h
    refine ⟨j, rfl, h, fun x hx => ?_⟩
    unfold atI
    rw [e, q]
    exact hx
/-- t[i] of a tuple -/
theorem evd_ixT {ds : List PyData} {i : Int} (ha : EvD ta σ H (.tuple ds)) (hb : EvD tb σ H (.int i)) (hi : atI ds i = some d) : EvD (tOp (rIx K) ta tb) σ H d :=
  evd_op ha hb fun H1 x y _ i1 i2 Q q => by
    obtain ⟨a, xs, rfl, e, im⟩ := i1.tupv
    obtain ⟨j, _, h2, h3⟩ := atI_len im.len hi
    obtain ⟨v, hv, iv⟩ := im.get h2
    exact .inr (.inl ⟨a, xs, i, v, rfl, i2.intv, SqT.of e, h3 v hv, q v iv⟩)
/-- xs[i] of a list that stands -/
theorem evd_ixL {a : Addr} {xs : List V} {ds : List PyData} {i : Int} (ha : EvV ta σ H (.ref a)) (hb : EvD tb σ H (.int i)) (hl : SqL K H a xs) (him : ImAll H xs ds) (hi : atI ds i = some d) : EvD (tOp (rIx K) ta tb) σ H d := fun H1 s Q q =>
  ha H1 s _ fun H2 s2 => hb H2 (s.trans s2) _ fun y H3 s3 i3 => by
    have s' := (s.trans s2).trans s3
    obtain ⟨j, _, h2, h3⟩ := atI_len him.len hi
    obtain ⟨v, hv, iv⟩ := him.get h2
    exact .inl ⟨a, xs, i, v, rfl, i3.intv, s'.seq hl, h3 v hv, q v H3 (s2.trans s3) (iv.sm s')⟩
/-- arguments -/
theorem eva_nil : EvA tNil σ H [] := fun H1 _ _ q => q _ H1 (Same.refl _) .nil
theorem eva_cons {tr : TA} {ds : List PyData} (ha : EvD te σ H d) (hr : EvA tr σ H ds) : EvA (tCons te tr) σ H (d :: ds) := fun H1 s Q q =>
  ha H1 s _ fun x H2 s2 i2 => hr H2 (s.trans s2) _ fun vs H3 s3 i3 => q _ H3 (s2.trans s3) (.cons (i2.sm s3) i3)
theorem evd_tup {ta : TA} {ds : List PyData} (h : EvA ta σ H ds) (hl : ds.length ≤ 1000) : EvD (tTup ta) σ H (.tuple ds) := fun H1 s Q q =>
  h H1 s _ fun vs H2 s2 i2 => ⟨by rw [i2.len]; exact Nat.le_of_lt (small1000 hl), fun p hp => q _ _ (s2.trans (same_upd hp)) (.tup upd_same (i2.sm (same_upd hp)))⟩
theorem evn_lst {ta : TA} {ds : List PyData} (h : EvA ta σ H ds) (hl : ds.length ≤ 1000) : EvN (tLst ta) σ H ds := fun H1 s Q q =>
  h H1 s _ fun vs H2 s2 i2 => ⟨by rw [i2.len]; exact Nat.le_of_lt (small1000 hl), fun p hp => q p vs _ (s2.trans (same_upd hp)) (s2.free hp) upd_same (i2.sm (same_upd hp))⟩
/-- a def that gives data -/
def GivesD (sp : Sp) (ds : List PyData) (d : PyData) : Prop := ∀ (H : Hp) (vs : List V) (Q : VK) (E : XK), ImAll H vs ds → (∀ v H', Same H H' → Im H' v d → Q v H') → sp vs H Q E
def GivesN (sp : Sp) (ds : List PyData) (es : List PyData) : Prop := ∀ (H : Hp) (vs : List V) (Q : VK) (E : XK), ImAll H vs ds → (∀ p xs H', Same H H' → H p = none → H' p = some (.lst xs) → ImAll H' xs es → Q (.ref p) H') → sp vs H Q E
theorem evd_call {sp : Sp} {E : XK} {ta : TA} {ds : List PyData} (h : EvA ta σ H ds) (g : GivesD sp ds d) : EvD (tCall sp [] E ta) σ H d := fun H1 s Q q =>
  h H1 s _ fun vs H2 s2 i2 => by
    rw [List.append_nil]
    exact g H2 vs Q E i2 fun v H3 s3 i3 => q v H3 (s2.trans s3) i3
theorem evn_call {sp : Sp} {E : XK} {ta : TA} {ds es : List PyData} (h : EvA ta σ H ds) (g : GivesN sp ds es) : EvN (tCall sp [] E ta) σ H es := fun H1 s Q q =>
  h H1 s _ fun vs H2 s2 i2 => by
    rw [List.append_nil]
    exact g H2 vs Q E i2 fun p xs H3 s3 h1 h2 i3 => q p xs H3 (s2.trans s3) (s2.free h1) h2 i3
/-- built-ins -/
abbrev rLenQ (K : PySem.W.Frag) : List V → Hp → VK → Prop := fun xs H Q => ∃ p ys, xs = [.ref p] ∧ (SqL K H p ys ∨ SqT K H p ys) ∧ Q (.int ys.length) H
theorem evd_lenT {ds : List PyData} (h : EvD te σ H (.tuple ds)) : EvD (tCB (rLenQ K) (tCons te tNil)) σ H (.int (ds.length : Int)) := fun H1 s Q q =>
  h H1 s _ fun x H2 s2 i2 => by
    obtain ⟨a, xs, rfl, e, im⟩ := i2.tupv
    refine ⟨a, xs, rfl, .inr (SqT.of e), ?_⟩
    rw [im.len]
    exact q _ H2 s2 (.int _)
theorem evd_lenL {a : Addr} {xs : List V} (h : EvV te σ H (.ref a)) (hl : SqL K H a xs) : EvD (tCB (rLenQ K) (tCons te tNil)) σ H (.int (xs.length : Int)) := fun H1 s Q q =>
  h H1 s _ fun H2 s2 => ⟨a, xs, rfl, .inl ((s.trans s2).seq hl), q _ H2 s2 (.int _)⟩
theorem evd_lenN {ds : List PyData} (h : EvN te σ H ds) : EvD (tCB (rLenQ K) (tCons te tNil)) σ H (.int (ds.length : Int)) := fun H1 s Q q =>
  h H1 s _ fun p xs H2 s2 _ e im => by
    refine ⟨p, xs, rfl, .inl (SqL.of e), ?_⟩
    rw [im.len]
    exact q _ H2 s2 (.int _)
abbrev rTupQ (K : PySem.W.Frag) : List V → Hp → VK → Prop := fun xs H Q => ∃ p ys, xs = [.ref p] ∧ ((SqL K H p ys ∧ ∀ l, H l = none → Q (.ref l) (upd H l (.tup ys))) ∨ (SqT K H p ys ∧ Q (.ref p) H))
theorem evd_tupN {ds : List PyData} (h : EvN te σ H ds) : EvD (tCB (rTupQ K) (tCons te tNil)) σ H (.tuple ds) := fun H1 s Q q =>
  h H1 s _ fun p xs H2 s2 _ e im => ⟨p, xs, rfl, .inl ⟨SqL.of e, fun l hl => q _ _ (s2.trans (same_upd hl)) (.tup upd_same (im.sm (same_upd hl)))⟩⟩
theorem evd_tupL {a : Addr} {xs : List V} {ds : List PyData} (h : EvV te σ H (.ref a)) (hl : SqL K H a xs) (him : ImAll H xs ds) : EvD (tCB (rTupQ K) (tCons te tNil)) σ H (.tuple ds) := fun H1 s Q q =>
  h H1 s _ fun H2 s2 => ⟨a, xs, rfl, .inl ⟨(s.trans s2).seq hl, fun l hl => q _ _ (s2.trans (same_upd hl)) (.tup upd_same (him.sm ((s.trans s2).trans (same_upd hl))))⟩⟩
theorem evd_tupT {ds : List PyData} (h : EvD te σ H (.tuple ds)) : EvD (tCB (rTupQ K) (tCons te tNil)) σ H (.tuple ds) := fun H1 s Q q =>
  h H1 s _ fun x H2 s2 i2 => by
    obtain ⟨a, xs, rfl, e, im⟩ := i2.tupv
    exact ⟨a, xs, rfl, .inr ⟨SqT.of e, q _ H2 s2 (.tup e im)⟩⟩
abbrev rLstQ (K : PySem.W.Frag) : List V → Hp → VK → Prop := fun xs H Q => ∃ p ys, xs = [.ref p] ∧ (SqL K H p ys ∨ SqT K H p ys) ∧ ∀ l, H l = none → Q (.ref l) (upd H l (.lst ys))
theorem evn_lstT {ds : List PyData} (h : EvD te σ H (.tuple ds)) : EvN (tCB (rLstQ K) (tCons te tNil)) σ H ds := fun H1 s Q q =>
  h H1 s _ fun x H2 s2 i2 => by
    obtain ⟨a, xs, rfl, e, im⟩ := i2.tupv
    exact ⟨a, xs, rfl, .inr (SqT.of e), fun l hl => q l xs _ (s2.trans (same_upd hl)) (s2.free hl) upd_same (im.sm (same_upd hl))⟩
theorem evn_lstL {a : Addr} {xs : List V} {ds : List PyData} (h : EvV te σ H (.ref a)) (hl : SqL K H a xs) (him : ImAll H xs ds) : EvN (tCB (rLstQ K) (tCons te tNil)) σ H ds := fun H1 s Q q =>
  h H1 s _ fun H2 s2 => ⟨a, xs, rfl, .inl ((s.trans s2).seq hl), fun l hl => q l xs _ (s2.trans (same_upd hl)) (s2.free hl) upd_same (him.sm ((s.trans s2).trans (same_upd hl)))⟩
/-- tests -/
theorem evt_test {b : Bool} (h : EvD te σ H (.bool b)) : EvT (tTest te) σ H b := fun H1 s Q q => h H1 s _ fun v H2 s2 i2 => ⟨b, i2.blv, q H2 s2⟩
theorem evt_B {b : Bool} (h : EvD te σ H (.bool b)) : EvT (tB te) σ H b := fun H1 s Q q => h H1 s _ fun v H2 s2 i2 => ⟨b, i2.blv, q H2 s2⟩
theorem evt_and {a b : Bool} (h1 : EvT t σ H a) (h2 : a = true → EvT u σ H b) : EvT (tAnd t u) σ H (a && b) := fun H1 e Q q => h1 H1 e _ fun H2 e2 => by
  cases a with
  | true =>
    show u σ H2 Q
    exact h2 rfl H2 (e.trans e2) Q fun H3 e3 => q H3 (e2.trans e3)
  | false =>
    show Q false H2
    exact q H2 e2
theorem evt_or {a b : Bool} (h1 : EvT t σ H a) (h2 : a = false → EvT u σ H b) : EvT (tOr t u) σ H (a || b) := fun H1 e Q q => h1 H1 e _ fun H2 e2 => by
  cases a with
  | true =>
    show Q true H2
    exact q H2 e2
  | false =>
    show u σ H2 Q
    exact h2 rfl H2 (e.trans e2) Q fun H3 e3 => q H3 (e2.trans e3)
theorem evt_not {a : Bool} (h1 : EvT t σ H a) : EvT (tNot t) σ H (!a) := fun H1 e _ q => h1 H1 e _ fun H2 e2 => q H2 e2
theorem evd_and {a b : Bool} (h1 : EvD ta σ H (.bool a)) (h2 : a = true → EvD tb σ H (.bool b)) : EvD (tAndV ta tb) σ H (.bool (a && b)) := fun H1 e Q q => h1 H1 e _ fun v H2 e2 i2 => ⟨a, i2.blv, by
  cases a with
  | true =>
    show tb σ H2 Q
    exact h2 rfl H2 (e.trans e2) Q fun v H3 e3 i3 => q v H3 (e2.trans e3) i3
  | false =>
    show Q (.bl false) H2
    exact q _ H2 e2 (.bl _)⟩
theorem evd_or {a b : Bool} (h1 : EvD ta σ H (.bool a)) (h2 : a = false → EvD tb σ H (.bool b)) : EvD (tOrV ta tb) σ H (.bool (a || b)) := fun H1 e Q q => h1 H1 e _ fun v H2 e2 i2 => ⟨a, i2.blv, by
  cases a with
  | true =>
    show Q (.bl true) H2
    exact q _ H2 e2 (.bl _)
  | false =>
    show tb σ H2 Q
    exact h2 rfl H2 (e.trans e2) Q fun v H3 e3 i3 => q v H3 (e2.trans e3) i3⟩
theorem evd_not {a : Bool} (h1 : EvD ta σ H (.bool a)) : EvD (tNotV ta) σ H (.bool (!a)) := fun H1 e _ q => h1 H1 e _ fun v H2 e2 i2 => ⟨a, i2.blv, q _ H2 e2 (.bl _)⟩
theorem evd_if {b : Bool} (h : EvT t σ H b) (h1 : b = true → EvD ta σ H d) (h2 : b = false → EvD tb σ H d) : EvD (tIf t ta tb) σ H d := fun H1 e Q q => h H1 e _ fun H2 e2 => by
  cases b with
  | true =>
    show ta σ H2 Q
    exact h1 rfl H2 (e.trans e2) Q fun v H3 e3 i3 => q v H3 (e2.trans e3) i3
  | false =>
    show tb σ H2 Q
    exact h2 rfl H2 (e.trans e2) Q fun v H3 e3 i3 => q v H3 (e2.trans e3) i3

/-! ### statements -/
variable {D : Ends} {tu tw : TS} {g : TG}
theorem s_seq {t u : TS} (h : t { D with nx := u D } σ H) : tSeq t u D σ H := h
theorem s_nx {nx bk ct : L2.St → Hp → Prop} {rt : VK} (h : nx σ H) : tNext { nx := nx, rt := rt, bk := bk, ct := ct } σ H := h
theorem s_asg {i : Nat} (h : EvD te σ H d) (k : ∀ v H1, Same H H1 → Im H1 v d → D.nx (σ.set i (some v)) H1) : tAsg te (gName i) D σ H := h H (Same.refl H) _ k
theorem s_asgI {i : Nat} {n : Int} (h : EvD te σ H (.int n)) (k : ∀ H1, Same H H1 → D.nx (σ.set i (some (.int n))) H1) : tAsg te (gName i) D σ H := h.vi H (Same.refl H) _ k
theorem s_asgB {i : Nat} {n : Bool} (h : EvD te σ H (.bool n)) (k : ∀ H1, Same H H1 → D.nx (σ.set i (some (.bl n))) H1) : tAsg te (gName i) D σ H := h.vb H (Same.refl H) _ k
theorem s_asgS {i : Nat} {n : Str} (h : EvD te σ H (.str n)) (k : ∀ H1, Same H H1 → D.nx (σ.set i (some (.str n))) H1) : tAsg te (gName i) D σ H := h.vs H (Same.refl H) _ k
theorem s_asgN {i : Nat} {ds : List PyData} (h : EvN te σ H ds) (k : ∀ p xs H1, Same H H1 → H p = none → H1 p = some (.lst xs) → ImAll H1 xs ds → D.nx (σ.set i (some (.ref p))) H1) : tAsg te (gName i) D σ H := h H (Same.refl H) _ k
theorem s_ret (h : EvD te σ H d) (k : ∀ v H1, Same H H1 → Im H1 v d → D.rt v H1) : tRet te D σ H := h H (Same.refl H) _ k
theorem s_retN {ds : List PyData} (h : EvN te σ H ds) (k : ∀ p xs H1, Same H H1 → H p = none → H1 p = some (.lst xs) → ImAll H1 xs ds → D.rt (.ref p) H1) : tRet te D σ H := h H (Same.refl H) _ k
theorem s_retV (h : EvV te σ H v) (k : ∀ H1, Same H H1 → D.rt v H1) : tRet te D σ H := h H (Same.refl H) _ k
theorem s_if {b : Bool} (h : EvT t σ H b) (h1 : b = true → ∀ H1, Same H H1 → tu D σ H1) (h2 : b = false → ∀ H1, Same H H1 → tw D σ H1) : tIfS t tu tw D σ H := h H (Same.refl H) _ fun H1 e => by
  cases b with
  | true =>
    show tu D σ H1
    exact h1 rfl H1 e
  | false =>
    show tw D σ H1
    exact h2 rfl H1 e
theorem s_drop (h : EvD te σ H d) (k : ∀ H1, Same H H1 → D.nx σ H1) : tDrop te D σ H := h H (Same.refl H) _ fun _ H1 s _ => k H1 s
/-- a, b = e1, e2 -/
theorem s_par {i j : Nat} {ta : TA} {d1 d2 : PyData} (h : EvA ta σ H [d1, d2]) (k : ∀ v w H1, Same H H1 → Im H1 v d1 → Im H1 w d2 → D.nx ((σ.set i (some v)).set j (some w)) H1) : tPar i j ta D σ H := h H (Same.refl H) _ fun vs H1 s im => by
  cases im with
  | cons a r =>
    cases r with
    | cons b r =>
      cases r
      exact ⟨_, _, rfl, k _ _ H1 s a b⟩
/-- xs.append(e), xs a list of the def's own -/
theorem s_app {l : Addr} {xs : List V} (hl : H l = some (.lst xs)) (ha : EvV ta σ H (.ref l)) (h : EvD te σ H d) (hz : xs.length < 100000) (k : ∀ v H1, Same H H1 → Im H1 v d → H1 l = some (.lst xs) → D.nx σ (upd H1 l (.lst (xs ++ [v])))) :
    tDrop (tBM K "list" rAppend ta (tCons te tNil)) D σ H := ha H (Same.refl H) _ fun H1 e1 =>
  ⟨Or.inl ⟨rfl, xs, SqL.of (e1 l _ hl)⟩, h H1 e1 _ fun v H2 e2 i2 => ⟨l, xs, v, rfl, rfl, e2 l _ (e1 l _ hl), Nat.lt_of_lt_of_le hz (by decide), k v H2 (e1.trans e2) i2 (e2 l _ (e1 l _ hl))⟩⟩
end
end Bk

namespace Bk
open PySem PySem.Spec PyProof.Rows L2

/-! ### what is walked -/
/-- an iterator that gives the values vs as long as what stood stands -/
def Gives (J : It) (H : Hp) (vs : List V) : Prop := ∀ H3, Same H H3 → (∀ i, i < vs.length → J.go i H3) ∧ (∀ i x H', J.yld i H3 x H' → H' = H3 ∧ (i < vs.length → vs[i]? = some x)) ∧ J.stop vs.length H3
def EvI (wi : TI) (σ : L2.St) (H : Hp) (ds : List PyData) : Prop := ∀ H1, Same H H1 → ∀ R : It → Hp → Prop, (∀ J H2 vs, Same H1 H2 → ImAll H2 vs ds → Gives J H2 vs → R J H2) → wi σ H1 R
theorem gives_list {K : PySem.W.Frag} {H : Hp} {a : Addr} {xs : List V} (h : SqL K H a xs) (inj : ∀ H3 ys, Same H H3 → SqL K H3 a ys → True) : Gives (Itl K a) H xs := fun H3 s =>
  ⟨fun i hi => ⟨xs, xs[i], s.seq h, List.getElem?_eq_getElem hi⟩, fun i x H' y => ⟨y.1, fun _ => y.2 xs (s.seq h)⟩, ⟨xs, s.seq h, Nat.le_refl _⟩⟩
theorem same_seqT {K : PySem.W.Frag} {H H' : Hp} {a : Addr} {xs : List V} (e : Same H H') (h : SqT K H a xs) : SqT K H' a xs := by
  rcases h with (h | ⟨o, h⟩) | h
  · exact .inl (.inl (e _ _ h))
  · exact .inl (.inr ⟨o, e _ _ h⟩)
  · exact .inr h
theorem gives_tup {K : PySem.W.Frag} {H : Hp} {a : Addr} {xs : List V} (h : SqT K H a xs) : Gives (Itt K a) H xs := fun H3 s =>
  ⟨fun i hi => ⟨xs, xs[i], same_seqT s h, List.getElem?_eq_getElem hi⟩, fun i x H' y => ⟨y.1, fun _ => y.2 xs (same_seqT s h)⟩, ⟨xs, same_seqT s h, Nat.le_refl _⟩⟩
def rgV (lo : Int) (n : Nat) : List V := (List.range n).map fun i => V.int (lo + ((i : Nat) : Int))
def rgD (lo : Int) (n : Nat) : List PyData := (List.range n).map fun i => .int (lo + ((i : Nat) : Int))
theorem gives_range {H : Hp} {lo : Int} {n : Nat} : Gives (Itr lo n) H (rgV lo n) := fun H3 s => by
  have e : (rgV lo n).length = n := by unfold rgV; rw [List.length_map, List.length_range]
  refine ⟨fun i hi => by rw [e] at hi; exact hi, fun i x H' y => ⟨y.1, fun hi => ?_⟩, by rw [e]; exact Nat.le_refl n⟩
  rw [e] at hi
  have y2 : x = .int (lo + i) := y.2
  unfold rgV
  rw [List.getElem?_map, List.getElem?_range hi, y2]
  rfl
theorem imAll_map {H : Hp} {α : Type} {f : α → V} {g : α → PyData} (h : ∀ a, Im H (f a) (g a)) : ∀ l : List α, ImAll H (l.map f) (l.map g)
  | [] => .nil
  | a :: r => .cons (h a) (imAll_map h r)
theorem imAll_rg {H : Hp} {lo : Int} {n : Nat} : ImAll H (rgV lo n) (rgD lo n) := imAll_map (fun i => .int _) _

section
variable {K : PySem.W.Frag} {σ : L2.St} {H H' : Hp} {ta tb te tx : TE} {t u : TT} {x y z v : V} {d d' : PyData}
theorem evi_range1 {n : Int} (h : EvD te σ H (.int n)) (h1 : -(2 ^ 62) ≤ n) (h2 : n < 2 ^ 62) : EvI (iRng1 (tCons te tNil)) σ H (rgD 0 n.toNat) := fun H1 s R q =>
  h H1 s _ fun v H2 s2 i2 => ⟨n, by rw [i2.intv], h1, h2, q _ H2 _ s2 imAll_rg gives_range⟩
theorem evi_rangeN {n : Nat} (h : EvD te σ H (.int ((n : Nat) : Int))) (h1 : n ≤ 1000000) : EvI (iRng1 (tCons te tNil)) σ H (rgD 0 n) := evi_range1 h (by omega) (by omega)
theorem evi_range2 {m n : Int} (ha : EvD ta σ H (.int m)) (hb : EvD tb σ H (.int n)) (h1 : -(2 ^ 62) ≤ m ∧ m < 2 ^ 62 ∧ -(2 ^ 62) ≤ n ∧ n < 2 ^ 62) : EvI (iRng2 (tCons ta (tCons tb tNil))) σ H (rgD m (n - m).toNat) := fun H1 s R q =>
  ha H1 s _ fun v H2 s2 i2 => hb H2 (s.trans s2) _ fun w H3 s3 i3 => ⟨m, n, by rw [i2.intv, i3.intv], h1, q _ H3 _ (s2.trans s3) imAll_rg gives_range⟩
theorem evi_tup {ds : List PyData} (h : EvD te σ H (.tuple ds)) : EvI (iTup K te) σ H ds := fun H1 s R q =>
  h H1 s _ fun v H2 s2 i2 => by
    obtain ⟨a, xs, rfl, e, im⟩ := i2.tupv
    exact ⟨a, rfl, ⟨xs, SqT.of e⟩, q _ H2 xs s2 im (gives_tup (SqT.of e))⟩
theorem evi_list {a : Addr} {xs : List V} {ds : List PyData} (h : EvV te σ H (.ref a)) (hl : SqL K H a xs) (him : ImAll H xs ds) : EvI (iList K te) σ H ds := fun H1 s R q =>
  h H1 s _ fun H2 s2 => ⟨a, rfl, ⟨xs, (s.trans s2).seq hl⟩, q _ H2 xs s2 (him.sm (s.trans s2)) (gives_list ((s.trans s2).seq hl) fun _ _ _ _ => trivial)⟩
theorem evi_new {ds : List PyData} (h : EvN te σ H ds) : EvI (iList K te) σ H ds := fun H1 s R q =>
  h H1 s _ fun p xs H2 s2 _ e im => ⟨p, rfl, ⟨xs, SqL.of e⟩, q _ H2 xs s2 im (gives_list (SqL.of e) fun _ _ _ _ => trivial)⟩

theorem wipe1 (σ : L2.St) (k : Nat) (v : Option V) : (wipe σ [k]).set k v = σ.set k v := by
  show (σ.set k none).set k v = σ.set k v
  rw [List.set_set]
theorem wipe1' (σ : L2.St) (k : Nat) (v : Option V) : wipe (σ.set k v) [k] = wipe σ [k] := by
  show (σ.set k v).set k none = σ.set k none
  rw [List.set_set]
theorem take_next {α : Type} {l : List α} {i : Nat} {x : α} (h : l[i]? = some x) : l.take (i + 1) = l.take i ++ [x] := by
  rw [List.take_add_one, h]
  rfl
/-- what is walked, its items of any form -/
def EvIR {β : Type} (R : Hp → V → β → Prop) (wi : TI) (σ : L2.St) (H : Hp) (bs : List β) : Prop := ∀ H1, Same H H1 → ∀ k : It → Hp → Prop,
  (∀ J H2 (vs : List V), Same H1 H2 → vs.length = bs.length → (∀ (i : Nat) v b, vs[i]? = some v → bs[i]? = some b → R H2 v b) → Gives J H2 vs → k J H2) → wi σ H1 k
theorem EvI.r {wi : TI} {ds : List PyData} (h : EvI wi σ H ds) : EvIR Im wi σ H ds := fun H1 s k q =>
  h H1 s k fun J H2 vs s2 im gv => q J H2 vs s2 im.len (fun i v b h1 h2 => by
    obtain ⟨d, hd, imd⟩ := im.getv h1
    rw [h2] at hd
    cases hd
    exact imd) gv
/-- [elt for x in .. if ..], the elements of any form: P D: what is known of a list's items, D being that list -/
theorem ev_lc {β : Type} {R : Hp → V → β → Prop} (hR : ∀ H H' v b, Same H H' → R H v b → R H' v b) {wi : TI} {k : Nat} {tt : TT} {ds : List β} {α : Type} (hi : EvIR R wi σ H ds) (p : β → Bool) (f : β → α) (P : Addr → Hp → List V → List α → Prop)
    (hP0 : ∀ D H1, P D H1 [] []) (hPs : ∀ D H1 H2 vs as, P D H1 vs as → Same H1 H2 → P D H2 vs as)
    (hPD : ∀ D H1 acc zs vs as, H1 D = some (.lst acc) → P D H1 vs as → P D (upd H1 D (.lst zs)) vs as)
    (ht : ∀ (d : β) v H', d ∈ ds → Same H H' → R H' v d → EvT tt (σ.set k (some v)) H' (p d))
    (he : ∀ (d : β) v H', d ∈ ds → p d = true → Same H H' → R H' v d → ∀ Q : VK, (∀ w H2, Same H' H2 → (∀ D o vs as, H' D = some o → P D H' vs as → P D H2 (vs ++ [w]) (as ++ [f d])) → Q w H2) → te (σ.set k (some v)) H' Q)
    (hl : ds.length ≤ 100000) :
    ∀ H1, Same H H1 → ∀ Q : VK, (∀ q xs H2, Same H1 H2 → H1 q = none → H2 q = some (.lst xs) → P q H2 xs ((ds.filter p).map f) → Q (.ref q) H2) → tLc wi (gName k) tt te [k] σ H1 Q := fun H1 s1 Q q => by
  refine hi H1 s1 _ fun J H2 vs s2 hlen im gv => ?_
  intro D hD
  refine ⟨fun i m H3 => m = vs.length - i ∧ i ≤ vs.length ∧ Same H2 H3 ∧ ∃ acc, H3 D = some (.lst acc) ∧ acc.length ≤ i ∧ P D H3 acc (((ds.take i).filter p).map f), ⟨vs.length, ?_⟩, ?_⟩
  · exact ⟨rfl, Nat.zero_le _, same_upd hD, [], upd_same, Nat.zero_le _, hP0 _ _⟩
  · rintro i m H3 ⟨rfl, hle, s3, acc, eD, hacc, pv⟩
    obtain ⟨g1, g2, g3⟩ := gv H3 s3
    by_cases hlt : i < vs.length
    · refine .inr ⟨g1 i hlt, fun H4 => Same H2 H4 ∧ ∃ acc, H4 D = some (.lst acc) ∧ acc.length ≤ i + 1 ∧ P D H4 acc (((ds.take (i + 1)).filter p).map f), fun H4 h4 => ⟨vs.length - (i + 1), by omega, rfl, hlt, h4⟩, fun x H' hy => ?_⟩
      obtain ⟨rfl, hx⟩ := g2 i x H' hy
      have hd : ds[i]? = some (ds[i]'(by omega)) := List.getElem?_eq_getElem (by omega)
      generalize (ds[i]'(by omega)) = d at hd
      have imd := im i x d (hx hlt) hd
      have hmem : d ∈ ds := List.mem_of_getElem? hd
      show gName k x (wipe σ [k]) H' _
      unfold gName
      rw [wipe1]
      refine ⟨wipe1' σ k _, ?_⟩
      have sH : Same H H' := (s1.trans s2).trans s3
      have imd' : R H' x d := hR _ _ _ _ s3 imd
      refine ht d x H' hmem sH imd' H' (Same.refl _) _ fun H4 s4 => ?_
      have e1 : ds.take (i + 1) = ds.take i ++ [d] := take_next hd
      cases hp : p d with
      | false =>
        show Same H2 H4 ∧ _
        refine ⟨s3.trans s4, acc, s4 _ _ eD, by omega, ?_⟩
        rw [e1, List.filter_append, List.filter_cons_of_neg (by rw [hp]; exact Bool.false_ne_true), List.filter_nil, List.append_nil]
        exact hPs _ _ _ _ _ pv s4
      | true =>
        show te (σ.set k (some x)) H4 _
        refine he d x H4 hmem hp (sH.trans s4) (hR _ _ _ _ s4 imd') _ fun w H5 s5 grow => ?_
        have eD5 : H5 D = some (.lst acc) := s5 _ _ (s4 _ _ eD)
        refine ⟨acc, eD5, Nat.lt_of_le_of_lt (Nat.le_trans hacc (by omega : i ≤ 100000)) (by decide), same_mut ((s3.trans s4).trans s5) hD, acc ++ [w], upd_same, by rw [List.length_append]; simpa using hacc, ?_⟩
        rw [e1, List.filter_append, List.filter_cons_of_pos hp, List.filter_nil, List.map_append]
        exact hPD _ _ _ _ _ _ eD5 (grow _ _ _ _ (s4 _ _ eD) (hPs _ _ _ _ _ pv s4))
    · have e : i = vs.length := by omega
      subst e
      refine .inl ⟨g3, q D acc H3 (s2.trans s3) (s2.free hD) eD ?_⟩
      rw [hlen, List.take_length] at pv
      exact pv
/-- the elements are data, the items of any form -/
theorem evn_lcG {β : Type} {R : Hp → V → β → Prop} (hR : ∀ H H' v b, Same H H' → R H v b → R H' v b) {wi : TI} {k : Nat} {tt : TT} {ds : List β} (hi : EvIR R wi σ H ds) (p : β → Bool) (f : β → PyData)
    (ht : ∀ (d : β) v H', d ∈ ds → Same H H' → R H' v d → EvT tt (σ.set k (some v)) H' (p d))
    (he : ∀ (d : β) v H', d ∈ ds → p d = true → Same H H' → R H' v d → EvD te (σ.set k (some v)) H' (f d)) (hl : ds.length ≤ 100000) : EvN (tLc wi (gName k) tt te [k]) σ H ((ds.filter p).map f) :=
  ev_lc (te := te) (k := k) hR hi p f (fun _ H vs as => ImAll H vs as) (fun _ _ => .nil) (fun _ _ _ _ _ a s => a.sm s) (fun D H1 acc zs vs as e a => a.tk (tk_lst e)) ht
    (fun d v H' hm hp s im Q q => he d v H' hm hp s im H' (Same.refl _) Q fun w H2 s2 i2 => q w H2 s2 fun D o vs as _ a => (a.sm s2).app (.cons i2 .nil)) hl
theorem im_sm : ∀ (H H' : Hp) v d, Same H H' → Im H v d → Im H' v d := fun _ _ _ _ s i => i.sm s
/-- the elements are data -/
theorem evn_lcIf {wi : TI} {k : Nat} {tt : TT} {ds : List PyData} (hi : EvI wi σ H ds) (p : PyData → Bool) (f : PyData → PyData)
    (ht : ∀ (d : PyData) v H', d ∈ ds → Same H H' → Im H' v d → EvT tt (σ.set k (some v)) H' (p d))
    (he : ∀ (d : PyData) v H', d ∈ ds → p d = true → Same H H' → Im H' v d → EvD te (σ.set k (some v)) H' (f d)) (hl : ds.length ≤ 100000) : EvN (tLc wi (gName k) tt te [k]) σ H ((ds.filter p).map f) := evn_lcG im_sm hi.r p f ht he hl
theorem evt_yes : EvT tYes σ H true := fun H1 _ _ q => q H1 (Same.refl _)
theorem evn_lc {wi : TI} {k : Nat} {ds : List PyData} (hi : EvI wi σ H ds) (f : PyData → PyData)
    (he : ∀ (d : PyData) v H', d ∈ ds → Same H H' → Im H' v d → EvD te (σ.set k (some v)) H' (f d)) (hl : ds.length ≤ 100000) : EvN (tLc wi (gName k) tYes te [k]) σ H (ds.map f) := by
  have h := evn_lcIf (te := te) (k := k) (tt := tYes) hi (fun _ => true) f (fun _ _ _ _ _ _ => evt_yes) (fun d v H' hm _ s im => he d v H' hm s im) hl
  have e : ds.filter (fun _ => true) = ds := List.filter_eq_self.mpr fun _ _ => rfl
  rw [e] at h
  exact h
/-- over a range -/
theorem evn_lcR {wi : TI} {k : Nat} {lo : Int} {n : Nat} (hi : EvI wi σ H (rgD lo n)) (f : Nat → PyData)
    (he : ∀ (i : Nat) H', i < n → Same H H' → EvD te (σ.set k (some (.int (lo + (i : Nat))))) H' (f i)) (hl : n ≤ 100000) : EvN (tLc wi (gName k) tYes te [k]) σ H ((List.range n).map f) := by
  have h := evn_lc (te := te) (k := k) hi (fun d => match d with | .int z => f (z - lo).toNat | _ => .none) (fun d v H' hm s im => by
    unfold rgD at hm
    obtain ⟨i, hi', rfl⟩ := List.mem_map.mp hm
    have hn : i < n := List.mem_range.mp hi'
    rw [im.intv]
    have e : (lo + (i : Int) - lo).toNat = i := by omega
    show EvD te _ H' (f (lo + (i : Int) - lo).toNat)
    rw [e]
    exact he i H' hn s) (by unfold rgD; rw [List.length_map, List.length_range]; exact hl)
  have e : (rgD lo n).map (fun d => match d with | PyData.int z => f (z - lo).toNat | _ => .none) = (List.range n).map f := by
    unfold rgD
    rw [List.map_map]
    refine List.map_congr_left fun i _ => ?_
    show f (lo + (i : Int) - lo).toNat = f i
    congr 1
    omega
  rw [e] at h
  exact h

theorem evn_lcN {wi : TI} {k : Nat} {n : Nat} (hi : EvI wi σ H (rgD 0 n)) (f : Nat → PyData)
    (he : ∀ (i : Nat) H', i < n → Same H H' → EvD te (σ.set k (some (.int ((i : Nat) : Int)))) H' (f i)) (hl : n ≤ 100000) : EvN (tLc wi (gName k) tYes te [k]) σ H ((List.range n).map f) :=
  evn_lcR (lo := 0) hi f (fun i H' h s => by
    rw [Int.zero_add]
    exact he i H' h s) hl

/-! ### a list of lists, its rows its own -/
structure LL (H0 H : Hp) (l : Addr) (as : List Addr) (rs : List (List PyData)) : Prop where
  top : H l = some (.lst (as.map V.ref))
  nl : l ∉ as
  nd : as.Nodup
  new : H0 l = none ∧ ∀ a, a ∈ as → H0 a = none
  len : as.length = rs.length
  row : ∀ (i : Nat) a r, as[i]? = some a → rs[i]? = some r → ∃ xs, H a = some (.lst xs) ∧ ImAll H xs r
theorem LL.weak {H0 H0' : Hp} {l : Addr} {as : List Addr} {rs : List (List PyData)} (h : LL H0 H l as rs) (s : Same H0' H0) : LL H0' H l as rs :=
  ⟨h.top, h.nl, h.nd, ⟨s.free h.new.1, fun a m => s.free (h.new.2 a m)⟩, h.len, h.row⟩
theorem LL.sm {H0 : Hp} {l : Addr} {as : List Addr} {rs : List (List PyData)} (h : LL H0 H l as rs) (s : Same H H') : LL H0 H' l as rs :=
  ⟨s _ _ h.top, h.nl, h.nd, h.new, h.len, fun i a r e1 e2 => let ⟨xs, e, im⟩ := h.row i a r e1 e2; ⟨xs, s _ _ e, im.sm s⟩⟩
theorem nodup_idx {α : Type} {l : List α} (hN : l.Nodup) {i j : Nat} {x : α} (a : l[i]? = some x) (b : l[j]? = some x) : i = j := by
  obtain ⟨h1, e1⟩ := List.getElem?_eq_some_iff.mp a
  obtain ⟨h2, e2⟩ := List.getElem?_eq_some_iff.mp b
  exact (List.getElem_inj hN).mp (e1.trans e2.symm)
/-- a place of a row is stored -/
theorem LL.put {H0 : Hp} {l : Addr} {as : List Addr} {rs : List (List PyData)} (h : LL H0 H l as rs) {i : Nat} {a : Addr} {r r' : List PyData} {xs xs' : List V} (ea : as[i]? = some a) (er : rs[i]? = some r) (ex : H a = some (.lst xs)) (im : ImAll H xs' r') :
    LL H0 (upd H a (.lst xs')) l as (rs.set i r') := by
  have hm : a ∈ as := List.mem_of_getElem? ea
  have tk : Tk H (upd H a (.lst xs')) := tk_lst ex
  refine ⟨?_, h.nl, h.nd, h.new, by rw [List.length_set]; exact h.len, fun j b s e1 e2 => ?_⟩
  · rw [upd_ne (fun z => h.nl (by rw [z]; exact hm))]
    exact h.top
  · by_cases hj : i = j
    · subst hj
      rw [ea] at e1
      cases e1
      have hi : i < rs.length := (List.getElem?_eq_some_iff.mp er).1
      rw [List.getElem?_set_self hi] at e2
      cases e2
      exact ⟨xs', upd_same, im.tk tk⟩
    · rw [List.getElem?_set_ne hj] at e2
      have ne : b ≠ a := fun z => hj (nodup_idx h.nd ea (z ▸ e1))
      obtain ⟨ys, e, im2⟩ := h.row j b s e1 e2
      exact ⟨ys, by rw [upd_ne ne]; exact e, im2.tk tk⟩
def EvLL (te : TE) (σ : L2.St) (H : Hp) (rs : List (List PyData)) : Prop := ∀ H1, Same H H1 → ∀ Q : VK, (∀ l as H2, Same H1 H2 → LL H1 H2 l as rs → Q (.ref l) H2) → te σ H1 Q
/-- what is known of the rows while the list grows -/
def RowsAre (H0 : Hp) (D : Addr) (H : Hp) (vs : List V) (rs : List (List PyData)) : Prop :=
  ∃ as : List Addr, vs = as.map V.ref ∧ as.Nodup ∧ D ∉ as ∧ (∀ a, a ∈ as → H0 a = none ∧ H a ≠ none) ∧ as.length = rs.length ∧ ∀ (i : Nat) a r, as[i]? = some a → rs[i]? = some r → ∃ xs, H a = some (.lst xs) ∧ ImAll H xs r
theorem evLL_lcG {β : Type} {R : Hp → V → β → Prop} (hR : ∀ H H' v b, Same H H' → R H v b → R H' v b) {wi : TI} {k : Nat} {ds : List β} (hi : EvIR R wi σ H ds) (f : β → List PyData)
    (he : ∀ (d : β) v H', d ∈ ds → Same H H' → R H' v d → EvN te (σ.set k (some v)) H' (f d)) (hl : ds.length ≤ 100000) : EvLL (tLc wi (gName k) tYes te [k]) σ H (ds.map f) := fun H1 s1 Q q => by
  refine ev_lc (te := te) (tt := tYes) (k := k) (H := H1) (σ := σ) hR (fun H2 s2 => hi H2 (s1.trans s2)) (fun _ => true) f (RowsAre H1) (fun D H1 => ⟨[], rfl, List.nodup_nil, by simp, fun a m => by simp at m, rfl, fun i a r e => by simp at e⟩) ?_ ?_ (fun _ _ _ _ _ _ => evt_yes) ?_ hl H1 (Same.refl _) Q ?_
  · rintro D Ha Hb vs rs ⟨as, e, nd, nD, new, ln, row⟩ s
    refine ⟨as, e, nd, nD, fun a m => ⟨(new a m).1, fun z => (new a m).2 (s.free z)⟩, ln, fun i a r e1 e2 => ?_⟩
    obtain ⟨xs, h1, h2⟩ := row i a r e1 e2
    exact ⟨xs, s _ _ h1, h2.sm s⟩
  · rintro D Ha acc zs vs rs eD ⟨as, e, nd, nD, new, ln, row⟩
    have ne : ∀ a, a ∈ as → a ≠ D := fun a m z => nD (z ▸ m)
    refine ⟨as, e, nd, nD, fun a m => ⟨(new a m).1, ?_⟩, ln, fun i a r e1 e2 => ?_⟩
    · rw [upd_ne (ne a m)]
      exact (new a m).2
    · obtain ⟨xs, h1, h2⟩ := row i a r e1 e2
      exact ⟨xs, by rw [upd_ne (ne a (List.mem_of_getElem? e1))]; exact h1, h2.tk (tk_lst eD)⟩
  · intro d v H' hm _ s im Q' q'
    refine he d v H' hm (s1.trans s) im H' (Same.refl _) Q' fun p xs H2 s2 hp e2 im2 => q' _ H2 s2 ?_
    rintro D o vs rs eD ⟨as, e, nd, nD, new, ln, row⟩
    have pD : p ≠ D := fun z => by
      rw [z, eD] at hp
      cases hp
    have np : p ∉ as := fun m => (new p m).2 hp
    have sH : Same H1 H2 := s.trans s2
    subst e
    refine ⟨as ++ [p], by rw [List.map_append]; rfl, ?_, ?_, ?_, ?_, ?_⟩
    · refine List.nodup_append.mpr ⟨nd, by simp, fun a ha b hb => ?_⟩
      have e : b = p := by simpa using hb
      subst e
      exact fun z => np (z ▸ ha)
    · rw [List.mem_append]
      rintro (m | m)
      · exact nD m
      · exact pD (List.mem_singleton.mp m).symm
    · intro a m
      rcases List.mem_append.mp m with m | m
      · exact ⟨(new a m).1, fun z => (new a m).2 (s2.free z)⟩
      · have e : a = p := by simpa using m
        subst e
        exact ⟨s.free hp, by rw [e2]; exact fun z => nomatch z⟩
    · rw [List.length_append, List.length_append, ln]
      rfl
    · intro i a r e1 e3
      by_cases hi : i < as.length
      · rw [List.getElem?_append_left hi] at e1
        rw [List.getElem?_append_left (by omega)] at e3
        obtain ⟨xs, h1, h2⟩ := row i a r e1 e3
        exact ⟨xs, s2 _ _ h1, h2.sm s2⟩
      · rw [List.getElem?_append_right (by omega)] at e1
        rw [List.getElem?_append_right (by omega)] at e3
        have i0 : i - as.length = 0 := by
          have z := (List.getElem?_eq_some_iff.mp e1).1
          simp at z
          omega
        rw [i0] at e1
        rw [← ln, i0] at e3
        cases e1
        cases e3
        exact ⟨xs, e2, im2⟩
  · intro l xs H2 s2 hl2 e2 ⟨as, e, nd, nD, new, ln, row⟩
    have ef : ds.filter (fun _ => true) = ds := List.filter_eq_self.mpr fun _ _ => rfl
    rw [ef] at ln row
    subst e
    exact q l as H2 s2 ⟨e2, nD, nd, ⟨hl2, fun a m => (new a m).1⟩, ln, row⟩
theorem evLL_lc {wi : TI} {k : Nat} {ds : List PyData} (hi : EvI wi σ H ds) (f : PyData → List PyData)
    (he : ∀ (d : PyData) v H', d ∈ ds → Same H H' → Im H' v d → EvN te (σ.set k (some v)) H' (f d)) (hl : ds.length ≤ 100000) : EvLL (tLc wi (gName k) tYes te [k]) σ H (ds.map f) := evLL_lcG im_sm hi.r f he hl
/-- walked: a list of lists -/
def RowIs (H : Hp) (v : V) (r : List PyData) : Prop := ∃ a xs, v = .ref a ∧ H a = some (.lst xs) ∧ ImAll H xs r
theorem rowIs_sm : ∀ (H H' : Hp) v r, Same H H' → RowIs H v r → RowIs H' v r := fun _ _ _ _ s ⟨a, xs, e, h, im⟩ => ⟨a, xs, e, s _ _ h, im.sm s⟩
theorem evir_LL {H0 : Hp} {l : Addr} {as : List Addr} {rs : List (List PyData)} (h : EvV te σ H (.ref l)) (hl : LL H0 H l as rs) : EvIR RowIs (iList K te) σ H rs := fun H1 s k q =>
  h H1 s _ fun H2 s2 => by
    have h2 := hl.sm (s.trans s2)
    refine ⟨l, rfl, ⟨_, SqL.of h2.top⟩, q _ H2 (as.map V.ref) s2 (by rw [List.length_map]; exact h2.len) (fun i v b h3 h4 => ?_) (gives_list (SqL.of h2.top) fun _ _ _ _ => trivial)⟩
    rw [List.getElem?_map] at h3
    cases ea : as[i]? with
    | none => rw [ea] at h3; cases h3
    | some a =>
      rw [ea] at h3
      obtain ⟨xs, e, im⟩ := h2.row i a b ea h4
      exact ⟨a, xs, (Option.some.inj h3).symm, e, im⟩
/-- [tuple(row) for row in rows] and its like -/
theorem evn_lcLL {H0 : Hp} {l : Addr} {as : List Addr} {rs : List (List PyData)} {k : Nat} (h : EvV tx σ H (.ref l)) (hl : LL H0 H l as rs) (f : List PyData → PyData)
    (he : ∀ r a xs H', r ∈ rs → Same H H' → H' a = some (.lst xs) → ImAll H' xs r → EvD te (σ.set k (some (.ref a))) H' (f r)) (hz : rs.length ≤ 100000) : EvN (tLc (iList K tx) (gName k) tYes te [k]) σ H (rs.map f) := by
  have h := evn_lcG (te := te) (k := k) (tt := tYes) rowIs_sm (evir_LL (K := K) h hl) (fun _ => true) f (fun _ _ _ _ _ _ => evt_yes) (fun r v H' hm _ s ⟨a, xs, e, h1, im⟩ => by
    rw [e]
    exact he r a xs H' hm s h1 im) hz
  have e : rs.filter (fun _ => true) = rs := List.filter_eq_self.mpr fun _ _ => rfl
  rw [e] at h
  exact h
/-- a row of a list of lists -/
theorem evv_ixLL {H0 : Hp} {l : Addr} {as : List Addr} {rs : List (List PyData)} {i : Int} {a : Addr} {j : Nat} (ha : EvV ta σ H (.ref l)) (hb : EvD tb σ H (.int i)) (hl : LL H0 H l as rs) (hi : i = (j : Nat)) (hj : as[j]? = some a) : EvV (tOp (rIx K) ta tb) σ H (.ref a) := fun H1 s Q q =>
  ha H1 s _ fun H2 s2 => hb H2 (s.trans s2) _ fun y H3 s3 i3 => by
    have s' := (s.trans s2).trans s3
    refine .inl ⟨l, _, i, .ref a, rfl, i3.intv, SqL.of (s' _ _ hl.top), at_of hi (by rw [List.getElem?_map, hj]; rfl), q H3 (s2.trans s3)⟩
theorem s_asgLL {D : Ends} {i : Nat} {rs : List (List PyData)} (h : EvLL te σ H rs) (k : ∀ l as H1, Same H H1 → LL H H1 l as rs → D.nx (σ.set i (some (.ref l))) H1) : tAsg te (gName i) D σ H := h H (Same.refl H) _ k
/-- xs[i] = e -/
theorem s_setL {D : Ends} {to ti : TE} {a : Addr} {xs : List V} {i : Int} {j : Nat} (he : EvD te σ H d) (ho : EvV to σ H (.ref a)) (hi : EvD ti σ H (.int i)) (hl : H a = some (.lst xs)) (e : i = (j : Nat)) (hj : j < xs.length)
    (k : ∀ v H1, Same H H1 → Im H1 v d → H1 a = some (.lst xs) → D.nx σ (upd H1 a (.lst (xs.set j v)))) : tAsg te (gSub to ti rSetL) D σ H := he H (Same.refl H) _ fun v H1 s1 im =>
  ho H1 s1 _ fun H2 s2 => hi H2 (s1.trans s2) _ fun y H3 s3 i3 => by
    have s' := (s1.trans s2).trans s3
    refine ⟨a, xs, i, j, rfl, i3.intv, s' _ _ hl, ?_, k v H3 s' (im.sm (s2.trans s3)) (s' _ _ hl)⟩
    unfold ixN
    rw [e, if_pos (by omega), if_pos (by omega)]
    rfl
end
end Bk

namespace Bk
open PySem PySem.Spec PyProof.Rows L2

/-! ### defs -/
/-- a def of the text, under its name -/
structure Dtx (K : PySem.W.Frag) (mg : Str → Option Value) (x : Str) (st : Stmt) (ps : List Str) : Prop where
  ex : ∃ f fd, Fun K x x st f fd ∧ mg x = some (.ref f) ∧ Binds K fd ps []
/-- a def that keeps its promise, under its name -/
structure DfOk (P : Program) (w : World) (K : PySem.W.Frag) (mg : Str → Option Value) (base : Heap) (CX : CXT) (k : Nat) (x : Str) (ps : List Str) (sp : Sp) : Prop where
  ex : ∃ f fd, FnOk P w K mg base CX k f fd ps sp ∧ mg x = some (.ref f) ∧ PySem.W.keepIn K (.ref f) = true ∧ Binds K fd ps []
section
variable {P : Program} {w : World} {K : PySem.W.Frag} {mg : Str → Option Value} {base : Heap}
theorem dok {x : Str} {st : Stmt} {N ps : List Str} {k : Nat} {sp : Sp} (D : Dtx K mg x st ps) (S : FnScope N ps (defScope st)) (len : ∀ vs H Q E, sp vs H Q E → vs.length = ps.length)
    (hbody : ∀ (f : Addr) (cdv : Value) (A : Around) (outer : List Env) (s : Shared) (H : Hp) (vs : List V) (Q : VK) (E : XK), Room k (A.deeper (envOfC x (defScope st) s.heap.objs.size f cdv)) → sp vs H Q E →
      ∃ t, PSs (cxOf CX0 P w K mg base N x (defScope st) f cdv A outer s H E).nox (defBody st) t ∧ t { nx := fun _ H' => Q .non H', rt := Q } (start N vs) H) : DfOk P w K mg base CX0 (k + 1) x ps sp := by
  obtain ⟨f, fd, F, hm, hb⟩ := D.ex
  exact ⟨f, fd, F.ok S len fun cdv A outer s H vs Q E hr h => hbody f cdv A outer s H vs Q E hr h, hm, F.kp, hb⟩
end
section
variable {X : Cx} {k : Nat} {x : Str} {ps : List Str} {sp : Sp} {p pos : Pos} {e : Expr} {es : List Expr} {t : TA}
theorem pe_cd (D : DfOk X.prog X.w X.K X.mg X.base CX0 k x ps sp) (hr : Room k X.A) (hg : Gl X x) (ha : PA X (e :: es) t) (hdb : (x == ("__debug__" : Str)) = false := by decide)
    (he : starEach (e :: es) X.env = (false, eval e X.env) :: starEach es X.env := by rfl) (hpl : (backTo pos (starEach es X.env)).any (·.1) = false := by rfl) :
    PE X (.Call (.Name x p) (e :: es) [] pos) (tCall sp [] E0 t) :=
  ⟨fun pins s σ H Q I h => by
    obtain ⟨f, fd, F, hm, hk, hb⟩ := D.ex
    exact (pe_call F hr hg hm hk hb .nil pass0 ha hdb he hpl).run pins s σ H Q I h⟩
end

/-! ### own classes of errors -/
/-- where a name of the module stands -/
def adr (mg : Str → Option Value) (x : Str) : Addr := match mg x with
  | some (.ref a) => a
  | _ => 0
theorem adr_of {mg : Str → Option Value} {x : Str} {a : Addr} (h : mg x = some (.ref a)) : adr mg x = a := by
  unfold adr
  rw [h]
structure Ecl (K : PySem.W.Frag) (mg : Str → Option Value) (n : Str) : Prop where
  g : mg n = some (.ref (adr mg n))
  x : PySem.W.excIn K (adr mg n) [.type "ValueError", .type "Exception", .type "BaseException", .type "object"] "ValueError.__new__" = true
  k : PySem.W.keepIn K (.ref (adr mg n)) = true
  b : PySem.W.subIn K (.ref (adr mg n)) (.type "BaseException") = some true
  t : PySem.W.typeIn K (.ref (adr mg n)) = some (.type "type")
  i : PySem.W.isClsIn K (adr mg n) = true
  v : PySem.W.subIn K (.ref (adr mg n)) (.type "ValueError") = some true
  c : ExcC K (adr mg n)
/-- one class under another -/
def Und (K : PySem.W.Frag) (mg : Str → Option Value) (x y : Str) (c : Bool) : Prop := PySem.W.subIn K (.ref (adr mg x)) (.ref (adr mg y)) = some c
theorem ecl_mk {K : PySem.W.Frag} {h : Heap} {mg : Str → Option Value} {x : Str} {C : Addr} (X : K.In h) (G : h.Ns mainGlobals mg) (a : PySem.W.nsIn K mainGlobals x = some (some (.ref C)))
    (hx : PySem.W.excIn K C [.type "ValueError", .type "Exception", .type "BaseException", .type "object"] "ValueError.__new__" = true) (hk : PySem.W.keepIn K (.ref C) = true) (hb : PySem.W.subIn K (.ref C) (.type "BaseException") = some true) (ht : PySem.W.typeIn K (.ref C) = some (.type "type")) (hi : PySem.W.isClsIn K C = true) (hv : PySem.W.subIn K (.ref C) (.type "ValueError") = some true) (hc : ExcC K C) : Ecl K mg x := by
  have g := PySem.W.mg_of X G a
  have e := adr_of g
  subst e
  exact ⟨g, hx, hk, hb, ht, hi, hv, hc⟩
theorem und_mk {K : PySem.W.Frag} {h : Heap} {mg : Str → Option Value} {x y : Str} {C D : Addr} {c : Bool} (X : K.In h) (G : h.Ns mainGlobals mg) (a : PySem.W.nsIn K mainGlobals x = some (some (.ref C))) (b : PySem.W.nsIn K mainGlobals y = some (some (.ref D))) (s : PySem.W.subIn K (.ref C) (.ref D) = some c) : Und K mg x y c := by
  have e1 := adr_of (PySem.W.mg_of X G a)
  have e2 := adr_of (PySem.W.mg_of X G b)
  subst e1
  subst e2
  exact s

/-! ### promises -/
/-- from data data, by a relation -/
def spD (R : List PyData → PyData → Prop) : Sp := fun vs H Q _ => ∃ ds d, R ds d ∧ ImAll H vs ds ∧ ∀ v H', Same H H' → Im H' v d → Q v H'
/-- .. a new list of data -/
def spN (R : List PyData → List PyData → Prop) : Sp := fun vs H Q _ => ∃ ds es, R ds es ∧ ImAll H vs ds ∧ ∀ p xs H', Same H H' → H p = none → H' p = some (.lst xs) → ImAll H' xs es → Q (.ref p) H'
theorem spD_gives {R : List PyData → PyData → Prop} {ds : List PyData} {d : PyData} (h : R ds d) : GivesD (spD R) ds d := fun _ _ _ _ im q => ⟨ds, d, h, im, q⟩
theorem spN_gives {R : List PyData → List PyData → Prop} {ds es : List PyData} (h : R ds es) : GivesN (spN R) ds es := fun _ _ _ _ im q => ⟨ds, es, h, im, q⟩
theorem spD_len {R : List PyData → PyData → Prop} {n : Nat} (h : ∀ ds d, R ds d → ds.length = n) : ∀ vs H Q E, spD R vs H Q E → vs.length = n := fun vs H Q E ⟨ds, d, r, im, _⟩ => im.len.trans (h ds d r)
theorem spN_len {R : List PyData → List PyData → Prop} {n : Nat} (h : ∀ ds d, R ds d → ds.length = n) : ∀ vs H Q E, spN R vs H Q E → vs.length = n := fun vs H Q E ⟨ds, d, r, im, _⟩ => im.len.trans (h ds d r)
theorem imAll1 {H : Hp} {vs : List V} {d : PyData} (h : ImAll H vs [d]) : ∃ v, vs = [v] ∧ Im H v d := by
  cases h with
  | cons a r => cases r; exact ⟨_, rfl, a⟩
theorem imAll2 {H : Hp} {vs : List V} {d d2 : PyData} (h : ImAll H vs [d, d2]) : ∃ v v2, vs = [v, v2] ∧ Im H v d ∧ Im H v2 d2 := by
  cases h with
  | cons a r =>
    obtain ⟨v2, rfl, b⟩ := imAll1 r
    exact ⟨_, _, rfl, a, b⟩
theorem imAll3 {H : Hp} {vs : List V} {d d2 d3 : PyData} (h : ImAll H vs [d, d2, d3]) : ∃ v v2 v3, vs = [v, v2, v3] ∧ Im H v d ∧ Im H v2 d2 ∧ Im H v3 d3 := by
  cases h with
  | cons a r =>
    obtain ⟨v2, v3, rfl, b⟩ := imAll2 r
    exact ⟨_, _, _, rfl, a, b⟩
theorem imAll4 {H : Hp} {vs : List V} {d d2 d3 d4 : PyData} (h : ImAll H vs [d, d2, d3, d4]) : ∃ v v2 v3 v4, vs = [v, v2, v3, v4] ∧ Im H v d ∧ Im H v2 d2 ∧ Im H v3 d3 ∧ Im H v4 d4 := by
  cases h with
  | cons a r =>
    obtain ⟨v2, v3, v4, rfl, b⟩ := imAll3 r
    exact ⟨_, _, _, _, rfl, a, b⟩
theorem imAll5 {H : Hp} {vs : List V} {d d2 d3 d4 d5 : PyData} (h : ImAll H vs [d, d2, d3, d4, d5]) : ∃ v v2 v3 v4 v5, vs = [v, v2, v3, v4, v5] ∧ Im H v d ∧ Im H v2 d2 ∧ Im H v3 d3 ∧ Im H v4 d4 ∧ Im H v5 d5 := by
  cases h with
  | cons a r =>
    obtain ⟨v2, v3, v4, v5, rfl, b⟩ := imAll4 r
    exact ⟨_, _, _, _, _, rfl, a, b⟩
/-- x, y = e, e a pair -/
theorem s_unp2 {K : PySem.W.Frag} {σ : L2.St} {H : Hp} {te : TE} {D : Ends} {i j : Nat} {d1 d2 : PyData} (h : EvD te σ H (.tuple [d1, d2])) (k : ∀ v w H1, Same H H1 → Im H1 v d1 → Im H1 w d2 → D.nx ((σ.set i (some v)).set j (some w)) H1) :
    tAsg te (gTup K 2 (gCons (gName i) (gCons (gName j) gNil))) D σ H := h H (Same.refl H) _ fun v H1 s im => by
  obtain ⟨a, xs, rfl, e, ia⟩ := im.tupv
  obtain ⟨v1, v2, rfl, i1, i2⟩ := imAll2 ia
  exact ⟨a, [v1, v2], rfl, SqT.of e, rfl, v1, [v2], rfl, v2, [], rfl, rfl, k v1 v2 H1 s i1 i2⟩
/-- for over a range, a word of one's own -/
theorem s_forR {σ : L2.St} {H : Hp} {g : TG} {tb : TS} {D : Ends} {te : TE} {n : Int} (h : EvD te σ H (.int n)) (h1 : -(2 ^ 62) ≤ n) (h2 : n < 2 ^ 62) (Pv : Nat → L2.St → Hp → Prop) (h0 : ∀ H1, Same H H1 → Pv 0 σ H1)
    (hs : ∀ i σ H, i < n.toNat → Pv i σ H → g (.int ((i : Nat) : Int)) σ H fun σ2 H2 => tb { D with nx := Pv (i + 1), ct := Pv (i + 1), bk := D.nx } σ2 H2) (hd : ∀ σ H, Pv n.toNat σ H → D.nx σ H) :
    tFor (iRng1 (tCons te tNil)) g tb D σ H := h H (Same.refl H) _ fun v H1 s im => by
  refine ⟨n, by rw [im.intv], h1, h2, for_range Pv (h0 H1 s) (fun i σ2 H2 hi p => ?_) hd⟩
  rw [Int.zero_add]
  exact hs i σ2 H2 hi p
theorem s_forRn {σ : L2.St} {H : Hp} {g : TG} {tb : TS} {D : Ends} {te : TE} {n : Nat} (h : EvD te σ H (.int ((n : Nat) : Int))) (h1 : n ≤ 1000000) (Pv : Nat → L2.St → Hp → Prop) (h0 : ∀ H1, Same H H1 → Pv 0 σ H1)
    (hs : ∀ i σ H, i < n → Pv i σ H → g (.int ((i : Nat) : Int)) σ H fun σ2 H2 => tb { D with nx := Pv (i + 1), ct := Pv (i + 1), bk := D.nx } σ2 H2) (hd : ∀ σ H, Pv n σ H → D.nx σ H) :
    tFor (iRng1 (tCons te tNil)) g tb D σ H := s_forR h (by omega) (by omega) Pv h0 hs hd
/-- for over a tuple -/
theorem s_forT {K : PySem.W.Frag} {σ : L2.St} {H : Hp} {g : TG} {tb : TS} {D : Ends} {te : TE} {ds : List PyData} (h : EvD te σ H (.tuple ds)) (Pv : Hp → Nat → L2.St → Hp → Prop) (h0 : ∀ H1, Same H H1 → Pv H1 0 σ H1) (hk : ∀ H1 i σ2 H2, Pv H1 i σ2 H2 → Tk H1 H2)
    (hs : ∀ H1 i d x σ2 H2, Same H H1 → ds[i]? = some d → Im H2 x d → Pv H1 i σ2 H2 → g x σ2 H2 fun σ3 H3 => tb { D with nx := Pv H1 (i + 1), ct := Pv H1 (i + 1), bk := D.nx } σ3 H3)
    (hd : ∀ H1 σ2 H2, Same H H1 → Pv H1 ds.length σ2 H2 → D.nx σ2 H2) : tFor (iTup K te) g tb D σ H := h H (Same.refl H) _ fun v H1 s im => by
  obtain ⟨a, xs, rfl, e, ia⟩ := im.tupv
  refine ⟨a, rfl, ⟨xs, SqT.of e⟩, for_tup (xs := xs) (Pv H1) (h0 H1 s) (fun i σ2 H2 _ p => SqT.of (hk H1 i σ2 H2 p _ _ e)) (fun i x σ2 H2 hx p => ?_) fun σ2 H2 p => hd H1 σ2 H2 s ?_⟩
  · obtain ⟨d, hd', imx⟩ := ia.getv hx
    exact hs H1 i d x σ2 H2 s hd' (imx.tk (hk H1 i σ2 H2 p)) p
  · rw [← ia.len]
    exact p
/-- for over a list that the body leaves -/
theorem s_forL {K : PySem.W.Frag} {σ : L2.St} {H : Hp} {g : TG} {tb : TS} {D : Ends} {te : TE} {a : Addr} {xs : List V} (h : EvV te σ H (.ref a)) (Pv : Hp → Nat → L2.St → Hp → Prop) (hl : SqL K H a xs) (h0 : ∀ H1, Same H H1 → Pv H1 0 σ H1) (hk : ∀ H1 i σ2 H2, Same H H1 → Pv H1 i σ2 H2 → SqL K H2 a xs)
    (hs : ∀ H1 i x σ2 H2, Same H H1 → xs[i]? = some x → Pv H1 i σ2 H2 → g x σ2 H2 fun σ3 H3 => tb { D with nx := Pv H1 (i + 1), ct := Pv H1 (i + 1), bk := D.nx } σ3 H3)
    (hd : ∀ H1 σ2 H2, Same H H1 → Pv H1 xs.length σ2 H2 → D.nx σ2 H2) : tFor (iList K te) g tb D σ H := h H (Same.refl H) _ fun H1 s =>
  ⟨a, rfl, ⟨xs, s.seq hl⟩, for_list (xs := xs) (Pv H1) (h0 H1 s) (fun i σ2 H2 _ p => hk H1 i σ2 H2 s p) (fun i x σ2 H2 hx p => hs H1 i x σ2 H2 s hx p) fun σ2 H2 p => hd H1 σ2 H2 s p⟩
/-- for over a new list -/
theorem s_forN {K : PySem.W.Frag} {σ : L2.St} {H : Hp} {g : TG} {tb : TS} {D : Ends} {te : TE} {ds : List PyData} (h : EvN te σ H ds) (Pv : Hp → Nat → L2.St → Hp → Prop) (h0 : ∀ H1, Same H H1 → Pv H1 0 σ H1) (hk : ∀ H1 i σ2 H2, Pv H1 i σ2 H2 → Same H1 H2)
    (hs : ∀ H1 i d x σ2 H2, Same H H1 → ds[i]? = some d → Im H2 x d → Pv H1 i σ2 H2 → g x σ2 H2 fun σ3 H3 => tb { D with nx := Pv H1 (i + 1), ct := Pv H1 (i + 1), bk := D.nx } σ3 H3)
    (hd : ∀ H1 σ2 H2, Same H H1 → Pv H1 ds.length σ2 H2 → D.nx σ2 H2) : tFor (iList K te) g tb D σ H := h H (Same.refl H) _ fun p xs H1 s _ e ia => by
  refine ⟨p, rfl, ⟨xs, SqL.of e⟩, for_list (xs := xs) (Pv H1) (h0 H1 s) (fun i σ2 H2 _ p => (hk H1 i σ2 H2 p).seq (SqL.of e)) (fun i x σ2 H2 hx p => ?_) fun σ2 H2 p => hd H1 σ2 H2 s ?_⟩
  · obtain ⟨d, hd', imx⟩ := ia.getv hx
    exact hs H1 i d x σ2 H2 s hd' (imx.sm (hk H1 i σ2 H2 p)) p
  · rw [← ia.len]
    exact p
/-- ways that meet again -/
theorem s_cut {t u : TS} {D : Ends} {σ : L2.St} {H : Hp} (Mid : L2.St → Hp → Prop) (h : t { D with nx := Mid } σ H) (k : ∀ σ' H', Mid σ' H' → u D σ' H') : C8.tCut t u D σ H := ⟨Mid, h, k⟩
/-! ### a list of the def's own, its items data -/
def Ls (H : Hp) (l : Addr) (ds : List PyData) : Prop := ∃ xs, H l = some (.lst xs) ∧ ImAll H xs ds
def But (l : Addr) (H H' : Hp) : Prop := ∀ b o, b ≠ l → H b = some o → H' b = some o
theorem But.upd (H : Hp) (l : Addr) (o : HO) : But l H (upd H l o) := fun b u ne e => by
  rw [upd_ne ne]
  exact e
theorem same_but {H0 H H' : Hp} {l : Addr} (s : Same H0 H) (n : H0 l = none) (b : But l H H') : Same H0 H' := fun a o e => b a o (ne_of_none e n) (s a o e)
theorem Ls.sm {H H' : Hp} {l : Addr} {ds : List PyData} (h : Ls H l ds) (s : Same H H') : Ls H' l ds := let ⟨xs, e, im⟩ := h; ⟨xs, s _ _ e, im.sm s⟩
theorem Ls.but {H H' : Hp} {l m : Addr} {ds : List PyData} (h : Ls H l ds) (ne : l ≠ m) (b : But m H H') (k : Tk H H') : Ls H' l ds := let ⟨xs, e, im⟩ := h; ⟨xs, b _ _ ne e, im.tk k⟩
theorem Ls.ne {H : Hp} {l m : Addr} {ds : List PyData} (h : Ls H l ds) (n : H m = none) : l ≠ m := let ⟨_, e, _⟩ := h; ne_of_none e n
section
variable {K : PySem.W.Frag} {σ : L2.St} {H : Hp} {ta te : TE} {d : PyData} {D : Ends}
theorem s_asgLs {i : Nat} {ds : List PyData} (h : EvN te σ H ds) (k : ∀ p H1, Same H H1 → H p = none → Ls H1 p ds → D.nx (σ.set i (some (.ref p))) H1) : tAsg te (gName i) D σ H := s_asgN h fun p xs H1 s n e im => k p H1 s n ⟨xs, e, im⟩
theorem s_retLs {ds : List PyData} (h : EvN te σ H ds) (k : ∀ p H1, Same H H1 → H p = none → Ls H1 p ds → D.rt (.ref p) H1) : tRet te D σ H := s_retN h fun p xs H1 s n e im => k p H1 s n ⟨xs, e, im⟩
theorem s_appLs {l : Addr} {ds : List PyData} (hl : Ls H l ds) (ha : EvV ta σ H (.ref l)) (h : EvD te σ H d) (hz : ds.length < 100000) (k : ∀ H2, But l H H2 → Tk H H2 → Ls H2 l (ds ++ [d]) → D.nx σ H2) :
    tDrop (tBM K "list" rAppend ta (tCons te tNil)) D σ H := by
  obtain ⟨xs, e, im⟩ := hl
  refine s_app e ha h (by rw [im.len]; exact hz) fun v H1 s iv e1 => k _ (fun b o ne e2 => ?_) (Tk.trans (Same.tk s) (tk_lst e1)) ⟨_, upd_same, ((im.sm s).app (.cons iv .nil)).tk (tk_lst e1)⟩
  rw [upd_ne ne]
  exact s _ _ e2
theorem evd_lenLs {l : Addr} {ds : List PyData} (h : EvV te σ H (.ref l)) (hl : Ls H l ds) : EvD (tCB (rLenQ K) (tCons te tNil)) σ H (.int (ds.length : Int)) := by
  obtain ⟨xs, e, im⟩ := hl
  rw [← im.len]
  exact evd_lenL h (SqL.of e)
theorem evd_tupLs {l : Addr} {ds : List PyData} (h : EvV te σ H (.ref l)) (hl : Ls H l ds) : EvD (tCB (rTupQ K) (tCons te tNil)) σ H (.tuple ds) := by
  obtain ⟨xs, e, im⟩ := hl
  exact evd_tupL h (SqL.of e) im
theorem evd_ixLs {tb : TE} {l : Addr} {ds : List PyData} {i : Int} (ha : EvV ta σ H (.ref l)) (hb : EvD tb σ H (.int i)) (hl : Ls H l ds) (hi : atI ds i = some d) : EvD (tOp (rIx K) ta tb) σ H d := by
  obtain ⟨xs, e, im⟩ := hl
  exact evd_ixL ha hb (SqL.of e) im hi
theorem evi_Ls {l : Addr} {ds : List PyData} (h : EvV te σ H (.ref l)) (hl : Ls H l ds) : EvI (iList K te) σ H ds := by
  obtain ⟨xs, e, im⟩ := hl
  exact evi_list h (SqL.of e) im
end
/-- the type of data -/
def tyN : PyData → Option String
  | .int _ => some "int" | .bool _ => some "bool" | .str _ => some "str" | .tuple _ => some "tuple" | _ => none
section
variable {K : PySem.W.Frag} {σ : L2.St} {H : Hp} {ta te : TE} {d : PyData} {D : Ends}
/-- isinstance(x, T), T a built-in type -/
theorem evd_isi {S U : String} {b : Bool} (h : EvD ta σ H d) (ht : tyN d = some S) (hb : kitB S U = some b) : EvD (tCB (rIsi K) (tCons ta (tCons (tC (.ty U)) tNil))) σ H (.bool b) := fun H1 s Q q =>
  h H1 s _ fun v H2 s2 im => by
    refine ⟨v, .ty U, .type S, .type U, b, rfl, .ty U, ?_, kit_ty hb, q _ H2 s2 (.bl b)⟩
    cases d with
    | int i => cases ht; rw [im.intv]; exact .base (.int i)
    | bool i => cases ht; rw [im.blv]; exact .base (.bl i)
    | str i => cases ht; rw [im.strv]; exact .base (.str i)
    | tuple ds =>
      cases ht
      obtain ⟨a, xs, rfl, e, _⟩ := im.tupv
      exact .base (.tup e)
    | none => cases ht
    | list _ => cases ht
    | dict _ => cases ht
theorem evd_isiL {l : Addr} {xs : List V} {U : String} {b : Bool} (h : EvV ta σ H (.ref l)) (ht : H l = some (.lst xs)) (hb : kitB "list" U = some b) : EvD (tCB (rIsi K) (tCons ta (tCons (tC (.ty U)) tNil))) σ H (.bool b) := fun H1 s Q q =>
  h H1 s _ fun H2 s2 => ⟨.ref l, .ty U, .type "list", .type U, b, rfl, .ty U, .base (.lst ((s.trans s2) _ _ ht)), kit_ty hb, q _ H2 s2 (.bl b)⟩
end
/-- a constant of the module -/
theorem pe_gc {X : Cx} {x : Str} {v : V} {pos : Pos} (hg : Gl X x) (hm : ∃ u, X.mg x = some u ∧ RelV v u) (hd : (x == ("__debug__" : Str)) = false := by decide) : PE X (.Name x pos) (tC v) :=
  ⟨fun pins s σ H Q I h => by
    obtain ⟨u, hm, r⟩ := hm
    exact (pe_glob hg hm r hd).run pins s σ H Q I h⟩
end Bk

namespace Bk
open PySem PySem.Spec PyProof.Rows L2

/-! ### boards and deeds -/
abbrev Bd := List (List Int)
def rowD (r : List Int) : PyData := .tuple (r.map .int)
def bdD (b : Bd) : PyData := .tuple (b.map rowD)
def deedD (d : Int × Int × Int) : PyData := .tuple [.int d.1, .int d.2.1, .int d.2.2]
def spotD (p : Int × Int) : PyData := .tuple [.int p.1, .int p.2]
/-- a quarter turn: x, y, width, height -/
def rotS (s : Int × Int × Int × Int) : Int × Int × Int × Int := (s.2.2.2 - 1 - s.2.1, s.1, s.2.2.2, s.2.2.1)
def rots : Nat → Int × Int × Int × Int → Int × Int × Int × Int
  | 0, s => s
  | n + 1, s => rotS (rots n s)
def tplS (x y t w h : Int) : Int × Int × Int × Int := (if 3 < t then w - 1 - x else x, y, w, h)
def tpl (p : Int × Int) (t w h : Int) : Int × Int := ((rots (t % 4).toNat (tplS p.1 p.2 t w h)).1, (rots (t % 4).toNat (tplS p.1 p.2 t w h)).2.1)
def ledI (p : Int × Int) (d : Int × Int × Int) (w h : Int) : Int × Int := (((tpl p d.1 w h).1 + d.2.1) % w, ((tpl p d.1 w h).2 + d.2.2) % h)
end Bk
namespace Bk
open PySem PySem.Spec PyProof.Rows L2

/-! ### boards by their places -/
def mkB (w h : Nat) (f : Nat → Nat → Int) : Bd := (List.range h).map fun y => (List.range w).map fun x => f x y
def rowB (b : Bd) (y : Nat) : List Int := b[y]?.getD []
def getB (b : Bd) (x y : Nat) : Int := (rowB b y)[x]?.getD 0
structure IsB (b : Bd) (w h : Nat) : Prop where
  high : b.length = h
  wide : ∀ r, r ∈ b → r.length = w
theorem isB_mk (w h : Nat) (f : Nat → Nat → Int) : IsB (mkB w h f) w h := by
  refine ⟨by unfold mkB; rw [List.length_map, List.length_range], fun r hr => ?_⟩
  obtain ⟨y, _, rfl⟩ := List.mem_map.mp hr
  rw [List.length_map, List.length_range]
theorem mkB_row {w h : Nat} {f : Nat → Nat → Int} {y : Nat} (hy : y < h) : (mkB w h f)[y]? = some ((List.range w).map fun x => f x y) := by
  unfold mkB
  rw [List.getElem?_map, List.getElem?_range hy]
  rfl
theorem getB_mk {w h : Nat} {f : Nat → Nat → Int} {x y : Nat} (hx : x < w) (hy : y < h) : getB (mkB w h f) x y = f x y := by
  unfold getB rowB
  rw [mkB_row hy]
  show ((List.range w).map fun x => f x y)[x]?.getD 0 = _
  rw [List.getElem?_map, List.getElem?_range hx]
  rfl
theorem IsB.row {b : Bd} {w h : Nat} (i : IsB b w h) {y : Nat} (hy : y < h) : ∃ r, b[y]? = some r ∧ r.length = w := by
  have hy' : y < b.length := by rw [i.high]; exact hy
  exact ⟨b[y], List.getElem?_eq_getElem hy', i.wide _ (List.getElem_mem hy')⟩
theorem IsB.cell {b : Bd} {w h : Nat} (i : IsB b w h) {x y : Nat} (hx : x < w) (hy : y < h) : ∃ r, b[y]? = some r ∧ r.length = w ∧ r[x]? = some (getB b x y) := by
  obtain ⟨r, hr, hl⟩ := i.row hy
  refine ⟨r, hr, hl, ?_⟩
  unfold getB rowB
  rw [hr]
  show r[x]? = some (r[x]?.getD 0)
  rw [List.getElem?_eq_getElem (by omega)]
  rfl
theorem IsB.ext {a b : Bd} {w h : Nat} (ia : IsB a w h) (ib : IsB b w h) (e : ∀ x y, x < w → y < h → getB a x y = getB b x y) : a = b := by
  refine List.ext_getElem? fun y => ?_
  by_cases hy : y < h
  · obtain ⟨r, hr, lr⟩ := ia.row hy
    obtain ⟨s, hs, ls⟩ := ib.row hy
    rw [hr, hs]
    congr 1
    refine List.ext_getElem? fun x => ?_
    by_cases hx : x < w
    · obtain ⟨r', h1, _, h2⟩ := ia.cell hx hy
      obtain ⟨s', h3, _, h4⟩ := ib.cell hx hy
      rw [hr] at h1
      rw [hs] at h3
      cases h1
      cases h3
      rw [h2, h4, e x y hx hy]
    · rw [List.getElem?_eq_none (by omega), List.getElem?_eq_none (by omega)]
  · rw [List.getElem?_eq_none (by rw [ia.high]; omega), List.getElem?_eq_none (by rw [ib.high]; omega)]
theorem IsB.eq_mk {b : Bd} {w h : Nat} (i : IsB b w h) : b = mkB w h (getB b) := i.ext (isB_mk w h _) fun x y hx hy => (getB_mk hx hy).symm
/-- one cell set -/
def setB (b : Bd) (x y : Nat) (v : Int) : Bd := b.set y ((rowB b y).set x v)
theorem rowB_eq {b : Bd} {y : Nat} {r : List Int} (h : b[y]? = some r) : rowB b y = r := by
  unfold rowB
  rw [h]
  rfl
theorem isB_set {b : Bd} {w h : Nat} (i : IsB b w h) (x y : Nat) (v : Int) (hy : y < h) : IsB (setB b x y v) w h := by
  refine ⟨by unfold setB; rw [List.length_set]; exact i.high, fun r hr => ?_⟩
  unfold setB at hr
  rcases List.mem_or_eq_of_mem_set hr with h1 | h1
  · exact i.wide _ h1
  · obtain ⟨r0, hr0, hl⟩ := i.row hy
    rw [h1, List.length_set, rowB_eq hr0]
    exact hl
theorem getB_set {b : Bd} {w h : Nat} (i : IsB b w h) {x y x' y' : Nat} {v : Int} (hx : x < w) (hy : y < h) : getB (setB b x y v) x' y' = if x' = x ∧ y' = y then v else getB b x' y' := by
  unfold getB setB
  obtain ⟨r, hr, hl⟩ := i.row hy
  rw [rowB_eq hr]
  by_cases h1 : y' = y
  · subst h1
    have e2 : rowB (b.set y' (r.set x v)) y' = r.set x v := rowB_eq (List.getElem?_set_self (by rw [i.high]; exact hy))
    rw [e2, rowB_eq hr]
    by_cases h2 : x' = x
    · subst h2
      rw [if_pos ⟨rfl, rfl⟩, List.getElem?_set_self (by rw [hl]; exact hx)]
      rfl
    · rw [if_neg (fun z => h2 z.1), List.getElem?_set_ne (Ne.symm h2)]
  · rw [if_neg (fun z => h1 z.2)]
    have e2 : rowB (b.set y (r.set x v)) y' = rowB b y' := by
      unfold rowB
      rw [List.getElem?_set_ne (Ne.symm h1)]
    rw [e2]

/-! ### where deeds lead -/
/-- sizes and deeds that are right -/
structure Dim (w h : Nat) : Prop where
  w1 : 1 ≤ w
  w8 : w ≤ 8
  h1 : 1 ≤ h
  h8 : h ≤ 8
structure GoodD (d : Int × Int × Int) (w h : Nat) : Prop where
  t0 : 0 ≤ d.1
  t8 : d.1 < 8
  a0 : 0 ≤ d.2.1
  aw : d.2.1 < w
  b0 : 0 ≤ d.2.2
  bh : d.2.2 < h
  sq : d.1 % 2 = 1 → w = h
theorem tpl0 (x y w h : Int) : tpl (x, y) 0 w h = (x, y) := rfl
theorem tpl1 (x y w h : Int) : tpl (x, y) 1 w h = (h - 1 - y, x) := rfl
theorem tpl2 (x y w h : Int) : tpl (x, y) 2 w h = (w - 1 - x, h - 1 - y) := rfl
theorem tpl3 (x y w h : Int) : tpl (x, y) 3 w h = (h - 1 - (h - 1 - y), w - 1 - x) := rfl
theorem tpl4 (x y w h : Int) : tpl (x, y) 4 w h = (w - 1 - x, y) := rfl
theorem tpl5 (x y w h : Int) : tpl (x, y) 5 w h = (h - 1 - y, w - 1 - x) := rfl
theorem tpl6 (x y w h : Int) : tpl (x, y) 6 w h = (w - 1 - (w - 1 - x), h - 1 - y) := rfl
theorem tpl7 (x y w h : Int) : tpl (x, y) 7 w h = (h - 1 - (h - 1 - y), w - 1 - (w - 1 - x)) := rfl
theorem eight {t : Int} (h0 : 0 ≤ t) (h8 : t < 8) : t = 0 ∨ t = 1 ∨ t = 2 ∨ t = 3 ∨ t = 4 ∨ t = 5 ∨ t = 6 ∨ t = 7 := by omega
/-- back from where a turning leads -/
def itp (u v t w h : Int) : Int × Int :=
  if t = 0 then (u, v) else if t = 1 then (v, h - 1 - u) else if t = 2 then (w - 1 - u, h - 1 - v) else if t = 3 then (w - 1 - v, u)
  else if t = 4 then (w - 1 - u, v) else if t = 5 then (w - 1 - v, h - 1 - u) else if t = 6 then (u, h - 1 - v) else (v, u)
def iled (p : Int × Int) (d : Int × Int × Int) (w h : Int) : Int × Int := itp ((p.1 - d.2.1) % w) ((p.2 - d.2.2) % h) d.1 w h
theorem itp_tpl {x y t w h : Int} (h0 : 0 ≤ t) (h8 : t < 8) : itp (tpl (x, y) t w h).1 (tpl (x, y) t w h).2 t w h = (x, y) := by
  rcases eight h0 h8 with rfl | rfl | rfl | rfl | rfl | rfl | rfl | rfl <;> simp only [tpl0, tpl1, tpl2, tpl3, tpl4, tpl5, tpl6, tpl7, itp] <;> simp <;> omega
theorem tpl_itp {u v t w h : Int} (h0 : 0 ≤ t) (h8 : t < 8) : tpl (itp u v t w h) t w h = (u, v) := by
  rcases eight h0 h8 with rfl | rfl | rfl | rfl | rfl | rfl | rfl | rfl <;> simp only [itp] <;> simp [tpl0, tpl1, tpl2, tpl3, tpl4, tpl5, tpl6, tpl7] <;> omega
def InB (p : Int × Int) (w h : Int) : Prop := 0 ≤ p.1 ∧ p.1 < w ∧ 0 ≤ p.2 ∧ p.2 < h
theorem tpl_in {x y t w h : Int} (h0 : 0 ≤ t) (h8 : t < 8) (sq : t % 2 = 1 → w = h) (i : InB (x, y) w h) : InB (tpl (x, y) t w h) w h := by
  obtain ⟨i1, i2, i3, i4⟩ := i
  simp only at i1 i2 i3 i4
  rcases eight h0 h8 with rfl | rfl | rfl | rfl | rfl | rfl | rfl | rfl <;> simp only [tpl0, tpl1, tpl2, tpl3, tpl4, tpl5, tpl6, tpl7, InB] <;> (try have e := sq (by decide)) <;> refine ⟨?_, ?_, ?_, ?_⟩ <;> omega
theorem itp_in {x y t w h : Int} (h0 : 0 ≤ t) (h8 : t < 8) (sq : t % 2 = 1 → w = h) (i : InB (x, y) w h) : InB (itp x y t w h) w h := by
  obtain ⟨i1, i2, i3, i4⟩ := i
  simp only at i1 i2 i3 i4
  rcases eight h0 h8 with rfl | rfl | rfl | rfl | rfl | rfl | rfl | rfl <;> simp only [itp, InB] <;> (try have e := sq (by decide)) <;> simp <;> omega
theorem emod_shift {x a w : Int} (h1 : 0 ≤ x) (h2 : x < w) : ((x + a) % w - a) % w = x := by
  have e : ((x + a) % w - a) % w = (x + a - a) % w := by rw [Int.sub_emod, Int.emod_emod_of_dvd _ (Int.dvd_refl w), ← Int.sub_emod]
  rw [e, Int.add_sub_cancel, Int.emod_eq_of_lt h1 h2]
theorem emod_shift' {x a w : Int} (h1 : 0 ≤ x) (h2 : x < w) : ((x - a) % w + a) % w = x := by
  have e : ((x - a) % w + a) % w = (x - a + a) % w := by rw [Int.add_emod, Int.emod_emod_of_dvd _ (Int.dvd_refl w), ← Int.add_emod]
  rw [e, Int.sub_add_cancel, Int.emod_eq_of_lt h1 h2]
theorem ledI_in {p : Int × Int} {d : Int × Int × Int} {w h : Int} (hw : 0 < w) (hh : 0 < h) : InB (ledI p d w h) w h :=
  ⟨Int.emod_nonneg _ (by omega), Int.emod_lt_of_pos _ hw, Int.emod_nonneg _ (by omega), Int.emod_lt_of_pos _ hh⟩
theorem iled_in {p : Int × Int} {d : Int × Int × Int} {w h : Nat} (D : Dim w h) (g : GoodD d w h) : InB (iled p d w h) w h := by
  have h1 := D.w1
  have h2 := D.h1
  exact itp_in g.t0 g.t8 (fun z => by rw [g.sq z]) ⟨Int.emod_nonneg _ (by omega), Int.emod_lt_of_pos _ (by omega), Int.emod_nonneg _ (by omega), Int.emod_lt_of_pos _ (by omega)⟩
theorem iled_ledI {p : Int × Int} {d : Int × Int × Int} {w h : Nat} (g : GoodD d w h) (i : InB p w h) : iled (ledI p d w h) d w h = p := by
  obtain ⟨x, y⟩ := p
  have z := tpl_in g.t0 g.t8 (fun z => by rw [g.sq z]) i
  unfold iled ledI
  simp only
  rw [emod_shift z.1 z.2.1, emod_shift z.2.2.1 z.2.2.2]
  exact itp_tpl g.t0 g.t8
theorem ledI_iled {p : Int × Int} {d : Int × Int × Int} {w h : Nat} (g : GoodD d w h) (i : InB p w h) : ledI (iled p d w h) d w h = p := by
  obtain ⟨x, y⟩ := p
  unfold iled ledI
  simp only
  rw [tpl_itp g.t0 g.t8]
  simp only
  rw [emod_shift' i.1 i.2.1, emod_shift' i.2.2.1 i.2.2.2]
/-- the board behind a deed -/
def doneB (b : Bd) (d : Int × Int × Int) (w h : Nat) : Bd := mkB w h fun x y => getB b (iled (x, y) d w h).1.toNat (iled (x, y) d w h).2.toNat
theorem isB_done (b : Bd) (d : Int × Int × Int) (w h : Nat) : IsB (doneB b d w h) w h := isB_mk _ _ _
theorem pair_toNat {p : Int × Int} {w h : Int} (i : InB p w h) : ((p.1.toNat : Int), (p.2.toNat : Int)) = p := by
  rw [Int.toNat_of_nonneg i.1, Int.toNat_of_nonneg i.2.2.1]
theorem inB_nat {x y w h : Nat} (hx : x < w) (hy : y < h) : InB ((x : Int), (y : Int)) w h := ⟨by simp, by simp; omega, by simp, by simp; omega⟩
/-- what it has where a cell is led -/
theorem getB_done {b : Bd} {d : Int × Int × Int} {w h : Nat} (D : Dim w h) (g : GoodD d w h) {x y : Nat} (hx : x < w) (hy : y < h) :
    getB (doneB b d w h) (ledI ((x : Int), (y : Int)) d w h).1.toNat (ledI ((x : Int), (y : Int)) d w h).2.toNat = getB b x y := by
  have h1 := D.w1
  have h2 := D.h1
  have i := ledI_in (p := ((x : Int), (y : Int))) (d := d) (w := w) (h := h) (by omega) (by omega)
  obtain ⟨i1, i2, i3, i4⟩ := id i
  unfold doneB
  rw [getB_mk (by omega) (by omega), pair_toNat i, iled_ledI g (inB_nat hx hy)]
  simp
end Bk
namespace Bk
open PySem PySem.Spec PyProof.Rows L2
def gridD (g : Bd) : List (List PyData) := g.map fun r => r.map .int
theorem gridD_row {g : Bd} {y : Nat} {r : List Int} (h : g[y]? = some r) : (gridD g)[y]? = some (r.map .int) := by
  unfold gridD
  rw [List.getElem?_map, h]
  rfl
theorem gridD_set (g : Bd) (x y : Nat) (v : Int) {r : List Int} (h : g[y]? = some r) : gridD (setB g x y v) = (gridD g).set y ((r.map PyData.int).set x (.int v)) := by
  unfold gridD setB
  rw [rowB_eq h, List.map_set, List.map_set]
theorem gridD_tup (g : Bd) : (gridD g).map PyData.tuple = g.map rowD := by
  unfold gridD
  rw [List.map_map]
  rfl
theorem bdD_row {b : Bd} {y : Nat} {r : List Int} (h : b[y]? = some r) : (b.map rowD)[y]? = some (rowD r) := by
  rw [List.getElem?_map, h]
  rfl
theorem atI_ofNat {α : Type} {xs : List α} {i : Int} {j : Nat} {v : α} (e : i = (j : Nat)) (h : xs[j]? = some v) : atI xs i = some v := at_ofG e h
where
  at_ofG {α : Type} {xs : List α} {z : Int} {j : Nat} {v : α} (e : z = (j : Int)) (h : xs[j]? = some v) : atI xs z = some v := by
    rw [e]
    exact atI_nat h
theorem ints_at {r : List Int} {x : Nat} {v : Int} (h : r[x]? = some v) : (r.map PyData.int)[x]? = some (.int v) := by
  rw [List.getElem?_map, h]
  rfl
section
variable {K : PySem.W.Frag} {σ : L2.St} {H : Hp} {ta tb tc : TE}
/-- board[y][x] -/
theorem evd_cell {b : Bd} {w h : Nat} (i : IsB b w h) {x y : Nat} {xi yi : Int} (hb : EvD ta σ H (bdD b)) (hy : EvD tb σ H (.int yi)) (hx : EvD tc σ H (.int xi)) (ey : yi = (y : Nat)) (ex : xi = (x : Nat)) (ly : y < h) (lx : x < w) :
    EvD (tOp (rIx K) (tOp (rIx K) ta tb) tc) σ H (.int (getB b x y)) := by
  obtain ⟨r, hr, _, hc⟩ := i.cell lx ly
  exact evd_ixT (evd_ixT hb hy (atI_ofNat ey (bdD_row hr))) hx (atI_ofNat ex (ints_at hc))
/-- len(board), len(board[0]) -/
theorem evd_high {b : Bd} {w h : Nat} (i : IsB b w h) (hb : EvD ta σ H (bdD b)) : EvD (tCB (rLenQ K) (tCons ta tNil)) σ H (.int (h : Int)) :=
  (evd_lenT hb).cast (by rw [List.length_map, i.high])
theorem evd_wide {b : Bd} {w h : Nat} (i : IsB b w h) (h1 : 1 ≤ h) (hb : EvD ta σ H (bdD b)) (h0 : EvD tb σ H (.int 0)) : EvD (tCB (rLenQ K) (tCons (tOp (rIx K) ta tb) tNil)) σ H (.int (w : Int)) := by
  obtain ⟨r, hr, hl⟩ := i.row (y := 0) h1
  exact (evd_lenT (ds := r.map .int) (evd_ixT hb h0 (atI_ofNat (j := 0) rfl (bdD_row hr)))).cast (by rw [List.length_map, hl])
end
theorem mk_zero_grid (w h : Nat) : (rgD 0 h).map (fun _ => (List.range w).map fun _ => PyData.int 0) = gridD (mkB w h fun _ _ => 0) := by
  unfold rgD gridD mkB
  rw [List.map_map, List.map_map]
  refine List.map_congr_left fun y _ => ?_
  show (List.range w).map (fun _ => PyData.int 0) = ((List.range w).map fun _ => (0 : Int)).map PyData.int
  rw [List.map_map]
  rfl
theorem rgD_len (lo : Int) (n : Nat) : (rgD lo n).length = n := by
  unfold rgD
  rw [List.length_map, List.length_range]
end Bk
namespace Bk
open PySem PySem.Spec PyProof.Rows L2
/-! ### data compared -/
theorem eqv_ints : ∀ a b : List Int, PyData.eqvAll (a.map .int) (b.map .int) = decide (a = b)
  | [], [] => rfl
  | [], _ :: _ => rfl
  | _ :: _, [] => rfl
  | x :: a, y :: b => by
    show ((x == y) && PyData.eqvAll (a.map .int) (b.map .int)) = _
    rw [eqv_ints a b, Bool.beq_eq_decide_eq, ← Bool.decide_and]
    exact decide_eq_decide.mpr ⟨fun h => by rw [h.1, h.2], fun h => by injection h with h1 h2; exact ⟨h1, h2⟩⟩
theorem eqv_rows : ∀ a b : Bd, PyData.eqvAll (a.map rowD) (b.map rowD) = decide (a = b)
  | [], [] => rfl
  | [], _ :: _ => rfl
  | _ :: _, [] => rfl
  | x :: a, y :: b => by
    show (PyData.eqvAll (x.map .int) (y.map .int) && PyData.eqvAll (a.map rowD) (b.map rowD)) = _
    rw [eqv_ints, eqv_rows a b, ← Bool.decide_and]
    exact decide_eq_decide.mpr ⟨fun h => by rw [h.1, h.2], fun h => by injection h with h1 h2; exact ⟨h1, h2⟩⟩
theorem eqv_bd (a b : Bd) : PyData.eqv (bdD a) (bdD b) = decide (a = b) := eqv_rows a b
theorem can_ints : ∀ a : List Int, PyData.canLayAll0 (a.map .int) = true
  | [] => rfl
  | _ :: r => by
    show (PyData.canLay0 (.int _) && PyData.canLayAll0 (r.map .int)) = true
    rw [can_ints r]
    rfl
theorem dep_ints : ∀ a : List Int, PyData.depthAll (a.map .int) = 0
  | [] => by rw [List.map_nil, PyData.depthAll]
  | _ :: r => by rw [List.map_cons, PyData.depthAll, PyData.depth, dep_ints r]; rfl
theorem can_rows : ∀ a : Bd, PyData.canLayAll0 (a.map rowD) = true
  | [] => rfl
  | x :: r => by
    show (PyData.canLayAll0 (x.map .int) && PyData.canLayAll0 (r.map rowD)) = true
    rw [can_rows r, can_ints x]
    rfl
theorem dep_rows : ∀ a : Bd, PyData.depthAll (a.map rowD) ≤ 1
  | [] => by rw [List.map_nil, PyData.depthAll]; exact Nat.zero_le _
  | x :: r => by
    have h := dep_rows r
    rw [List.map_cons, PyData.depthAll]
    have e : (rowD x).depth = 1 := by
      unfold rowD
      rw [PyData.depth, dep_ints x]
    rw [e]
    omega
theorem shaped_bd (b : Bd) : SeqAt.shaped (bdD b) = true := by
  have h : (bdD b).depth ≤ 64 := by
    have h := dep_rows b
    unfold bdD
    rw [PyData.depth]
    omega
  unfold SeqAt.shaped
  rw [decide_eq_true h, Bool.and_true]
  exact can_rows b
theorem shaped_ints (a : List Int) : SeqAt.shaped (.tuple (a.map .int)) = true := by
  unfold SeqAt.shaped
  have h : (PyData.tuple (a.map .int)).depth ≤ 64 := by
    rw [PyData.depth, dep_ints a]
    decide
  rw [decide_eq_true h, Bool.and_true]
  exact can_ints a
end Bk

namespace Bk
open PySem PySem.Spec PyProof.Rows L2
/-! ### rules with the written part named: they stand within a comprehension's block too -/
section
variable {X : Cx} (K : PySem.W.Frag)
theorem ixq (h : X.K = K := by rfl) : IxR X (rIx K) := by subst h; exact ix_seq
theorem cb_len (h : X.K = K := by rfl) : CallR X (.builtin "len") (rLenQ K) := by subst h; exact call_len_seq
theorem cb_tuple (h : X.K = K := by rfl) : CallR X (.type "tuple") (rTupQ K) := by subst h; exact call_tuple_of
theorem cb_list (h : X.K = K := by rfl) : CallR X (.type "list") (rLstQ K) := by subst h; exact call_list_of
theorem cb_isi (h : X.K = K := by rfl) : CallR X (.builtin "isinstance") (rIsi K) := by subst h; exact call_isi
theorem cb_sum (hc : X.calm = true) (h : X.K = K := by rfl) : CallR X (.builtin "sum") (rSum K) := by subst h; exact cr_sum hc
theorem eqD (hu : X.A.units + 64 < cLine) (h : X.K = K := by rfl) : OpR X (compareOp .Eq) (rEqD K) := by subst h; exact op_eqD hu
theorem neD (hu : X.A.units + 64 < cLine) (h : X.K = K := by rfl) : OpR X (compareOp .NotEq) (rNeD K) := by subst h; exact op_neD hu
theorem slL (h : X.K = K := by rfl) : SlR X (rSlL K) := by subst h; exact sl_list
variable {tg e o : Expr} {es : List Expr} {te to : TE} {t : TA}
theorem pil (he : PE X e te) (h : X.K = K := by rfl) : PI X tg e (iList K te) := by subst h; exact pi_list he
theorem pit (he : PE X e te) (h : X.K = K := by rfl) : PI X tg e (iTup K te) := by subst h; exact pi_tup he
theorem pg_tupK {es : List Expr} {k : Nat} {t : TGs} {pos : Pos} {n : Nat} (hc : X.calm = true) (h : PGs X es t) (h1 : (assignEach es X.env).length = n := by rfl) (h2 : (assignEach es X.env).findIdx? (fun z => z.1) = none := by rfl) (hK : X.K = K := by rfl) : PG X (.Tuple es k pos) (gTup K n t) := by
  subst hK
  exact pg_tup hc h h1 h2
end
end Bk

/-! tuple(reversed(t)), t a tuple: reversed gives a hint of its length, so the way through the extending is another one than a list's -/
namespace Bk
open PySem PySem.Spec PyProof.Rows L2 RT
theorem slot_rt_hint : Slot "reversed" "__length_hint__" "reversed.__length_hint__" :=
  .of (owner := "reversed") (n := "__length_hint__") (by rw [typeLookup_type, builtinLookup_eq_fast]; kernel_rfl) (by decide +kernel) (by decide +kernel) (by decide +kernel)
    (by first | exact .inl (by decide +kernel) | exact .inr (by decide +kernel)) (by rw [isSubtype_type]; kernel_rfl)
theorem entry_rt_hint : entryFor table "reversed.__length_hint__" = some Builtin.«reversed.__length_hint__» := entryFor_of_tree (by kernel_rfl)
theorem args_rt_hint (a : Value) : argsOk "reversed.__length_hint__" ⟨[a], []⟩ := by
  unfold argsOk; rw [signature?_of (id := "reversed.__length_hint__") (n := ['_', '_', 't', 'n', 'i', 'h', '_', 'h', 't', 'g', 'n', 'e', 'l', '_', '_']) (o := ['d', 'e', 's', 'r', 'e', 'v', 'e', 'r']) (by kernel_rfl) owner_rt]; kernel_rfl
theorem nolen_rt : typeLookup (.type "reversed") "__len__" = pure none := by rw [typeLookup_type, builtinLookup_eq_fast]; kernel_rfl
theorem hint_rt : typeLookup (.type "reversed") "__length_hint__" = pure (some (.builtin "reversed.__length_hint__")) := by rw [typeLookup_type, builtinLookup_eq_fast]; kernel_rfl
theorem type_rt_hint : typeOf (.builtin "reversed.__length_hint__") = pure (.type "method_descriptor") := by kernel_rfl
section
variable {prog : Program} {w : World} {A : Around} {E : Value → Shared → Prop} {s : Shared}
theorem call_rt_hint {it t : Addr} {items : Array Value} {Q : Value → Shared → Prop} (hit : IsRt s.heap it t ((items.size : Int) - 1)) (ht : IsTup s.heap t items) (hn : items.size ≤ sizeLine)
    (h : ∀ u tk, s.toks ≤ tk → Q (.int (items.size : Int) u) { s with toks := tk }) : wpAny (model prog w) A (call (.builtin "reversed.__length_hint__") [.ref it]) Q E s := by
  obtain ⟨o, ho, hc, hd⟩ := id hit
  rw [sizeLine_eq] at hn
  refine wpAny_call_entry slot_rt_hint hit.typeIs entry_rt_hint ?_ (args_rt_hint _)
  unfold Builtin.«reversed.__length_hint__»
  refine wpAny_bind (wpAny_of_eq (a := Value.ref it) rfl ?_)
  refine wpAny_bind (wpAny_field ho hd (x := .ref t) rfl ?_)
  rw [if_neg (show ¬(Value.ref t == Value.none) = true by simp)]
  refine wpAny_bind (len_tuple ht (by omega) ?_)
  refine wpAny_bind (m := asInt? _) (wpAny_pure ?_)
  dsimp only
  refine wpAny_bind (wpAny_field (s := { s with toks := s.toks + 1 + 1 }) ho hd (x := rawInt ((items.size : Int) - 1)) rfl ?_)
  show wpAny _ _ (if (items.size : Int) < (items.size : Int) - 1 + 1 then _ else _) _ _ _
  rw [if_neg (by omega)]
  refine wpAny_bind (wpAny_mkInt ?_)
  have e : (items.size : Int) - 1 + 1 = items.size := by omega
  rw [e]
  exact wpAny_pure ⟨_, rfl, h _ _ (by show s.toks ≤ s.toks + 1 + 1 + 1; omega)⟩
theorem walks_rt (hh : A.handled = none) (I t : Addr) (hne : t ≠ I) (items : Array Value) (hn : items.size ≤ sizeLine) :
    Walks prog w A I [I, t] [I] items.size (fun i v => items[items.size - 1 - i]? = some v) (fun i h => i ≤ items.size ∧ IsRt h I t ((items.size : Int) - 1 - (i : Int)) ∧ IsTup h t items) where
  sub := fun b hb => by simp at hb; simp [hb]
  frame := fun _ _ _ x hk => ⟨x.1, x.2.1.at fun o e => hk I (by simp) o e, let ⟨o, e, c⟩ := x.2.2; ⟨o, hk t (by simp) o e, c⟩⟩
  item := fun i s Q E hi x hQ => by
    obtain ⟨_, hit, ht⟩ := x
    have e1 : (items.size : Int) - 1 - (i : Int) = ((items.size - 1 - i : Nat) : Int) := by omega
    rw [e1] at hit
    have hx : items[items.size - 1 - i]? = some (items[items.size - 1 - i]'(by omega)) := Array.getElem?_eq_getElem (by omega)
    refine next_rt_item hit ht hx hn fun h' hit' hs' => ?_
    have e2 : ((items.size - 1 - i : Nat) : Int) - 1 = (items.size : Int) - 1 - ((i + 1 : Nat) : Int) := by omega
    rw [e2] at hit'
    exact hQ _ h' (s.toks + 1) hx ⟨hi, hit', let ⟨o, e, c⟩ := ht; ⟨o, (hs'.2 t hne).trans e, c⟩⟩ fun b o hb eo => hs'.extBut b o (fun z => hb (by simp [z])) eo
  done := fun s Q E x hQ => by
    obtain ⟨_, hit, _⟩ := x
    have e1 : (items.size : Int) - 1 - (items.size : Int) = -1 := by omega
    rw [e1] at hit
    exact next_rt_end hh hit fun h' he' => hQ h' s.toks fun b o hb eo => he' b o (fun z => hb (by simp [z])) eo
  self := fun _ _ _ _ x hQ => iter_rt x.2.1 hQ
theorem collect_rt {it t : Addr} {items : Array Value} {Q : List Value → Shared → Prop} (hh : A.handled = none) (hit : IsRt s.heap it t ((items.size : Int) - 1)) (ht : IsTup s.heap t items) (hne : t ≠ it) (hn : items.size ≤ sizeLine) (h0 : 0 < items.size)
    (hQ : ∀ (h' : Heap) (tk : Nat) (acc : Array Value), (∀ b o, b ≠ it → s.heap.get? b = some o → h'.get? b = some o) → ItemsOf (fun i v => items[items.size - 1 - i]? = some v) acc items.size → Q acc.toList { s with heap := h', toks := tk }) :
    wpAny (model prog w) A (collect (.ref it)) Q E s := by
  have W := (walks_rt (prog := prog) (w := w) (A := A.in1) hh it t hne items hn).toS
  obtain ⟨oi, hoi, _⟩ := id hit
  obtain ⟨ot, hot, _⟩ := id ht
  have hSi : s.heap.objs.size ≠ it := Nat.ne_of_gt (Heap.lt_size hoi)
  have hSt : s.heap.objs.size ≠ t := Nat.ne_of_gt (Heap.lt_size hot)
  have hSf : s.heap.objs.size ∉ [it, t] := by simp only [List.mem_cons, List.not_mem_nil, or_false, not_or]; exact ⟨hSi, hSt⟩
  have hz := hn
  rw [sizeLine_eq] at hz
  unfold collect
  refine wpAny_bind (wpAny_runValue (codeAny_builtin F.entry_proto_collect ?_))
  rw [Around.under_plainId F.plain_proto_collect _]
  show wpAny _ A.in1 (newList [] >>= fun l' => again (.builtin "list.__iadd__" ⟨[l', .ref it], []⟩)) _ _ s
  refine wpAny_bind (wpAny_newObj_type ?_)
  refine wpAny_pure ⟨plainId_quiet F.plain_list_iadd _, codeAny_builtin F.entry_list_iadd ?_⟩
  rw [Around.under_plainId F.plain_list_iadd _]
  generalize hs1 : ({ s with heap := s.heap.push { cls := .type "list", data := .seq ([] : List Value).toArray } } : Shared) = s1
  have hp1 : s1.heap = s.heap.push { cls := .type "list", data := .seq ([] : List Value).toArray } := by rw [← hs1]
  have old1 : ∀ b o, s.heap.get? b = some o → s1.heap.get? b = some o := fun b o e => by rw [hp1]; exact Heap.get?_push_of_some _ e
  have hS1 : s1.heap.get? s.heap.objs.size = some { cls := .type "list", data := .seq ([] : List Value).toArray } := by rw [hp1]; exact Heap.get?_push_size _ rfl
  have hit1 : IsRt s1.heap it t ((items.size : Int) - 1) := hit.at fun o e => old1 it o e
  have ht1 : IsTup s1.heap t items := let ⟨o, e, c⟩ := ht; ⟨o, old1 t o e, c⟩
  have hT : s1.TypeIs (.ref it) "reversed" := hit1.typeIs
  have h1 : Builtin.List.listSameRef (.ref s.heap.objs.size) (.ref it) = false := by simp [Builtin.List.listSameRef, hSi]
  show wpAny _ A.in1 (Builtin.List.listExtendWith (.ref s.heap.objs.size) (.ref it) (.ref s.heap.objs.size)) _ _ s1
  unfold Builtin.List.listExtendWith
  refine wpAny_bind (wpAny_typeOf hT ?_)
  rw [if_neg (by rw [h1]; decide)]
  refine wpAny_bind (iter_rt hit1 ?_)
  refine wpAny_bind (wpAny_holding ?_)
  unfold Builtin.List.listLengthHint
  refine wpAny_bind (wpAny_specialOf hT nolen_rt ?_)
  show wpAny _ A.in1 (specialOf (Value.ref it) (Str.ofString "__length_hint__") >>= _) _ _ _
  refine wpAny_bind (wpAny_specialOf hT hint_rt ?_)
  generalize hid : ("reversed.__length_hint__" : String) = id0
  wp_delta
  rw [show splitId id0 = some ("reversed", "__length_hint__") from by subst hid; decide +kernel]
  subst hid
  refine wpAny_bind (wpAny_isInstance (b := true) hT (by rw [isSubtype_type]; kernel_rfl) ?_)
  rw [if_neg (by decide +kernel)]
  refine wpAny_bind (wpAny_rule ?_)
  refine wpAny_bind ?_
  unfold bindSpecial
  refine wpAny_bind (wpAny_of_eq (a := Value.type "method_descriptor") type_rt_hint ?_)
  rw [if_pos (by decide)]
  refine wpAny_pure ?_
  refine wpAny_bind (wpAny_attempt (call_rt_hint hit1 ht1 hn fun u tk htk => ?_))
  dsimp only
  have ai : asInt? (Value.int ((items.size : Nat) : Int) u) = pure (some ((items.size : Nat) : Int)) := rfl
  rw [ai]
  refine wpAny_bind (m := pure (some ((items.size : Nat) : Int))) ?_
  refine wpAny_pure ?_
  dsimp only
  rw [if_neg (show ¬(!Builtin.List.listFitsIndex ((items.size : Nat) : Int)) = true by unfold Builtin.List.listFitsIndex; simp; omega), if_neg (by omega), if_neg (show ¬ Builtin.List.listTooLong ((items.size : Nat) : Int).toNat = true by unfold Builtin.List.listTooLong; rw [sizeLine_eq]; simp; omega)]
  refine wpAny_pure ?_
  have hb : (((items.size : Nat) : Int) != 0) = true := by rw [bne_iff_ne]; omega
  rw [hb, Bool.true_or, if_pos rfl]
  refine wpAny_bind (wpAny_rule ?_)
  refine wpAny_bind ?_
  show wpAny _ A.in1 (updateSeq s.heap.objs.size (·.push .none) >>= fun _ => updateSeq s.heap.objs.size (·.pop)) _ _ _
  refine wpAny_bind (wpAny_updateSeq (s := { s1 with toks := tk }) hS1 rfl ?_)
  have hS2 := Heap.get?_update_self (Obj.mapSeq (·.push Value.none)) hS1 rfl
  refine wpAny_updateSeq hS2 rfl ?_
  have hS3 := Heap.get?_update_self (Obj.mapSeq (·.pop)) hS2 rfl
  generalize hh3 : (s1.heap.update s.heap.objs.size (Obj.mapSeq (·.push Value.none))).update s.heap.objs.size (Obj.mapSeq (·.pop)) = h3 at hS3 ⊢
  have oth : ∀ b o, b ≠ s.heap.objs.size → s1.heap.get? b = some o → h3.get? b = some o := fun b o hb e => by
    rw [← hh3]
    exact (Heap.get?_update_other _ _ (Ne.symm hb)).trans ((Heap.get?_update_other _ _ (Ne.symm hb)).trans e)
  have hit3 : IsRt h3 it t ((items.size : Int) - 1 - ((0 : Nat) : Int)) := by
    have e0 : ((items.size : Nat) : Int) - 1 - ((0 : Nat) : Int) = (items.size : Int) - 1 := by omega
    rw [e0]
    exact hit1.at fun o e => oth it o (Ne.symm hSi) e
  have ht3 : IsTup h3 t items := let ⟨o, e, c⟩ := ht1; ⟨o, oth t o (Ne.symm hSt) e, c⟩
  refine wpAny_pure ⟨plainId_quiet F.plain_extend_loop _, codeAny_extend_loopS W hn _ hSf _ items.size 0 _ _ _ rfl (Nat.zero_le _) ⟨Nat.zero_le _, hit3, ht3⟩ hS3 (ItemsOf.nil _) fun s' acc' c' hm hS' hacc => ?_⟩
  show wpAny _ A (load s.heap.objs.size >>= _) _ _ s'
  refine wpAny_bind (wpAny_load hS' ?_)
  refine wpAny_pure ?_
  rw [Moved.eq_with hm]
  subst hs1
  refine hQ s'.heap s'.toks acc' (fun b o hb e => hm.heap b o (fun hmem => ?_) (oth b o (Nat.ne_of_lt (Heap.lt_size e)) (old1 b o e))) hacc
  rcases List.mem_cons.mp hmem with e' | hmem
  · exact absurd (Heap.lt_size e) (by rw [e']; exact Nat.lt_irrefl _)
  · exact hb (List.mem_singleton.mp hmem)
theorem code_tuple_new_rt {it t : Addr} {items : Array Value} {Q1 : Value → Shared → Prop} (hh : A.handled = none) (hit : IsRt s.heap it t ((items.size : Int) - 1)) (ht : IsTup s.heap t items) (hne : t ≠ it) (hn : items.size ≤ sizeLine) (h0 : 0 < items.size)
    (h : ∀ (h' : Heap) (tk : Nat) (acc : Array Value), (∀ b o, b ≠ it → s.heap.get? b = some o → h'.get? b = some o) → ItemsOf (fun i v => items[items.size - 1 - i]? = some v) acc items.size →
      Q1 (.ref h'.objs.size) { s with heap := h'.push { cls := .type "tuple", data := .seq acc }, toks := tk }) :
    codeAny (model prog w) A (.call (.builtin "tuple.__new__") ⟨[.type "tuple", .ref it], []⟩) (wants Q1 E) s := by
  refine codeAny_of_tree ?_
  show wpAny _ A.in1 (do checkBuiltinCall "tuple.__new__" ⟨[.type "tuple", .ref it], []⟩; again (.builtin "tuple.__new__" ⟨[.type "tuple", .ref it], []⟩)) _ _ s
  refine wpAny_bind (wpAny_of_eq (F.newCall_tuple_1 _) (wpAny_pure ⟨plainId_quiet F.plain_tuple_new _, codeAny_builtin F.entry_tuple_new ?_⟩))
  rw [Around.under_plainId F.plain_tuple_new _]
  have hsub := sub_tuple_self
  have hinit := init_tuple_lookup
  have hmh := madeHere_tuple
  have hTI : s.TypeIs (.ref it) "reversed" := hit.typeIs
  have hh1 : A.in1.handled = none := hh
  wp_walk using wpAny_typeOf hTI, collect_rt (A := A.in1) hh1 hit ht hne hn h0
  intro h' tk acc hk hacc
  show wpAny _ _ (Builtin.Tuple.tupleExact acc.toList.toArray >>= fun v => ret v) _ _ _
  unfold Builtin.Tuple.tupleExact
  have e : acc.toList.toArray = acc := by simp
  refine wpAny_bind (wpAny_newObj_type ?_ (by show acc.toList.toArray.size ≤ sizeLine; rw [e, hacc.1]; exact hn))
  refine wpAny_pure ?_
  rw [e]
  exact h h' tk acc hk hacc
theorem call_tuple_rt {it t : Addr} {items : Array Value} {Q : Value → Shared → Prop} (hh : A.handled = none) (hit : IsRt s.heap it t ((items.size : Int) - 1)) (ht : IsTup s.heap t items) (hne : t ≠ it) (hn : items.size ≤ sizeLine) (h0 : 0 < items.size)
    (hQ : ∀ (h' : Heap) (tk : Nat) (acc : Array Value), (∀ b o, b ≠ it → s.heap.get? b = some o → h'.get? b = some o) → ItemsOf (fun i v => items[items.size - 1 - i]? = some v) acc items.size →
      Q (.ref h'.objs.size) { s with heap := h'.push { cls := .type "tuple", data := .seq acc }, toks := tk }) :
    wpAny (model prog w) A (call (.type "tuple") [.ref it]) Q E s := by
  refine callType_codes (Q₁ := fun obj s1 => s1.TypeIs obj "tuple" ∧ Q obj s1) F.called_tuple (F.typeCall_tuple_1 _) F.entry_object_init
    (code_tuple_new_rt (A := A.in1) hh hit ht hne hn h0 fun h' tk acc hk hacc => ⟨⟨_, Heap.get?_push_size _ rfl, rfl⟩, hQ h' tk acc hk hacc⟩) fun obj s1 h1 => ?_
  exact ⟨h1.1, F.args_object_init_2 obj _, object_init_meets F.called_tuple.init.lookup F.called_tuple.made (by decide) prog w A.in1 _ s1 ⟨h1.1, rfl, h1.2⟩⟩
end
def tTupRevT (K : PySem.W.Frag) (te : TE) : TE := fun σ H Q => te σ H fun v H1 => ∃ (a : Addr) (xs : List V), v = .ref a ∧ SqT K H1 a xs ∧ 0 < xs.length ∧ ∀ q, H1 q = none → Q (.ref q) (upd H1 q (.tup xs.reverse))
section
variable {X : Cx}
theorem pe_tupRevT (K : PySem.W.Frag) {e : Expr} {te : TE} {p p2 pos pos2 : Pos} (hc : X.calm = true) (hg : Gl X "tuple") (hm : X.mg "tuple" = none) (hg2 : Gl X "reversed") (hm2 : X.mg "reversed" = none) (he : PE X e te) (hK : X.K = K := by rfl)
    (hs : starEach [e] X.env = (false, eval e X.env) :: starEach [] X.env := by rfl)
    (hs2 : starEach [.Call (.Name "reversed" p2) [e] [] pos2] X.env = (false, eval (.Call (.Name "reversed" p2) [e] [] pos2) X.env) :: starEach [] X.env := by rfl) :
    PE X (.Call (.Name "tuple" p) [.Call (.Name "reversed" p2) [e] [] pos2] [] pos) (tTupRevT K te) := by
  subst hK
  refine ⟨fun pins s σ H Q I h => ?_⟩
  refine Call_ (ld_blt I hg hm boot_tuple (PyProof.Rows.callWith_type1 (args_cons (Call_ (ld_blt I hg2 hm2 PyProof.Rows.boot_reversed (PyProof.Rows.callWith_type1 (args_cons (thn (he.run pins s σ H _ I h) fun u s1 ⟨v, H1, I1, r1, q1⟩ => args_nil ?_) hs) hs rfl))) hs2) hs2 rfl))
  obtain ⟨a, xs, ev, hq, h0, q⟩ := q1
  subst ev
  obtain rfl : u = Value.ref a := r1
  obtain ⟨its, rv, p', hz⟩ := I1.tuple hq
  have hl := rv.length
  have hn := line63
  refine call_reversed_tup p' (fun A E Q k => len_tuple p' (by simp only [List.size_toArray]; omega) k) (args_nil ?_)
  have k0 : ∀ b o, s1.heap.get? b = some o → (s1.heap.push (rtObj a ((its.toArray.size : Int) - 1))).get? b = some o := fun b o e => Heap.get?_push_of_some _ e
  have I2 : Inv X pins σ H1 { s1 with heap := s1.heap.push (rtObj a ((its.toArray.size : Int) - 1)), toks := s1.toks + 1 + 1 } := I1.kept (t' := s1.toks + 1 + 1) k0
  obtain ⟨f0, f1, f2, f3, f4, f5⟩ := I1.fpOk (H' := H1) (b := s1.heap.objs.size) (Nat.le_refl _) (I1.hok.fresh (Nat.le_refl _))
  obtain ⟨ol, hol, hr⟩ := id p'
  have hne : a ≠ s1.heap.objs.size := Nat.ne_of_lt (Heap.lt_size hol)
  have hn' : its.toArray.size ≤ sizeLine := by rw [List.size_toArray, ← rv.length]; exact hz
  refine call_tuple_rt (s := { s1 with heap := s1.heap.push (rtObj a ((its.toArray.size : Int) - 1)), toks := s1.toks + 1 + 1 }) (I1.ok.hd hc) ⟨_, Heap.get?_push_size _ rfl, rfl, rfl⟩ ⟨ol, k0 _ _ hol, hr⟩ hne hn' (by rw [List.size_toArray, ← rv.length]; exact h0) fun h' tk acc hk hi => ?_
  have I3 : Inv X pins σ H1 { s1 with heap := h', toks := tk } := I2.turned (t' := tk) (fun b o hb e => hk b o hb e) f0 f1 f3 f4 f5
  refine ⟨.ref h'.objs.size, upd H1 h'.objs.size (.tup xs.reverse), I3.laid (t' := tk) (fun c o e => Heap.get?_push_of_some _ e) (Nat.le_refl _) (show ObjOk X.prog X.w _ _ _ (.tup xs.reverse) from ⟨by rw [List.length_reverse]; exact hz, acc.toList, vals_rev rv hi, ?_⟩), rfl, q _ (I3.hok.fresh (Nat.le_refl _))⟩
  rw [Array.toArray_toList]
  exact IsTup.new _ _
end
theorem evd_tupRev {K : PySem.W.Frag} {te : TE} {σ : L2.St} {H : Hp} {ds : List PyData} (h : EvD te σ H (.tuple ds)) (h0 : 0 < ds.length) : EvD (tTupRevT K te) σ H (.tuple ds.reverse) := fun H1 s Q q =>
  h H1 s _ fun v H2 s2 i2 => by
    obtain ⟨a, xs, rfl, e, im⟩ := i2.tupv
    exact ⟨a, xs, rfl, SqT.of e, by rw [im.len]; exact h0, fun p hp => q _ _ (s2.trans (same_upd hp)) (.tup upd_same (im.rev.sm (same_upd hp)))⟩
end Bk

namespace Bk
open PySem PySem.Spec PyProof.Rows L2
/-! ### the laws' own boards -/
/-- the script's cell -/
def cellAt (ns : List Int) (k : Nat) : Int := ns[k]?.getD 0
def lcg (c : Int) : Nat → Int
  | 0 => c
  | n + 1 => (lcg c n * 48271 + 13) % 2147483647
def byB (c : Int) (w h : Nat) (col : Int) : Bd := mkB w h fun x y => lcg c (y * w + x + 1) / 7 % col
def quarterB (b : Bd) (w h : Nat) : Bd := mkB h w fun x y => getB b y (h - 1 - x)
def mirrorB (b : Bd) (w h : Nat) : Bd := mkB w h fun x y => getB b (w - 1 - x) y
def quarts : Nat → Bd × Nat × Nat → Bd × Nat × Nat
  | 0, s => s
  | n + 1, s => (quarterB (quarts n s).1 (quarts n s).2.1 (quarts n s).2.2, (quarts n s).2.2, (quarts n s).2.1)
theorem dim_swap {w h : Nat} (d : Dim w h) : Dim h w := ⟨d.h1, d.h8, d.w1, d.w8⟩
theorem quarts_ok {b : Bd} {w h : Nat} (d : Dim w h) (i : IsB b w h) : ∀ n, IsB (quarts n (b, w, h)).1 (quarts n (b, w, h)).2.1 (quarts n (b, w, h)).2.2 ∧ Dim (quarts n (b, w, h)).2.1 (quarts n (b, w, h)).2.2
  | 0 => ⟨i, d⟩
  | n + 1 => ⟨isB_mk _ _ _, dim_swap (quarts_ok d i n).2⟩
def baseB (b : Bd) (t : Int) (w h : Nat) : Bd := if 3 < t then mirrorB b w h else b
theorem isB_base {b : Bd} {t : Int} {w h : Nat} (i : IsB b w h) : IsB (baseB b t w h) w h := by
  unfold baseB
  split
  · exact isB_mk _ _ _
  · exact i
def turnB (b : Bd) (t : Int) (w h : Nat) : Bd × Nat × Nat := quarts (t % 4).toNat (baseB b t w h, w, h)
theorem turn_dims {b : Bd} {t : Int} {w h : Nat} (h0 : 0 ≤ t) (h8 : t < 8) (sq : t % 2 = 1 → w = h) : (turnB b t w h).2 = (w, h) := by
  unfold turnB
  rcases eight h0 h8 with rfl | rfl | rfl | rfl | rfl | rfl | rfl | rfl <;> (try have e := sq (by decide)) <;> (try subst e) <;> rfl
theorem getB_quarter {b : Bd} {w h x y : Nat} (hx : x < h) (hy : y < w) : getB (quarterB b w h) x y = getB b y (h - 1 - x) := getB_mk hx hy
theorem getB_mirror {b : Bd} {w h x y : Nat} (hx : x < w) (hy : y < h) : getB (mirrorB b w h) x y = getB b (w - 1 - x) y := getB_mk hx hy
theorem turn_get {b : Bd} {t : Int} {w h : Nat} (h0 : 0 ≤ t) (h8 : t < 8) (sq : t % 2 = 1 → w = h) {x y : Nat} (hx : x < w) (hy : y < h) :
    getB (turnB b t w h).1 x y = getB b (itp x y t w h).1.toNat (itp x y t w h).2.toNat := by
  unfold turnB baseB
  rcases eight h0 h8 with rfl | rfl | rfl | rfl | rfl | rfl | rfl | rfl
  · show getB b x y = _
    simp [itp]
  · have e := sq (by decide)
    subst e
    show getB (quarterB b w w) x y = _
    rw [getB_quarter hx hy]
    simp [itp]
    try (congr 1 <;> omega)
  · show getB (quarterB (quarterB b w h) h w) x y = _
    rw [getB_quarter hx hy, getB_quarter (by omega) (by omega)]
    simp [itp]
    try (congr 1 <;> omega)
  · have e := sq (by decide)
    subst e
    show getB (quarterB (quarterB (quarterB b w w) w w) w w) x y = _
    rw [getB_quarter hx hy, getB_quarter (by omega) (by omega), getB_quarter (by omega) (by omega)]
    simp [itp]
    try (congr 1 <;> omega)
  · show getB (mirrorB b w h) x y = _
    rw [getB_mirror hx hy]
    simp [itp]
    try (congr 1 <;> omega)
  · have e := sq (by decide)
    subst e
    show getB (quarterB (mirrorB b w w) w w) x y = _
    rw [getB_quarter hx hy, getB_mirror (by omega) (by omega)]
    simp [itp]
    try (congr 1 <;> omega)
  · show getB (quarterB (quarterB (mirrorB b w h) w h) h w) x y = _
    rw [getB_quarter hx hy, getB_quarter (by omega) (by omega), getB_mirror (by omega) (by omega)]
    simp [itp]
    try (congr 1 <;> omega)
  · have e := sq (by decide)
    subst e
    show getB (quarterB (quarterB (quarterB (mirrorB b w w) w w) w w) w w) x y = _
    rw [getB_quarter hx hy, getB_quarter (by omega) (by omega), getB_quarter (by omega) (by omega), getB_mirror (by omega) (by omega)]
    simp [itp]
    try (congr 1 <;> omega)
def shiftB (b : Bd) (d : Int × Int × Int) (w h : Nat) : Bd := mkB w h fun x y => getB b (((x : Int) - d.2.1) % w).toNat (((y : Int) - d.2.2) % h).toNat
theorem shift_turn {b : Bd} {d : Int × Int × Int} {w h : Nat} (D : Dim w h) (g : GoodD d w h) : shiftB (turnB b d.1 w h).1 d w h = doneB b d w h := by
  have h1 := D.w1
  have h2 := D.h1
  unfold shiftB doneB
  refine (isB_mk w h _).ext (isB_mk w h _) fun x y hx hy => ?_
  rw [getB_mk hx hy, getB_mk hx hy]
  have b1 : 0 ≤ ((x : Int) - d.2.1) % w := Int.emod_nonneg _ (by omega)
  have b2 : ((x : Int) - d.2.1) % w < w := Int.emod_lt_of_pos _ (by omega)
  have b3 : 0 ≤ ((y : Int) - d.2.2) % h := Int.emod_nonneg _ (by omega)
  have b4 : ((y : Int) - d.2.2) % h < h := Int.emod_lt_of_pos _ (by omega)
  rw [turn_get g.t0 g.t8 g.sq (by omega) (by omega), Int.toNat_of_nonneg b1, Int.toNat_of_nonneg b3]
  rfl
theorem lcg_nonneg {c : Int} {n : Nat} (h : 0 < n) : 0 ≤ lcg c n := by
  cases n with
  | zero => omega
  | succ n => exact Int.emod_nonneg _ (by decide)
end Bk
namespace Bk
open PySem PySem.Spec PyProof.Rows L2
def revD : PyData → PyData
  | .tuple ds => .tuple ds.reverse
  | d => d
theorem mirror_rev {b : Bd} {w h : Nat} (i : IsB b w h) : mirrorB b w h = b.map List.reverse := by
  have ir : IsB (b.map List.reverse) w h := by
    refine ⟨by rw [List.length_map, i.high], fun r hr => ?_⟩
    obtain ⟨s, hs, rfl⟩ := List.mem_map.mp hr
    rw [List.length_reverse, i.wide s hs]
  refine (isB_mk w h _).ext ir fun x y hx hy => ?_
  rw [getB_mk hx hy]
  obtain ⟨r, hr, hl, hc⟩ := i.cell (x := w - 1 - x) (by omega) hy
  obtain ⟨r', hr', _, hc'⟩ := ir.cell hx hy
  rw [List.getElem?_map, hr] at hr'
  cases hr'
  rw [List.getElem?_reverse (by omega), hl, hc] at hc'
  exact Option.some.inj hc'
theorem rows_rev (b : Bd) : (b.map rowD).map revD = (b.map List.reverse).map rowD := by
  rw [List.map_map, List.map_map]
  refine List.map_congr_left fun r _ => ?_
  show PyData.tuple (r.map .int).reverse = PyData.tuple (r.reverse.map .int)
  rw [List.map_reverse]
end Bk

namespace Bk
open PySem PySem.Spec PyProof.Rows L2
/-! ### the law's own def, and what the top has written -/
structure Ltx (K : PySem.W.Frag) (mg : Str → Option Value) (st : Stmt) : Prop where
  ex : ∃ f fd, Fun K "law" "law" st f fd ∧ mg "law" = some (.ref f) ∧ ∀ (s : Shared) (u : Value), BindsTo s fd ⟨[u], []⟩ [("script", u)]
section
variable {K : PySem.W.Frag} {h : Heap} {mg : Str → Option Value} {f : Addr} {oc : Value} {od an : Option Addr} {osl : Array (Option Value)} {kV doc pm cdv ct : Value} {x : Str} {st : Stmt} {ps : List Str}
theorem dtx_mk (X : K.In h) (G : h.Ns mainGlobals mg) (a : PySem.W.nsIn K mainGlobals x = some (some (.ref f))) (l : K.lookup f = some ⟨oc, od, .func (PySem.W.fnOf x x (defArgs st) (defBody st) (defScope st) .none kV doc pm an cdv ct), osl⟩)
    (c : PySem.W.codeIn K cdv x = true) (k : PySem.W.keepIn K (.ref f) = true)
    (hb : ∀ (kV doc pm : Value) (an : Option Addr) (cdv ct : Value) (us : List Value), us.length = ps.length → bindArgs (PySem.W.fnOf x x (defArgs st) (defBody st) (defScope st) .none kV doc pm an cdv ct) ⟨us, []⟩ = pure (ps.zip us)) : Dtx K mg x st ps :=
  have F := fun_mk l c k
  ⟨f, _, F, PySem.W.mg_of X G a, F.binds hb⟩
theorem ltx_mk (X : K.In h) (G : h.Ns mainGlobals mg) (a : PySem.W.nsIn K mainGlobals "law" = some (some (.ref f))) (l : K.lookup f = some ⟨oc, od, .func (PySem.W.fnOf "law" "law" (defArgs st) (defBody st) (defScope st) .none kV doc pm an cdv ct), osl⟩)
    (c : PySem.W.codeIn K cdv "law" = true) (k : PySem.W.keepIn K (.ref f) = true)
    (hb : ∀ (kV doc pm : Value) (an : Option Addr) (cdv ct : Value) (s : Shared) (u : Value), BindsTo s (PySem.W.fnOf "law" "law" (defArgs st) (defBody st) (defScope st) .none kV doc pm an cdv ct) ⟨[u], []⟩ [("script", u)]) : Ltx K mg st :=
  ⟨f, _, fun_mk l c k, PySem.W.mg_of X G a, hb kV doc pm an cdv ct⟩
end
/-- what a law asks: handed a list of at most 63 whole numbers, True -/
def spLaw (K : PySem.W.Frag) : Sp := fun vs H Q _ => ∃ (a : Addr) (ns : List Int), vs = [.ref a] ∧ SqL K H a (ns.map V.int) ∧ ns.length ≤ 63 ∧ ∀ H', Q (.bl true) H'
/-- a remainder as a natural number -/
theorem mod_nat (c : Int) {m : Int} (hm : 0 < m) : ∃ k : Nat, c % m = (k : Int) ∧ (k : Int) < m :=
  ⟨(c % m).toNat, (Int.toNat_of_nonneg (Int.emod_nonneg _ (by omega))).symm, by rw [Int.toNat_of_nonneg (Int.emod_nonneg _ (by omega))]; exact Int.emod_lt_of_pos _ hm⟩
end Bk

namespace Bk
open PySem PySem.Spec PyProof.Rows L2
/-! ### deeds one behind the other -/
def sturn (s t : Int) : Int := if t < 4 ∧ s < 4 then (s + t) % 4 else if t < 4 then 4 + (s + t) % 4 else if s < 4 then 4 + (t - s) % 4 else (t - s) % 4
theorem sturn_rng {s t : Int} : 0 ≤ sturn s t ∧ sturn s t < 8 := by
  unfold sturn
  split
  · omega
  · split
    · omega
    · split <;> omega
theorem sturn_odd {s t : Int} (hs : 0 ≤ s) (hs8 : s < 8) (ht : 0 ≤ t) (ht8 : t < 8) : sturn s t % 2 = (s + t) % 2 := by
  unfold sturn
  split
  · omega
  · split
    · omega
    · split <;> omega
/-- the linear part of a turning -/
def lin (p : Int × Int) (t : Int) : Int × Int :=
  if t = 0 then (p.1, p.2) else if t = 1 then (-p.2, p.1) else if t = 2 then (-p.1, -p.2) else if t = 3 then (p.2, -p.1)
  else if t = 4 then (-p.1, p.2) else if t = 5 then (-p.2, -p.1) else if t = 6 then (p.1, -p.2) else (p.2, p.1)
theorem tpl_add {x y a b t w h : Int} (h0 : 0 ≤ t) (h8 : t < 8) : tpl (x + a, y + b) t w h = ((tpl (x, y) t w h).1 + (lin (a, b) t).1, (tpl (x, y) t w h).2 + (lin (a, b) t).2) := by
  rcases eight h0 h8 with rfl | rfl | rfl | rfl | rfl | rfl | rfl | rfl <;> simp [tpl0, tpl1, tpl2, tpl3, tpl4, tpl5, tpl6, tpl7, lin] <;> omega
theorem tpl_tpl {x y s t w h : Int} (hs0 : 0 ≤ s) (hs8 : s < 8) (h0 : 0 ≤ t) (h8 : t < 8) (e1 : s % 2 = 1 → w = h) (e2 : t % 2 = 1 → w = h) : tpl (tpl (x, y) s w h) t w h = tpl (x, y) (sturn s t) w h := by
  rcases eight hs0 hs8 with rfl | rfl | rfl | rfl | rfl | rfl | rfl | rfl <;> rcases eight h0 h8 with rfl | rfl | rfl | rfl | rfl | rfl | rfl | rfl <;>
    (try have z := e1 (by decide)) <;> (try have z := e2 (by decide)) <;> simp [sturn, tpl0, tpl1, tpl2, tpl3, tpl4, tpl5, tpl6, tpl7] <;> omega
/-- alike but for whole rounds -/
def Cg (w h : Int) (p q : Int × Int) : Prop := w ∣ p.1 - q.1 ∧ h ∣ p.2 - q.2
theorem Cg.refl {w h : Int} (p : Int × Int) : Cg w h p p := ⟨by rw [Int.sub_self]; exact Int.dvd_zero _, by rw [Int.sub_self]; exact Int.dvd_zero _⟩
theorem Cg.symm {w h : Int} {p q : Int × Int} (c : Cg w h p q) : Cg w h q p :=
  ⟨by have e : q.1 - p.1 = -(p.1 - q.1) := by omega
      rw [e]; exact Int.dvd_neg.mpr c.1, by
      have e : q.2 - p.2 = -(p.2 - q.2) := by omega
      rw [e]; exact Int.dvd_neg.mpr c.2⟩
theorem Cg.trans {w h : Int} {p q r : Int × Int} (a : Cg w h p q) (b : Cg w h q r) : Cg w h p r :=
  ⟨by have e : p.1 - r.1 = (p.1 - q.1) + (q.1 - r.1) := by omega
      rw [e]; exact Int.dvd_add a.1 b.1, by
      have e : p.2 - r.2 = (p.2 - q.2) + (q.2 - r.2) := by omega
      rw [e]; exact Int.dvd_add a.2 b.2⟩
theorem Cg.add {w h : Int} {p q : Int × Int} (a : Cg w h p q) (s : Int × Int) : Cg w h (p.1 + s.1, p.2 + s.2) (q.1 + s.1, q.2 + s.2) :=
  ⟨by have e : p.1 + s.1 - (q.1 + s.1) = p.1 - q.1 := by omega
      show w ∣ p.1 + s.1 - (q.1 + s.1)
      rw [e]; exact a.1, by
      have e : p.2 + s.2 - (q.2 + s.2) = p.2 - q.2 := by omega
      show h ∣ p.2 + s.2 - (q.2 + s.2)
      rw [e]; exact a.2⟩
theorem mod_eq {a b w : Int} (hw : 0 < w) (c : w ∣ a - b) (a0 : 0 ≤ a) (aw : a < w) (b0 : 0 ≤ b) (bw : b < w) : a = b := by
  obtain ⟨k, e⟩ := c
  have h1 : (a - b) % w = 0 := by rw [e]; exact Int.mul_emod_right w k
  have h2 : a % w = b % w := Int.emod_eq_emod_iff_emod_sub_eq_zero.mpr h1
  rw [Int.emod_eq_of_lt a0 aw, Int.emod_eq_of_lt b0 bw] at h2
  exact h2
theorem Cg.eq {w h : Int} {p q : Int × Int} (hw : 0 < w) (hh : 0 < h) (c : Cg w h p q) (ip : InB p w h) (iq : InB q w h) : p = q :=
  Prod.ext (mod_eq hw c.1 ip.1 ip.2.1 iq.1 iq.2.1) (mod_eq hh c.2 ip.2.2.1 ip.2.2.2 iq.2.2.1 iq.2.2.2)
theorem dvd_mod (a w : Int) : w ∣ a % w - a := by
  refine ⟨-(a / w), ?_⟩
  have e := Int.emod_add_mul_ediv a w
  rw [Int.mul_neg]
  omega
theorem led_cg {p : Int × Int} {d : Int × Int × Int} {w h : Int} : Cg w h (ledI p d w h) ((tpl p d.1 w h).1 + d.2.1, (tpl p d.1 w h).2 + d.2.2) := ⟨dvd_mod _ _, dvd_mod _ _⟩
theorem tpl_cg {p q : Int × Int} {t w h : Int} (h0 : 0 ≤ t) (h8 : t < 8) (sq : t % 2 = 1 → w = h) (c : Cg w h p q) : Cg w h (tpl p t w h) (tpl q t w h) := by
  obtain ⟨x, y⟩ := p
  obtain ⟨u, v⟩ := q
  obtain ⟨c1, c2⟩ := c
  have c1 : w ∣ x - u := c1
  have c2 : h ∣ y - v := c2
  have n1 : w ∣ u - x := by
    have e : u - x = -(x - u) := by omega
    rw [e]; exact Int.dvd_neg.mpr c1
  have n2 : h ∣ v - y := by
    have e : v - y = -(y - v) := by omega
    rw [e]; exact Int.dvd_neg.mpr c2
  rcases eight h0 h8 with rfl | rfl | rfl | rfl | rfl | rfl | rfl | rfl <;> simp only [tpl0, tpl1, tpl2, tpl3, tpl4, tpl5, tpl6, tpl7]
  · exact ⟨c1, c2⟩
  · have e := sq (by decide)
    subst e
    exact ⟨by show w ∣ w - 1 - y - (w - 1 - v); rw [show w - 1 - y - (w - 1 - v) = v - y by omega]; exact n2, c1⟩
  · exact ⟨by show w ∣ w - 1 - x - (w - 1 - u); rw [show w - 1 - x - (w - 1 - u) = u - x by omega]; exact n1, by show h ∣ h - 1 - y - (h - 1 - v); rw [show h - 1 - y - (h - 1 - v) = v - y by omega]; exact n2⟩
  · have e := sq (by decide)
    subst e
    exact ⟨by show w ∣ w - 1 - (w - 1 - y) - (w - 1 - (w - 1 - v)); rw [show w - 1 - (w - 1 - y) - (w - 1 - (w - 1 - v)) = y - v by omega]; exact c2, by show w ∣ w - 1 - x - (w - 1 - u); rw [show w - 1 - x - (w - 1 - u) = u - x by omega]; exact n1⟩
  · exact ⟨by show w ∣ w - 1 - x - (w - 1 - u); rw [show w - 1 - x - (w - 1 - u) = u - x by omega]; exact n1, c2⟩
  · have e := sq (by decide)
    subst e
    exact ⟨by show w ∣ w - 1 - y - (w - 1 - v); rw [show w - 1 - y - (w - 1 - v) = v - y by omega]; exact n2, by show w ∣ w - 1 - x - (w - 1 - u); rw [show w - 1 - x - (w - 1 - u) = u - x by omega]; exact n1⟩
  · exact ⟨by show w ∣ w - 1 - (w - 1 - x) - (w - 1 - (w - 1 - u)); rw [show w - 1 - (w - 1 - x) - (w - 1 - (w - 1 - u)) = x - u by omega]; exact c1, by show h ∣ h - 1 - y - (h - 1 - v); rw [show h - 1 - y - (h - 1 - v) = v - y by omega]; exact n2⟩
  · have e := sq (by decide)
    subst e
    exact ⟨by show w ∣ w - 1 - (w - 1 - y) - (w - 1 - (w - 1 - v)); rw [show w - 1 - (w - 1 - y) - (w - 1 - (w - 1 - v)) = y - v by omega]; exact c2, by show w ∣ w - 1 - (w - 1 - x) - (w - 1 - (w - 1 - u)); rw [show w - 1 - (w - 1 - x) - (w - 1 - (w - 1 - u)) = x - u by omega]; exact c1⟩
/-- two deeds in a row: a turning and a shift -/
theorem led_led {p : Int × Int} {d e : Int × Int × Int} {w h : Nat} (D : Dim w h) (gd : GoodD d w h) (ge : GoodD e w h) :
    Cg w h (ledI (ledI p d w h) e w h) ((tpl p (sturn d.1 e.1) w h).1 + ((lin d.2 e.1).1 + e.2.1), (tpl p (sturn d.1 e.1) w h).2 + ((lin d.2 e.1).2 + e.2.2)) := by
  have sqd : d.1 % 2 = 1 → (w : Int) = h := fun z => by rw [gd.sq z]
  have sqe : e.1 % 2 = 1 → (w : Int) = h := fun z => by rw [ge.sq z]
  refine led_cg.trans ?_
  have c1 := (tpl_cg ge.t0 ge.t8 sqe (led_cg (p := p) (d := d) (w := w) (h := h))).add e.2
  refine c1.trans ?_
  rw [tpl_add ge.t0 ge.t8]
  obtain ⟨x, y⟩ := p
  have tt := tpl_tpl (x := x) (y := y) gd.t0 gd.t8 ge.t0 ge.t8 sqd sqe
  have e3 : tpl ((tpl (x, y) d.1 w h).1, (tpl (x, y) d.1 w h).2) e.1 w h = tpl (x, y) (sturn d.1 e.1) w h := tt
  rw [e3, Int.add_assoc, Int.add_assoc]
  exact Cg.refl _
def bhd (d e : Int × Int × Int) (w h : Int) : Int × Int × Int :=
  (sturn d.1 e.1, ((ledI (ledI (0, 0) d w h) e w h).1 - (tpl (0, 0) (sturn d.1 e.1) w h).1) % w, ((ledI (ledI (0, 0) d w h) e w h).2 - (tpl (0, 0) (sturn d.1 e.1) w h).2) % h)
theorem good_bhd {d e : Int × Int × Int} {w h : Nat} (D : Dim w h) (gd : GoodD d w h) (ge : GoodD e w h) : GoodD (bhd d e w h) w h := by
  have h1 := D.w1
  have h2 := D.h1
  refine ⟨sturn_rng.1, sturn_rng.2, Int.emod_nonneg _ (by omega), Int.emod_lt_of_pos _ (by omega), Int.emod_nonneg _ (by omega), Int.emod_lt_of_pos _ (by omega), fun z => ?_⟩
  have z : sturn d.1 e.1 % 2 = 1 := z
  rw [sturn_odd gd.t0 gd.t8 ge.t0 ge.t8] at z
  by_cases q : d.1 % 2 = 1
  · exact gd.sq q
  · exact ge.sq (by omega)
theorem led_bhd {p : Int × Int} {d e : Int × Int × Int} {w h : Nat} (D : Dim w h) (gd : GoodD d w h) (ge : GoodD e w h) : ledI p (bhd d e w h) w h = ledI (ledI p d w h) e w h := by
  have h1 := D.w1
  have h2 := D.h1
  refine Cg.eq (w := w) (h := h) (by omega) (by omega) ?_ (ledI_in (by omega) (by omega)) (ledI_in (by omega) (by omega))
  refine led_cg.trans (Cg.trans ?_ (led_led (p := p) D gd ge).symm)
  have c0 := led_led (p := (0, 0)) D gd ge
  -- the shift of the one deed is the shift of the two
  have k1 : (w : Int) ∣ (bhd d e w h).2.1 - ((lin d.2 e.1).1 + e.2.1) := by
    have z := Int.dvd_add (dvd_mod ((ledI (ledI (0, 0) d w h) e w h).1 - (tpl (0, 0) (sturn d.1 e.1) w h).1) w) c0.1
    have e1 : (bhd d e w h).2.1 = ((ledI (ledI (0, 0) d w h) e w h).1 - (tpl (0, 0) (sturn d.1 e.1) w h).1) % w := rfl
    rw [e1]
    refine (congrArg ((w : Int) ∣ ·) ?_).mp z
    simp only
    omega
  have k2 : (h : Int) ∣ (bhd d e w h).2.2 - ((lin d.2 e.1).2 + e.2.2) := by
    have z := Int.dvd_add (dvd_mod ((ledI (ledI (0, 0) d w h) e w h).2 - (tpl (0, 0) (sturn d.1 e.1) w h).2) h) c0.2
    have e1 : (bhd d e w h).2.2 = ((ledI (ledI (0, 0) d w h) e w h).2 - (tpl (0, 0) (sturn d.1 e.1) w h).2) % h := rfl
    rw [e1]
    refine (congrArg ((h : Int) ∣ ·) ?_).mp z
    simp only
    omega
  have t1 : (bhd d e w h).1 = sturn d.1 e.1 := rfl
  rw [t1]
  generalize (bhd d e w h).2.1 = a at k1 ⊢
  generalize (bhd d e w h).2.2 = b at k2 ⊢
  refine ⟨?_, ?_⟩
  · show (w : Int) ∣ (tpl p (sturn d.1 e.1) w h).1 + a - ((tpl p (sturn d.1 e.1) w h).1 + ((lin d.2 e.1).1 + e.2.1))
    rw [show (tpl p (sturn d.1 e.1) w h).1 + a - ((tpl p (sturn d.1 e.1) w h).1 + ((lin d.2 e.1).1 + e.2.1)) = a - ((lin d.2 e.1).1 + e.2.1) by omega]
    exact k1
  · show (h : Int) ∣ (tpl p (sturn d.1 e.1) w h).2 + b - ((tpl p (sturn d.1 e.1) w h).2 + ((lin d.2 e.1).2 + e.2.2))
    rw [show (tpl p (sturn d.1 e.1) w h).2 + b - ((tpl p (sturn d.1 e.1) w h).2 + ((lin d.2 e.1).2 + e.2.2)) = b - ((lin d.2 e.1).2 + e.2.2) by omega]
    exact k2
/-- a deed is told by its turning and where it leads the first cell -/
theorem deed_ext {d e : Int × Int × Int} {w h : Nat} (D : Dim w h) (gd : GoodD d w h) (ge : GoodD e w h) (ht : d.1 = e.1) (hl : ledI (0, 0) d w h = ledI (0, 0) e w h) : d = e := by
  have h1 := D.w1
  have h2 := D.h1
  have c := (led_cg (p := (0, 0)) (d := d) (w := w) (h := h)).symm.trans (by rw [hl]; exact led_cg (p := (0, 0)) (d := e) (w := w) (h := h))
  obtain ⟨c1, c2⟩ := c
  simp only at c1 c2
  rw [ht] at c1 c2
  have e1 : d.2.1 = e.2.1 := mod_eq (w := w) (by omega) (by rw [show d.2.1 - e.2.1 = (tpl (0, 0) e.1 w h).1 + d.2.1 - ((tpl (0, 0) e.1 w h).1 + e.2.1) by omega]; exact c1) gd.a0 gd.aw ge.a0 ge.aw
  have e2 : d.2.2 = e.2.2 := mod_eq (w := h) (by omega) (by rw [show d.2.2 - e.2.2 = (tpl (0, 0) e.1 w h).2 + d.2.2 - ((tpl (0, 0) e.1 w h).2 + e.2.2) by omega]; exact c2) gd.b0 gd.bh ge.b0 ge.bh
  exact Prod.ext ht (Prod.ext e1 e2)
def noneD : Int × Int × Int := (0, 0, 0)
theorem good_none {w h : Nat} (D : Dim w h) : GoodD noneD w h := by
  have h1 := D.w1
  have h2 := D.h1
  exact ⟨by decide, by decide, by decide, (by show (0 : Int) < w; omega), by decide, (by show (0 : Int) < h; omega), fun z => absurd z (by decide)⟩
theorem led_none {p : Int × Int} {w h : Int} (i : InB p w h) : ledI p noneD w h = p := by
  obtain ⟨x, y⟩ := p
  show ((x + 0) % w, (y + 0) % h) = (x, y)
  rw [Int.add_zero, Int.add_zero, Int.emod_eq_of_lt i.1 i.2.1, Int.emod_eq_of_lt i.2.2.1 i.2.2.2]
theorem sturn_assoc {r s t : Int} (hr0 : 0 ≤ r) (hr8 : r < 8) (hs0 : 0 ≤ s) (hs8 : s < 8) (h0 : 0 ≤ t) (h8 : t < 8) : sturn (sturn r s) t = sturn r (sturn s t) := by
  have all : ∀ a ∈ ([0, 1, 2, 3, 4, 5, 6, 7] : List Int), ∀ b ∈ ([0, 1, 2, 3, 4, 5, 6, 7] : List Int), ∀ c ∈ ([0, 1, 2, 3, 4, 5, 6, 7] : List Int), sturn (sturn a b) c = sturn a (sturn b c) := by decide +kernel
  have m : ∀ {z : Int}, 0 ≤ z → z < 8 → z ∈ ([0, 1, 2, 3, 4, 5, 6, 7] : List Int) := fun {z} a b => by
    rcases eight a b with rfl | rfl | rfl | rfl | rfl | rfl | rfl | rfl <;> decide
  exact all r (m hr0 hr8) s (m hs0 hs8) t (m h0 h8)
theorem bhd_assoc {d e f : Int × Int × Int} {w h : Nat} (D : Dim w h) (gd : GoodD d w h) (ge : GoodD e w h) (gf : GoodD f w h) : bhd (bhd d e w h) f w h = bhd d (bhd e f w h) w h := by
  have g1 := good_bhd D gd ge
  have g2 := good_bhd D ge gf
  refine deed_ext D (good_bhd D g1 gf) (good_bhd D gd g2) (sturn_assoc gd.t0 gd.t8 ge.t0 ge.t8 gf.t0 gf.t8) ?_
  rw [led_bhd D g1 gf, led_bhd D gd ge, led_bhd D gd g2, led_bhd D ge gf]
def uturn (t : Int) : Int := if t < 4 then (4 - t) % 4 else t
def und (d : Int × Int × Int) (w h : Int) : Int × Int × Int := (uturn d.1, (0 - (tpl (ledI (0, 0) d w h) (uturn d.1) w h).1) % w, (0 - (tpl (ledI (0, 0) d w h) (uturn d.1) w h).2) % h)
theorem uturn_rng {t : Int} (h0 : 0 ≤ t) (h8 : t < 8) : 0 ≤ uturn t ∧ uturn t < 8 := by
  unfold uturn
  split <;> omega
theorem sturn_uturn {t : Int} (h0 : 0 ≤ t) (h8 : t < 8) : sturn t (uturn t) = 0 ∧ sturn (uturn t) t = 0 := by
  rcases eight h0 h8 with rfl | rfl | rfl | rfl | rfl | rfl | rfl | rfl <;> decide
theorem good_und {d : Int × Int × Int} {w h : Nat} (D : Dim w h) (gd : GoodD d w h) : GoodD (und d w h) w h := by
  have h1 := D.w1
  have h2 := D.h1
  obtain ⟨u0, u8⟩ := uturn_rng gd.t0 gd.t8
  refine ⟨u0, u8, Int.emod_nonneg _ (by omega), Int.emod_lt_of_pos _ (by omega), Int.emod_nonneg _ (by omega), Int.emod_lt_of_pos _ (by omega), fun z => gd.sq ?_⟩
  have z : uturn d.1 % 2 = 1 := z
  have h0 := gd.t0
  unfold uturn at z
  split at z <;> omega
theorem led_und0 {d : Int × Int × Int} {w h : Nat} (D : Dim w h) (gd : GoodD d w h) : ledI (ledI (0, 0) d w h) (und d w h) w h = (0, 0) := by
  have h1 := D.w1
  have h2 := D.h1
  have e : ∀ a m : Int, (a + (0 - a) % m) % m = 0 := fun a m => by
    rw [Int.add_emod, Int.emod_emod_of_dvd _ (Int.dvd_refl m), ← Int.add_emod, show a + (0 - a) = 0 by omega, Int.zero_emod]
  show (((tpl (ledI (0, 0) d w h) (uturn d.1) w h).1 + (0 - (tpl (ledI (0, 0) d w h) (uturn d.1) w h).1) % w) % w, ((tpl (ledI (0, 0) d w h) (uturn d.1) w h).2 + (0 - (tpl (ledI (0, 0) d w h) (uturn d.1) w h).2) % h) % h) = (0, 0)
  rw [e, e]
theorem in00 {w h : Nat} (D : Dim w h) : InB (0, 0) w h := by
  have h1 := D.w1
  have h2 := D.h1
  exact ⟨by decide, (by show (0 : Int) < w; omega), by decide, (by show (0 : Int) < h; omega)⟩
theorem bhd_und {d : Int × Int × Int} {w h : Nat} (D : Dim w h) (gd : GoodD d w h) : bhd d (und d w h) w h = noneD := by
  have gu := good_und D gd
  refine deed_ext D (good_bhd D gd gu) (good_none D) (sturn_uturn gd.t0 gd.t8).1 ?_
  rw [led_bhd D gd gu, led_und0 D gd, led_none (in00 D)]
theorem led_und {p : Int × Int} {d : Int × Int × Int} {w h : Nat} (D : Dim w h) (gd : GoodD d w h) (i : InB p w h) : ledI (ledI p d w h) (und d w h) w h = p := by
  rw [← led_bhd D gd (good_und D gd), bhd_und D gd, led_none i]
theorem und_led {p : Int × Int} {d : Int × Int × Int} {w h : Nat} (D : Dim w h) (gd : GoodD d w h) (i : InB p w h) : ledI (ledI p (und d w h) w h) d w h = p := by
  have z := ledI_iled gd i
  have y := led_und D gd (iled_in (p := p) D gd)
  rw [z] at y
  rw [y, z]
theorem und_bhd {d : Int × Int × Int} {w h : Nat} (D : Dim w h) (gd : GoodD d w h) : bhd (und d w h) d w h = noneD := by
  have gu := good_und D gd
  refine deed_ext D (good_bhd D gu gd) (good_none D) (sturn_uturn gd.t0 gd.t8).2 ?_
  rw [led_bhd D gu gd, und_led D gd (in00 D), led_none (in00 D)]
/-! ### boards behind two deeds -/
theorem done_done {b : Bd} {d e : Int × Int × Int} {w h : Nat} (D : Dim w h) (gd : GoodD d w h) (ge : GoodD e w h) : doneB (doneB b d w h) e w h = doneB b (bhd d e w h) w h := by
  have h1 := D.w1
  have h2 := D.h1
  have g := good_bhd D gd ge
  refine (isB_done _ e w h).ext (isB_done b _ w h) fun X Y hX hY => ?_
  have i := iled_in (p := ((X : Int), (Y : Int))) D g
  have z := ledI_iled g (inB_nat hX hY)
  generalize hp : iled ((X : Int), (Y : Int)) (bhd d e w h) w h = p at i z
  have pn := pair_toNat i
  obtain ⟨i1, i2, i3, i4⟩ := i
  have z2 := z
  rw [led_bhd D gd ge] at z2
  have r := getB_done (b := b) D g (x := p.1.toNat) (y := p.2.toNat) (by omega) (by omega)
  rw [pn, z] at r
  have iq := ledI_in (p := p) (d := d) (w := w) (h := h) (by omega) (by omega)
  have qn := pair_toNat iq
  have l1 := getB_done (b := b) D gd (x := p.1.toNat) (y := p.2.toNat) (by omega) (by omega)
  rw [pn] at l1
  have l2 := getB_done (b := doneB b d w h) D ge (x := (ledI p d w h).1.toNat) (y := (ledI p d w h).2.toNat) (by have := iq.1; have := iq.2.1; omega) (by have := iq.2.2.1; have := iq.2.2.2; omega)
  rw [qn, z2, l1] at l2
  simp only [Int.toNat_natCast] at l2 r
  rw [l2, r]
theorem done_none {b : Bd} {w h : Nat} (D : Dim w h) (i : IsB b w h) : doneB b noneD w h = b := by
  refine (isB_done b _ w h).ext i fun x y hx hy => ?_
  have z := getB_done (b := b) D (good_none D) hx hy
  rw [led_none (inB_nat hx hy)] at z
  simpa using z
end Bk
namespace Bk
open PySem PySem.Spec PyProof.Rows L2
section
variable {K : PySem.W.Frag} {σ : L2.St} {H : Hp} {ta tb tc : TE} {d : PyData}
theorem evd_chainLeLt {i j k : Int} (ha : EvD ta σ H (.int i)) (hb : EvD tb σ H (.int j)) (hc : EvD tc σ H (.int k)) :
    EvD (tChain (rI0 fun i j => .bl (decide (i ≤ j))) (rI0 fun i j => .bl (decide (i < j))) ta tb tc) σ H (.bool (decide (i ≤ j) && decide (j < k))) := fun H1 s Q q =>
  ha H1 s _ fun x H2 s2 i2 => hb H2 (s.trans s2) _ fun y H3 s3 i3 => ⟨i, j, i2.intv, i3.intv, decide (i ≤ j), rfl, by
    generalize decide (i ≤ j) = c at q ⊢
    cases c with
    | true =>
      show tc σ H3 _
      exact hc H3 ((s.trans s2).trans s3) _ fun z H4 s4 i4 => ⟨j, k, i3.intv, i4.intv, q _ H4 ((s2.trans s3).trans s4) (.bl _)⟩
    | false =>
      show Q (.bl false) H3
      exact q _ H3 (s2.trans s3) (.bl _)⟩
theorem evd_ixN {ds : List PyData} {i : Int} (ha : EvN ta σ H ds) (hb : EvD tb σ H (.int i)) (hi : atI ds i = some d) : EvD (tOp (rIx K) ta tb) σ H d := fun H1 s Q q =>
  ha H1 s _ fun p xs H2 s2 _ e im => hb H2 (s.trans s2) _ fun y H3 s3 i3 => by
    obtain ⟨j, _, h2, h3⟩ := atI_len im.len hi
    obtain ⟨v, hv, iv⟩ := im.get h2
    exact .inl ⟨p, xs, i, v, rfl, i3.intv, SqL.of (s3 _ _ e), h3 v hv, q v H3 (s2.trans s3) (iv.sm s3)⟩
end
def nine : Bd := [[0, 1, 2], [3, 4, 5], [6, 7, 8]]
theorem eqv_deed (d e : Int × Int × Int) : PyData.eqv (deedD d) (deedD e) = decide (d = e) := by
  obtain ⟨a, b, c⟩ := d
  obtain ⟨x, y, z⟩ := e
  show ((a == x) && ((b == y) && ((c == z) && true))) = _
  rw [Bool.and_true, Bool.beq_eq_decide_eq, Bool.beq_eq_decide_eq, Bool.beq_eq_decide_eq, ← Bool.decide_and, ← Bool.decide_and]
  exact decide_eq_decide.mpr ⟨fun h => by rw [h.1, h.2.1, h.2.2], fun h => by injection h with h1 h2; injection h2 with h2 h3; exact ⟨h1, h2, h3⟩⟩
theorem shaped_deed (d : Int × Int × Int) : SeqAt.shaped (deedD d) = true := shaped_ints [d.1, d.2.1, d.2.2]
theorem mem8 {z : Int} (a : 0 ≤ z) (b : z < 8) : z ∈ ([0, 1, 2, 3, 4, 5, 6, 7] : List Int) := by
  rcases eight a b with rfl | rfl | rfl | rfl | rfl | rfl | rfl | rfl <;> decide
theorem turning_only {s t : Int} (hs0 : 0 ≤ s) (hs8 : s < 8) (h0 : 0 ≤ t) (h8 : t < 8) :
    ([0, 1, 2, 3, 4, 5, 6, 7] : List Int).filter (fun z => decide (doneB nine (z, 0, 0) 3 3 = doneB (doneB nine (s, 0, 0) 3 3) (t, 0, 0) 3 3)) = [sturn s t] := by
  have all : ∀ s ∈ ([0, 1, 2, 3, 4, 5, 6, 7] : List Int), ∀ t ∈ ([0, 1, 2, 3, 4, 5, 6, 7] : List Int),
    ([0, 1, 2, 3, 4, 5, 6, 7] : List Int).filter (fun z => decide (doneB nine (z, 0, 0) 3 3 = doneB (doneB nine (s, 0, 0) 3 3) (t, 0, 0) 3 3)) = [sturn s t] := by decide +kernel
  exact all s (mem8 hs0 hs8) t (mem8 h0 h8)
theorem good3 {t : Int} (h0 : 0 ≤ t) (h8 : t < 8) : GoodD (t, 0, 0) 3 3 := ⟨h0, h8, Int.le_refl 0, (by show (0 : Int) < 3; decide), Int.le_refl 0, (by show (0 : Int) < 3; decide), fun _ => rfl⟩
theorem dim3 : Dim 3 3 := ⟨by decide, by decide, by decide, by decide⟩
theorem isB_nine : IsB nine 3 3 := ⟨rfl, by decide⟩
end Bk

namespace Bk
open PySem PySem.Spec PyProof.Rows L2
theorem s_gn {i : Nat} {v : V} {σ : L2.St} {H : Hp} {k : L2.St → Hp → Prop} (h : k (σ.set i (some v)) H) : gName i v σ H k := h
/-! ### comprehensions over things that data stand for -/
section
variable {σ : L2.St} {H : Hp} {te : TE} {β : Type}
theorem EvI.m {wi : TI} {g : β → PyData} {bs : List β} (h : EvI wi σ H (bs.map g)) : EvIR (fun H v b => Im H v (g b)) wi σ H bs := fun H1 s k q =>
  h H1 s k fun J H2 vs s2 im gv => q J H2 vs s2 (im.len.trans (List.length_map _)) (fun i v b h1 h2 => by
    obtain ⟨d, hd, imd⟩ := im.getv h1
    rw [List.getElem?_map, h2] at hd
    cases hd
    exact imd) gv
theorem evn_lcMIf {wi : TI} {k : Nat} {tt : TT} {g : β → PyData} {bs : List β} (hi : EvI wi σ H (bs.map g)) (p : β → Bool) (f : β → PyData)
    (ht : ∀ (b : β) v H', b ∈ bs → Same H H' → Im H' v (g b) → EvT tt (σ.set k (some v)) H' (p b))
    (he : ∀ (b : β) v H', b ∈ bs → p b = true → Same H H' → Im H' v (g b) → EvD te (σ.set k (some v)) H' (f b)) (hl : bs.length ≤ 100000) : EvN (tLc wi (gName k) tt te [k]) σ H ((bs.filter p).map f) :=
  evn_lcG (R := fun H v b => Im H v (g b)) (fun _ _ _ _ s i => i.sm s) hi.m p f ht he hl
theorem evn_lcM {wi : TI} {k : Nat} {g : β → PyData} {bs : List β} (hi : EvI wi σ H (bs.map g)) (f : β → PyData)
    (he : ∀ (b : β) v H', b ∈ bs → Same H H' → Im H' v (g b) → EvD te (σ.set k (some v)) H' (f b)) (hl : bs.length ≤ 100000) : EvN (tLc wi (gName k) tYes te [k]) σ H (bs.map f) := by
  have h := evn_lcMIf (te := te) (k := k) (tt := tYes) hi (fun _ => true) f (fun _ _ _ _ _ _ => evt_yes) (fun b v H' hm _ s im => he b v H' hm s im) hl
  have e : bs.filter (fun _ => true) = bs := List.filter_eq_self.mpr fun _ _ => rfl
  rw [e] at h
  exact h
end
section
variable {K : PySem.W.Frag} {σ : L2.St} {H : Hp} {g : TG} {tb : TS} {D : Ends} {te : TE} {β : Type} {f : β → PyData} {bs : List β}
theorem getElem?_mapv {i : Nat} {d : PyData} (h : (bs.map f)[i]? = some d) : ∃ b, bs[i]? = some b ∧ d = f b := by
  rw [List.getElem?_map] at h
  cases e : bs[i]? with
  | none => rw [e] at h; cases h
  | some b => rw [e] at h; cases h; exact ⟨b, rfl, rfl⟩
/-- for over a tuple that stands for things -/
theorem s_forTM (h : EvD te σ H (.tuple (bs.map f))) (Pv : Hp → Nat → L2.St → Hp → Prop) (h0 : ∀ H1, Same H H1 → Pv H1 0 σ H1) (hk : ∀ H1 i σ2 H2, Pv H1 i σ2 H2 → Tk H1 H2)
    (hs : ∀ H1 i b x σ2 H2, Same H H1 → bs[i]? = some b → Im H2 x (f b) → Pv H1 i σ2 H2 → g x σ2 H2 fun σ3 H3 => tb { D with nx := Pv H1 (i + 1), ct := Pv H1 (i + 1), bk := D.nx } σ3 H3)
    (hd : ∀ H1 σ2 H2, Same H H1 → Pv H1 bs.length σ2 H2 → D.nx σ2 H2) : tFor (iTup K te) g tb D σ H :=
  s_forT h Pv h0 hk (fun H1 i d x σ2 H2 s e im p => by
    obtain ⟨b, eb, rfl⟩ := getElem?_mapv e
    exact hs H1 i b x σ2 H2 s eb im p) fun H1 σ2 H2 s p => hd H1 σ2 H2 s (by rw [List.length_map] at p; exact p)
end
end Bk

namespace Bk
open PySem PySem.Spec PyProof.Rows L2 SX
/-! ### texts -/
def strD (l : List Nat) : PyData := .str (S l)
theorem ImAll.strs {H : Hp} : ∀ {vs : List V} {ys : List Str}, ImAll H vs (ys.map .str) → vs = ys.map V.str
  | _, [], h => by
    have h' : ImAll H _ [] := h
    cases h'; rfl
  | _, n :: r, h => by
    have h' : ImAll H _ (.str n :: r.map .str) := h
    cases h' with
    | cons a b =>
      rw [a.strv, b.strs]
      rfl
theorem imAll_strs {H : Hp} : ∀ (ys : List Str), ImAll H (ys.map V.str) (ys.map .str)
  | [] => .nil
  | n :: r => .cons (.str n) (imAll_strs r)
abbrev rAddS : R2 := fun x y H Q => ∃ i j, x = .str i ∧ y = .str j ∧ i.length + j.length ≤ sizeLine ∧ Q (.str (i ++ j)) H
abbrev rJoin (K : PySem.W.Frag) : V → List V → Hp → VK → Prop := fun x xs H Q => ∃ a p, ∃ ys : List Str, x = .str a ∧ xs = [.ref p] ∧ (SqL K H p (ys.map V.str) ∨ SqT K H p (ys.map V.str)) ∧ (ys.map (·.length)).sum + ys.length * a.length ≤ 16777216 ∧ Q (.str (Txt.join a ys)) H
abbrev rSplit : V → List V → Hp → VK → Prop := fun x xs H Q => ∃ a b, x = .str a ∧ xs = [.str b] ∧ (b.length == 0) = false ∧ a.length + 2 ≤ sizeLine ∧ rNewStrs (Txt.split a b) H Q
abbrev rStrI : List V → Hp → VK → Prop := fun xs H Q => ∃ i, xs = [.int i] ∧ i.natAbs.log2 < 1920 ∧ Q (.str (toString i)) H
abbrev rIntS : List V → Hp → VK → Prop := fun xs H Q => ∃ a n, xs = [.str a] ∧ PySem.intText? a = some n ∧ a.length ≤ 640 ∧ Q (.int n) H
abbrev rNotInSign : R2 := fun x y H Q => ∃ (c : Nat) (z : Str), x = .str ⟨#[c]⟩ ∧ y = .str z ∧ Q (.bl (!decide (c ∈ z.cps.toList))) H
section
variable {X : Cx} {o e : Expr} {to te : TE}
theorem pe_joinK (K : PySem.W.Frag) {apos pos : Pos} (ho : PE X o to) (he : PE X e te) (hK : X.K = K := by rfl) (h1 : starEach [e] X.env = [(false, eval e X.env)] := by rfl) (h2 : attributeBase o "join" X.env (eval o X.env) = eval o X.env := by rfl) (h3 : (apos.endLine == pos.line) = true := by rfl) :
    PE X (.Call (.Attribute o "join" apos) [e] [] pos) (tM1 (rJoin K) to te) := by
  subst hK
  exact pe_join ho he h1 h2 h3
theorem cb_lenS : CallR X (.builtin "len") (fun xs H Q => ∃ z, xs = [.str z] ∧ z.length ≤ sizeLine ∧ Q (.int z.length) H) := call_len_str
end
section
variable {K : PySem.W.Frag} {σ : L2.St} {H : Hp} {ta tb te ts : TE} {d : PyData} {a b : List Nat}
theorem evd_addS (ha : EvD ta σ H (strD a)) (hb : EvD tb σ H (strD b)) (hz : a.length + b.length ≤ 100000) : EvD (tOp rAddS ta tb) σ H (strD (a ++ b)) :=
  evd_op ha hb fun H1 x y _ i1 i2 Q q => ⟨S a, S b, i1.strv, i2.strv, by rw [S_len, S_len]; exact Nat.le_trans hz (by decide), by
    rw [S_cat]
    exact q _ (.str _)⟩
theorem lens_sum (l : List (List Nat)) : ((l.map S).map (·.length)).sum = (l.map (·.length)).sum := by rw [lens]
theorem evd_join {ys : List (List Nat)} (hs : EvD ts σ H (strD a)) (h : EvN te σ H (ys.map strD)) (hz : (ys.map (·.length)).sum + ys.length * a.length ≤ 16777216) : EvD (tM1 (rJoin K) ts te) σ H (strD (TL.joinL a ys)) := fun H1 s Q q =>
  hs H1 s _ fun x H2 s2 i2 => ⟨⟨S a, i2.strv⟩, h H2 (s.trans s2) _ fun p xs H3 s3 _ ep im => by
    have e : ys.map strD = (ys.map S).map .str := by rw [List.map_map]; rfl
    rw [e] at im
    have ex := im.strs
    subst ex
    refine ⟨S a, p, ys.map S, i2.strv, rfl, .inl (SqL.of ep), by rw [lens_sum, List.length_map, S_len]; exact hz, ?_⟩
    rw [join_S]
    exact q _ H3 (s2.trans s3) (.str _)⟩
theorem evn_split {parts : List (List Nat)} (hs : EvD ts σ H (strD a)) (hb : EvD te σ H (strD b)) (hb0 : b ≠ []) (hk : b.all (· < 256) = true) (hz : a.length ≤ 100000) (e : TL.spl b 0 [] a = parts) : EvN (tM1 rSplit ts te) σ H (parts.map strD) := fun H1 s Q q =>
  hs H1 s _ fun x H2 s2 i2 => ⟨⟨S a, i2.strv⟩, hb H2 (s.trans s2) _ fun y H3 s3 i3 => by
    refine ⟨S a, S b, i2.strv, by rw [i3.strv], ?_, by rw [S_len]; exact Nat.le_trans (Nat.add_le_add_right hz 2) (by decide), fun p hp => ?_⟩
    · rw [S_len]
      cases b with
      | nil => exact absurd rfl hb0
      | cons c r => rfl
    · have e2 : (Txt.split (S a) (S b)).map V.str = (parts.map S).map V.str := by rw [split_S hb0 hk, e]
      rw [e2]
      have e3 : parts.map strD = (parts.map S).map .str := by rw [List.map_map]; rfl
      exact q p _ _ ((s2.trans s3).trans (same_upd hp)) ((s2.trans s3).free hp) upd_same (by rw [e3]; exact imAll_strs _)⟩
theorem digit_txt {c : Nat} (hc : c < 10) : (toString ((c : Nat) : Int) : Str) = S [48 + c] := by
  show Str.ofString (toString ((c : Nat) : Int)) = S [48 + c]
  rw [num_S, TL.numL_lt hc]
theorem evd_strI {i : Int} {c : Nat} (h : EvD te σ H (.int i)) (e : i = (c : Nat)) (hc : c < 10) : EvD (tCB rStrI (tCons te tNil)) σ H (strD [48 + c]) := fun H1 s Q q =>
  h H1 s _ fun x H2 s2 i2 => ⟨i, by rw [i2.intv], by
    rw [e, Int.natAbs_natCast]
    exact Nat.lt_of_le_of_lt (Nat.log2_le_self c) (by omega), by
    rw [e, digit_txt hc]
    exact q _ H2 s2 (.str _)⟩
theorem evd_intS {c : Nat} (h : EvD te σ H (strD [c])) (h1 : 48 ≤ c) (h2 : c ≤ 57) : EvD (tCB rIntS (tCons te tNil)) σ H (.int ((c : Int) - 48)) := fun H1 s Q q =>
  h H1 s _ fun x H2 s2 i2 => by
    have e := int_S (a := [c]) (by simp; omega) (List.cons_ne_nil _ _) (by simp)
    have e2 : ((NumText.digitsVal [c] : Nat) : Int) = (c : Int) - 48 := by
      show (((0 * 10 + (c - 48) : Nat)) : Int) = _
      omega
    rw [e2] at e
    exact ⟨S [c], (c : Int) - 48, by rw [i2.strv], e, by rw [S_len]; show 1 ≤ 640; decide, q _ H2 s2 (.int _)⟩
/-- a text's sign -/
theorem evd_ixS {i : Int} {c : Nat} (ha : EvD ta σ H (strD a)) (hb : EvD tb σ H (.int i)) (hz : a.length ≤ 100000) (hi : atI a i = some c) : EvD (tOp (rIx K) ta tb) σ H (strD [c]) :=
  evd_op ha hb fun H1 x y _ i1 i2 Q q => .inr (.inr ⟨S a, i, c, i1.strv, i2.intv, by rw [S_len]; exact Nat.le_trans hz (by decide), hi, q _ (.str _)⟩)
theorem evd_notInSign {c : Nat} (ha : EvD ta σ H (strD [c])) (hb : EvD tb σ H (strD b)) : EvD (tOp rNotInSign ta tb) σ H (.bool (!decide (c ∈ b))) :=
  evd_op ha hb fun H1 x y _ i1 i2 Q q => ⟨c, S b, i1.strv, i2.strv, q _ (.bl _)⟩
theorem decS (a b : List Nat) : decide (V.str (S a) = V.str (S b)) = decide (a = b) := decide_eq_decide.mpr ⟨fun h => S_inj (V.str.inj h), fun h => by rw [h]⟩
theorem evd_eqS (ha : EvD ta σ H (strD a)) (hb : EvD tb σ H (strD b)) : EvD (tOp rEq ta tb) σ H (.bool (decide (a = b))) :=
  evd_op ha hb fun H1 x y _ i1 i2 Q q => by
    rw [i1.strv, i2.strv]
    refine ⟨rfl, ?_⟩
    rw [decS]
    exact q _ (.bl _)
theorem evd_neS (ha : EvD ta σ H (strD a)) (hb : EvD tb σ H (strD b)) : EvD (tOp rNe ta tb) σ H (.bool (!decide (a = b))) :=
  evd_op ha hb fun H1 x y _ i1 i2 Q q => by
    rw [i1.strv, i2.strv]
    refine ⟨rfl, ?_⟩
    rw [decS]
    exact q _ (.bl _)
/-- a text walked -/
def signs (a : List Nat) : List PyData := a.map fun c => strD [c]
theorem evi_str (h : EvD te σ H (strD a)) : EvI (iStr te) σ H (signs a) := fun H1 s R q =>
  h H1 s _ fun v H2 s2 i2 => by
    refine ⟨S a, i2.strv, q _ H2 (a.map fun c => V.str (S [c])) s2 (imAll_map (fun c => .str _) a) fun H3 s3 => ⟨fun i hi => ?_, fun i x H' y => ?_, ?_⟩⟩
    · rw [List.length_map] at hi
      show i < (S a).cps.size
      simpa using hi
    · obtain ⟨e, c, hc, ex⟩ := y
      refine ⟨e, fun _ => ?_⟩
      have hc' : a[i]? = some c := by simpa using hc
      rw [List.getElem?_map, hc', ex]
      rfl
    · show (S a).cps.size ≤ (a.map fun c => V.str (S [c])).length
      simp
theorem s_forS {g : TG} {tb : TS} {D : Ends} (h : EvD te σ H (strD a)) (Pv : Nat → L2.St → Hp → Prop) (h0 : ∀ H1, Same H H1 → Pv 0 σ H1)
    (hs : ∀ (i : Nat) c σ2 H2, a[i]? = some c → Pv i σ2 H2 → g (.str (S [c])) σ2 H2 fun σ3 H3 => tb { D with nx := Pv (i + 1), ct := Pv (i + 1), bk := D.nx } σ3 H3)
    (hd : ∀ σ2 H2, Pv a.length σ2 H2 → D.nx σ2 H2) : tFor (iStr te) g tb D σ H := h H (Same.refl H) _ fun v H1 s im => by
  refine ⟨S a, im.strv, fun i m σ H => m = a.length - i ∧ i ≤ a.length ∧ Pv i σ H, ⟨a.length, by simp, Nat.zero_le _, h0 H1 s⟩, ?_⟩
  rintro i m σ H ⟨rfl, hi, p⟩
  by_cases hlt : i < a.length
  · refine .inr ⟨?_, Pv (i + 1), fun σ' H' p' => ⟨a.length - (i + 1), by omega, rfl, hlt, p'⟩, fun x H' y => ?_⟩
    · show i < (S a).cps.size
      simpa using hlt
    · obtain ⟨e, c, hc, ex⟩ := y
      subst e
      subst ex
      exact hs i c σ _ (by simpa using hc) p
  · have e : i = a.length := by omega
    subst e
    refine .inl ⟨?_, hd σ H p⟩
    show (S a).cps.size ≤ a.length
    simp
/-- xs[:-1] -/
theorem cut_init (xs : List V) (h : xs ≠ []) : cutV xs none (some (-1)) = xs.dropLast := by
  have hl : 0 < xs.length := List.length_pos_iff.mpr h
  unfold cutV
  show (xs.drop 0).take ((if (-1 : Int) < 0 then ((-1 : Int) + (xs.length : Int)).toNat else min (-1 : Int).toNat xs.length) - 0) = xs.dropLast
  rw [if_pos (by decide), List.drop_zero, List.dropLast_eq_take]
  congr 1
  omega
theorem ImAll.dropLast {H : Hp} {vs : List V} {ds : List PyData} (h : ImAll H vs ds) : ImAll H vs.dropLast ds.dropLast := by
  rw [List.dropLast_eq_take, List.dropLast_eq_take, h.len]
  exact h.take _
theorem atI_last {α : Type} (l : List α) (x : α) : atI (l ++ [x]) (-1) = some x := by
  unfold atI ixN
  rw [if_neg (by decide), List.length_append, if_pos (by show -(((l.length + 1 : Nat)) : Int) ≤ -1; omega)]
  show (l ++ [x])[(-1 + ((l.length + 1 : Nat) : Int)).toNat]? = some x
  rw [show (-1 + ((l.length + 1 : Nat) : Int)).toNat = l.length by omega]
  simp
theorem evd_neg1 : EvD (tUn (rU fun i => .int (-i)) (tC (.int 1))) σ H (.int (-1)) := fun H1 _ _ q => ⟨1, rfl, q _ H1 (Same.refl _) (.int _)⟩
theorem evn_init {l : Addr} {ds : List PyData} (h : EvV te σ H (.ref l)) (hl : Ls H l ds) (h0 : ds ≠ []) : EvN (tSl (rSlL K) te tNoPart (tPart (tUn (rU fun i => .int (-i)) (tC (.int 1))))) σ H ds.dropLast := fun H1 s Q q =>
  h H1 s _ fun H2 s2 => evd_neg1 (σ := σ) (H := H2) H2 (Same.refl _) (fun x H3 => ∃ i, x = .int i ∧ rSlL K (.ref l) none (some i) H3 Q) fun v H3 s3 i3 => by
    obtain ⟨xs, e, im⟩ := hl.sm ((s.trans s2).trans s3)
    have hx : xs ≠ [] := fun z => h0 (List.length_eq_zero_iff.mp (by rw [← im.len, z]; rfl))
    refine ⟨-1, i3.intv, l, xs, rfl, SqL.of e, fun p hp => ?_⟩
    rw [cut_init xs hx]
    exact q p _ _ ((s2.trans s3).trans (same_upd hp)) ((s2.trans s3).free hp) upd_same (im.dropLast.sm (same_upd hp))
end
/-! ### boards as texts -/
def rowT (r : List Int) : List Nat := r.map fun c => 48 + c.toNat
def textT (b : Bd) : List Nat := (b.map fun r => rowT r ++ [10]).flatten
/-- the colours are figures -/
def Fig (b : Bd) : Prop := ∀ r, r ∈ b → ∀ c, c ∈ r → 0 ≤ c ∧ c ≤ 9
theorem joinL_nil : ∀ l : List (List Nat), TL.joinL [] l = l.flatten
  | [] => rfl
  | [p] => by
    show p = p ++ []
    rw [List.append_nil]
  | p :: q :: r => by
    show p ++ ([] ++ TL.joinL [] (q :: r)) = p ++ (q :: r).flatten
    rw [List.nil_append, joinL_nil (q :: r)]
theorem joinL_text : ∀ b : Bd, TL.joinL [10] (b.map rowT ++ [[]]) = textT b
  | [] => rfl
  | [r] => by
    show rowT r ++ ([10] ++ []) = (rowT r ++ [10]) ++ []
    simp
  | r :: s :: b => by
    show rowT r ++ ([10] ++ TL.joinL [10] ((s :: b).map rowT ++ [[]])) = (rowT r ++ [10]) ++ textT (s :: b)
    rw [joinL_text (s :: b), List.append_assoc]
theorem rowT_dig {b : Bd} (hf : Fig b) {r : List Int} (hr : r ∈ b) {c : Nat} (hc : c ∈ rowT r) : 48 ≤ c ∧ c ≤ 57 := by
  obtain ⟨z, hz, rfl⟩ := List.mem_map.mp hc
  have := hf r hr z hz
  omega
theorem spl_text {b : Bd} (hf : Fig b) : TL.spl [10] 0 [] (textT b) = b.map rowT ++ [[]] := by
  rw [← joinL_text b]
  refine spl_join (by simp) fun p hp => ?_
  rcases List.mem_append.mp hp with m | m
  · obtain ⟨r, hr, rfl⟩ := List.mem_map.mp m
    exact fun z => by have := rowT_dig hf hr z; omega
  · rw [List.mem_singleton.mp m]
    exact List.not_mem_nil
theorem text_len {b : Bd} {w h : Nat} (i : IsB b w h) : (textT b).length = h * (w + 1) := by
  have e : ∀ l : Bd, (∀ r, r ∈ l → r.length = w) → (textT l).length = l.length * (w + 1) := by
    intro l
    induction l with
    | nil => intro _; rw [List.length_nil, Nat.zero_mul]; rfl
    | cons r l ih =>
      intro hr
      show ((rowT r ++ [10]) ++ textT l).length = _
      have e1 : (rowT r).length = w := by
        unfold rowT
        rw [List.length_map, hr r List.mem_cons_self]
      have e2 : ([10] : List Nat).length = 1 := rfl
      rw [List.length_append, List.length_append, ih fun s m => hr s (List.mem_cons_of_mem _ m), e1, e2, List.length_cons (a := r), Nat.add_mul, Nat.one_mul]
      omega
  rw [e b i.wide, i.high]
theorem fig_by {c col : Int} {w h : Nat} (h0 : 0 < col) (h10 : col ≤ 10) : Fig (byB c w h col) := by
  intro r hr z hz
  unfold byB mkB at hr
  obtain ⟨y, _, rfl⟩ := List.mem_map.mp hr
  obtain ⟨x, _, rfl⟩ := List.mem_map.mp hz
  have a := Int.emod_nonneg (lcg c (y * w + x + 1) / 7) (show col ≠ 0 by omega)
  have b := Int.emod_lt_of_pos (lcg c (y * w + x + 1) / 7) h0
  constructor
  · exact a
  · show lcg c (y * w + x + 1) / 7 % col ≤ 9
    omega
theorem figs_eq : (Str.ofString "0123456789" : Str) = S [48, 49, 50, 51, 52, 53, 54, 55, 56, 57] := rfl
end Bk

namespace Bk
open PySem PySem.Spec PyProof.Rows L2 SX
/-! ### lists, however they came -/
def EvS (te : TE) (σ : L2.St) (H : Hp) (ds : List PyData) : Prop := ∀ H1, Same H H1 → ∀ Q : VK, (∀ p xs H2, Same H1 H2 → H2 p = some (.lst xs) → ImAll H2 xs ds → Q (.ref p) H2) → te σ H1 Q
section
variable {K : PySem.W.Frag} {σ : L2.St} {H : Hp} {ta tb te : TE} {ds es : List PyData}
theorem EvN.s (h : EvN te σ H ds) : EvS te σ H ds := fun H1 s Q q => h H1 s Q fun p xs H2 s2 _ e im => q p xs H2 s2 e im
theorem evs_var {i : Nat} {l : Addr} (h : σ[i]? = some (some (.ref l))) (hl : Ls H l ds) : EvS (tVar i) σ H ds := fun H1 s Q q => by
  obtain ⟨xs, e, im⟩ := hl.sm s
  exact evv_var h H1 s _ fun H2 s2 => q l xs H2 s2 (s2 _ _ e) (im.sm s2)
def shL (ds : List PyData) : Bool := SeqAt.shaped (.list ds)
theorem evd_eqLs (ha : EvS ta σ H ds) (hb : EvS tb σ H es) (s1 : SeqAt.shaped (.list ds) = true) (s2 : SeqAt.shaped (.list es) = true) : EvD (tOp (rEqD K) ta tb) σ H (.bool (PyData.eqv (.list ds) (.list es))) := fun H1 s Q q =>
  ha H1 s _ fun p xs H2 t2 e im => hb H2 (s.trans t2) _ fun p2 ys H3 t3 e2 im2 => ⟨.list ds, .list es, .lst (SqL.of (t3 _ _ e)) (ImAll.dp _ _ (im.sm t3)), .lst (SqL.of e2) (ImAll.dp _ _ im2), s1, s2, q _ H3 (t2.trans t3) (.bl _)⟩
theorem evd_neLs (ha : EvS ta σ H ds) (hb : EvS tb σ H es) (s1 : SeqAt.shaped (.list ds) = true) (s2 : SeqAt.shaped (.list es) = true) : EvD (tOp (rNeD K) ta tb) σ H (.bool (!PyData.eqv (.list ds) (.list es))) := fun H1 s Q q =>
  ha H1 s _ fun p xs H2 t2 e im => hb H2 (s.trans t2) _ fun p2 ys H3 t3 e2 im2 => ⟨.list ds, .list es, .lst (SqL.of (t3 _ _ e)) (ImAll.dp _ _ (im.sm t3)), .lst (SqL.of e2) (ImAll.dp _ _ im2), s1, s2, q _ H3 (t2.trans t3) (.bl _)⟩
end
/-! ### exceptions -/
section
variable {P : Program} {w : World} {K : PySem.W.Frag} {mg : Str → Option Value} {base : Heap}
theorem dokX {x : Str} {st : Stmt} {N ps : List Str} {k : Nat} {sp : Sp} (D : Dtx K mg x st ps) (S : FnScope N ps (defScope st)) (len : ∀ vs H Q E, sp vs H Q E → vs.length = ps.length)
    (hbody : ∀ (f : Addr) (cdv : Value) (A : Around) (outer : List Env) (s : Shared) (H : Hp) (vs : List V) (Q : VK) (E : XK), Room k (A.deeper (envOfC x (defScope st) s.heap.objs.size f cdv)) → sp vs H Q E →
      ∃ t, PSs (cxOf (L2.CX P w) P w K mg base N x (defScope st) f cdv A outer s H E) (defBody st) t ∧ t { nx := fun _ H' => Q .non H', rt := Q } (start N vs) H) : DfOk P w K mg base (L2.CX P w) (k + 1) x ps sp := by
  obtain ⟨f, fd, F, hm, hb⟩ := D.ex
  exact ⟨f, fd, F.okX S len fun cdv A outer s H vs Q E hr h => hbody f cdv A outer s H vs Q E hr h, hm, F.kp, hb⟩
end
section
variable {X : Cx} {k : Nat} {x : Str} {ps : List Str} {sp : Sp} {p pos : Pos} {e : Expr} {es : List Expr} {t : TA} {W : WX}
/-- a call that may let out: what it lets out is W's -/
theorem pe_cdX (D : DfOk X.prog X.w X.K X.mg X.base (L2.CX X.prog X.w) k x ps sp) (hr : Room k X.A) (hg : Gl X x) (tk : Takes X W) (ha : PA X (e :: es) t) (hdb : (x == ("__debug__" : Str)) = false := by decide)
    (he : starEach (e :: es) X.env = (false, eval e X.env) :: starEach es X.env := by rfl) (hpl : (backTo pos (starEach es X.env)).any (·.1) = false := by rfl) :
    PE X (.Call (.Name x p) (e :: es) [] pos) (tCallS sp (WE W) t) :=
  ⟨fun pins s σ H Q I h => by
    obtain ⟨f, fd, F, hm, hk, hb⟩ := D.ex
    exact (pe_callS F hr hg hm hk hb (fun σ => passAt tk σ) ha hdb he hpl).run pins s σ H Q I h⟩
end
/-- data or an exception -/
def spX (R : List PyData → PyData → Prop) (Rx : List PyData → Value → Prop) : Sp := fun vs H Q E => ∃ ds, ImAll H vs ds ∧ ((∃ d, R ds d ∧ ∀ v H', Same H H' → Im H' v d → Q v H') ∨ (∃ cls, Rx ds cls ∧ ∀ H', Same H H' → E cls none H'))
/-- a new list or an exception -/
def spXN (R : List PyData → List PyData → Prop) (Rx : List PyData → Value → Prop) : Sp := fun vs H Q E => ∃ ds, ImAll H vs ds ∧ ((∃ es, R ds es ∧ ∀ p xs H', Same H H' → H p = none → H' p = some (.lst xs) → ImAll H' xs es → Q (.ref p) H') ∨ (∃ cls, Rx ds cls ∧ ∀ H', Same H H' → E cls none H'))
theorem spX_len {R : List PyData → PyData → Prop} {Rx : List PyData → Value → Prop} {n : Nat} (h : ∀ ds d, R ds d → ds.length = n) (h2 : ∀ ds c, Rx ds c → ds.length = n) : ∀ vs H Q E, spX R Rx vs H Q E → vs.length = n := fun vs H Q E ⟨ds, im, z⟩ => by
  rcases z with ⟨d, r, _⟩ | ⟨c, r, _⟩
  · exact im.len.trans (h ds d r)
  · exact im.len.trans (h2 ds c r)
theorem spXN_len {R : List PyData → List PyData → Prop} {Rx : List PyData → Value → Prop} {n : Nat} (h : ∀ ds d, R ds d → ds.length = n) (h2 : ∀ ds c, Rx ds c → ds.length = n) : ∀ vs H Q E, spXN R Rx vs H Q E → vs.length = n := fun vs H Q E ⟨ds, im, z⟩ => by
  rcases z with ⟨d, r, _⟩ | ⟨c, r, _⟩
  · exact im.len.trans (h ds d r)
  · exact im.len.trans (h2 ds c r)
/-- what lets out, whatever comes next -/
def EvX (te : TE) (σ : L2.St) (H : Hp) : Prop := ∀ H1, Same H H1 → ∀ Q : VK, te σ H1 Q
section
variable {K : PySem.W.Frag} {σ : L2.St} {H : Hp} {ta tb te : TE} {t : TA} {ds : List PyData} {D : Ends} {W : WX} {R : List PyData → PyData → Prop} {RN : List PyData → List PyData → Prop} {Rx : List PyData → Value → Prop} {cls : Value}
theorem evx_call (ha : EvA t σ H ds) (hx : Rx ds cls) (h : ∀ H', Same H H' → W cls none σ H') : EvX (tCallS (spX R Rx) (WE W) t) σ H := fun H1 s Q =>
  ha H1 s _ fun vs H2 s2 im => ⟨ds, im, .inr ⟨cls, hx, fun H3 s3 => h H3 ((s.trans s2).trans s3)⟩⟩
theorem evx_callN (ha : EvA t σ H ds) (hx : Rx ds cls) (h : ∀ H', Same H H' → W cls none σ H') : EvX (tCallS (spXN RN Rx) (WE W) t) σ H := fun H1 s Q =>
  ha H1 s _ fun vs H2 s2 im => ⟨ds, im, .inr ⟨cls, hx, fun H3 s3 => h H3 ((s.trans s2).trans s3)⟩⟩
theorem evd_callX {d : PyData} (ha : EvA t σ H ds) (hx : R ds d) : EvD (tCallS (spX R Rx) (WE W) t) σ H d := fun H1 s Q q =>
  ha H1 s _ fun vs H2 s2 im => ⟨ds, im, .inl ⟨d, hx, fun v H3 s3 iv => q v H3 (s2.trans s3) iv⟩⟩
theorem evn_callX {es : List PyData} (ha : EvA t σ H ds) (hx : RN ds es) : EvN (tCallS (spXN RN Rx) (WE W) t) σ H es := fun H1 s Q q =>
  ha H1 s _ fun vs H2 s2 im => ⟨ds, im, .inl ⟨es, hx, fun p xs H3 s3 n e iv => q p xs H3 (s2.trans s3) (s2.free n) e iv⟩⟩
theorem s_dropX (h : EvX te σ H) : tDrop te D σ H := h H (Same.refl H) _
theorem s_asgX {i : Nat} (h : EvX te σ H) : tAsg te (gName i) D σ H := h H (Same.refl H) _
theorem s_retX (h : EvX te σ H) : tRet te D σ H := h H (Same.refl H) _
/-- raise -/
theorem s_raise {cl : Value} {d : Option Addr} (h : W cl d σ H) : (fun (_ : Ends) (σ : L2.St) (H : Hp) => (fun (_ : L2.St) (H : Hp) (Q : XK) => Q cl d H) σ H fun cls d H' => W cls d σ H') D σ H := h
end
/-- f(g(..)), f lets out -/
theorem evx_nest {t : TA} {ds : List PyData} {sp spS : Sp} {W : WX} {σ : L2.St} {H : Hp} {Q : VK} (ha : EvA t σ H ds) (h : ∀ vs H2, Same H H2 → ImAll H2 vs ds → spS vs H2 (fun v H3 => sp [v] H3 Q (WE W σ)) E0) : tCallS sp (WE W) (tCons (tCall spS [] E0 t) tNil) σ H Q := ha H (Same.refl H) _ fun vs H2 s im => by
  show spS (vs ++ []) H2 (fun v H3 => sp [v] H3 Q (WE W σ)) E0
  rw [List.append_nil]
  exact h vs H2 s im
/-- the caught exception's class is one of ours -/
def tCls (K : PySem.W.Frag) (cls : Value) (d : Option Addr) (t : Addr → TS) : TS := fun D σ H => ∃ C, cls = .ref C ∧ d = none ∧ ExcC K C ∧ t C D σ H
theorem pss_cls {X : Cx} (K : PySem.W.Frag) {cls : Value} {d : Option Addr} {oe : Obj} {b : List Stmt} {t : Addr → TS} (hz : Zc cls d oe) (h : ∀ C, ExcC K C → Zc (.ref C) none oe → PSs X b (t C)) : PSs X b (tCls K cls d t) :=
  ⟨fun pins s σ H D I ⟨C, e, f, g, q⟩ => (h C g (by rw [← e, ← f]; exact hz)).run pins s σ H D I q⟩
theorem shaped_marks (a b c : Bool) : SeqAt.shaped (.list [.bool a, .bool b, .bool c]) = true := by
  cases a <;> cases b <;> cases c <;> decide +kernel
theorem eqv_marks (a b c d e f : Bool) : PyData.eqv (.list [.bool a, .bool b, .bool c]) (.list [.bool d, .bool e, .bool f]) = decide (a = d ∧ b = e ∧ c = f) := by
  cases a <;> cases b <;> cases c <;> cases d <;> cases e <;> cases f <;> decide +kernel
theorem ca_isE {X : Cx} (K : PySem.W.Frag) {a D : Addr} {oe : Obj} {pn : List (Addr × Obj)} (C : ExcC K D) (hz : Zc (.ref D) none oe) (hf : ∃ vs, oe.data = .fields vs) (h : X.K = K := by rfl) : CallR (X.suite a ((a, oe) :: pn)) (.builtin "isinstance") (rIsE K D a) := by
  subst h
  exact call_isE C hz hf
section
variable {K : PySem.W.Frag} {mg : Str → Option Value} {σ : L2.St} {H : Hp} {a D : Addr} {i : Nat}
theorem evd_isE {c : V} {cv : Value} {b : Bool} (h0 : σ[i]? = some (some (.ref a))) (hc : ∀ u, RelV c u → u = cv) (hk : PySem.W.kitOne K (.ref D) cv = some b) : EvD (tCB (rIsE K D a) (tCons (tVar i) (tCons (tC c) tNil))) σ H (.bool b) := fun H1 s Q q => by
  refine ⟨_, h0, c, cv, b, rfl, hc, hk, q _ H1 (Same.refl _) (.bl b)⟩
theorem kitOne_own {x y : Str} {b : Bool} (ey : Ecl K mg y) (u : Und K mg x y b) (us : Und K mg y y true) : PySem.W.kitOne K (.ref (adr mg x)) (.ref (adr mg y)) = some b := by
  unfold Und at u us
  unfold PySem.W.kitOne
  by_cases e : ((Value.ref (adr mg x)) == (Value.ref (adr mg y))) = true
  · rw [if_pos e]
    have e2 : adr mg x = adr mg y := Value.ref.inj (beq_iff_eq.mp e)
    rw [e2, us] at u
    exact u
  · rw [if_neg e]
    have h1 : (PySem.W.clsIn K (adr mg y)).isSome = true := ey.i
    have h2 : ((PySem.W.clsIn K (adr mg y)).isSome && PySem.W.typeIn K (.ref (adr mg y)) == some (.type "type")) = true := by rw [h1, ey.t]; rfl
    show (if ((PySem.W.clsIn K (adr mg y)).isSome && PySem.W.typeIn K (.ref (adr mg y)) == some (.type "type")) = true then PySem.W.subIn K (.ref (adr mg x)) (.ref (adr mg y)) else none) = some b
    rw [if_pos h2]
    exact u
theorem kitOne_VE {x : Str} (ex : Ecl K mg x) : PySem.W.kitOne K (.ref (adr mg x)) (.type "ValueError") = some true := by
  unfold PySem.W.kitOne
  rw [if_neg (by simp)]
  show (if PySem.W.kitMeta "ValueError" = true then PySem.W.subIn K (.ref (adr mg x)) (.type "ValueError") else none) = some true
  rw [if_pos (by decide +kernel)]
  exact ex.v
theorem exm_own {x y : Str} {b : Bool} (ey : Ecl K mg y) (u : Und K mg x y b) : PySem.W.exmOne K (.ref (adr mg x)) (.ref (adr mg y)) = some b := PySem.W.exm_ref ey.b ey.c.hd ey.t u
theorem relV_ref {p : Addr} : ∀ u, RelV (.ref p) u → u = .ref p := fun u h => h
theorem relV_ty {T : String} : ∀ u, RelV (.ty T) u → u = .type T := fun u h => h
/-- isinstance(e, C), e an exception of the class x, C the own class y -/
theorem evd_isEo {x y : Str} {b : Bool} (h0 : σ[i]? = some (some (.ref a))) (ey : Ecl K mg y) (u : Und K mg x y b) (us : Und K mg y y true) : EvD (tCB (rIsE K (adr mg x) a) (tCons (tVar i) (tCons (tC (.ref (adr mg y))) tNil))) σ H (.bool b) :=
  evd_isE h0 relV_ref (kitOne_own ey u us)
theorem evd_isEv {x : Str} (h0 : σ[i]? = some (some (.ref a))) (ex : Ecl K mg x) : EvD (tCB (rIsE K (adr mg x) a) (tCons (tVar i) (tCons (tC (.ty "ValueError")) tNil))) σ H (.bool true) :=
  evd_isE h0 relV_ty (kitOne_VE ex)
end
end Bk

namespace Bk
open PySem PySem.Spec PyProof.Rows L2
/-! ### lists of lists, however their rows came -/
structure LV (H : Hp) (l : Addr) (vs : List V) (rs : List (List PyData)) : Prop where
  top : H l = some (.lst vs)
  len : vs.length = rs.length
  row : ∀ (i : Nat) v r, vs[i]? = some v → rs[i]? = some r → RowIs H v r
abbrev rInsert : V → List V → Hp → VK → Prop := fun x vs H Q => ∃ (l : Addr) (xs : List V) (i : Int) (y : V), x = .ref l ∧ vs = [.int i, y] ∧ H l = some (.lst xs) ∧ xs.length < sizeLine ∧ 0 ≤ i ∧ i < 2 ^ 63 ∧
    Q .non (upd H l (.lst (xs.take i.toNat ++ [y] ++ xs.drop i.toNat)))
section
variable {K : PySem.W.Frag} {σ : L2.St} {H H' : Hp} {ta tb te tx : TE} {l : Addr} {vs : List V} {rs : List (List PyData)}
theorem LV.sm (h : LV H l vs rs) (s : Same H H') : LV H' l vs rs := ⟨s _ _ h.top, h.len, fun i v r e1 e2 => rowIs_sm _ _ _ _ s (h.row i v r e1 e2)⟩
theorem LL.lv {H0 : Hp} {as : List Addr} (h : LL H0 H l as rs) : LV H l (as.map V.ref) rs := ⟨h.top, by rw [List.length_map]; exact h.len, fun i v r e1 e2 => by
  rw [List.getElem?_map] at e1
  cases ea : as[i]? with
  | none => rw [ea] at e1; cases e1
  | some a =>
    rw [ea] at e1
    obtain ⟨xs, e, im⟩ := h.row i a r ea e2
    exact ⟨a, xs, (Option.some.inj e1).symm, e, im⟩⟩
def EvLV (te : TE) (σ : L2.St) (H : Hp) (rs : List (List PyData)) : Prop := ∀ H1, Same H H1 → ∀ Q : VK, (∀ l vs H2, Same H1 H2 → LV H2 l vs rs → Q (.ref l) H2) → te σ H1 Q
theorem EvLL.lv (h : EvLL te σ H rs) : EvLV te σ H rs := fun H1 s Q q => h H1 s Q fun l as H2 s2 ll => q l _ H2 s2 ll.lv
theorem evir_LV (h : EvV te σ H (.ref l)) (hl : LV H l vs rs) : EvIR RowIs (iList K te) σ H rs := fun H1 s k q =>
  h H1 s _ fun H2 s2 => by
    have h2 := hl.sm (s.trans s2)
    exact ⟨l, rfl, ⟨_, SqL.of h2.top⟩, q _ H2 vs s2 h2.len h2.row (gives_list (SqL.of h2.top) fun _ _ _ _ => trivial)⟩
theorem evn_lcLV {k : Nat} (h : EvV tx σ H (.ref l)) (hl : LV H l vs rs) (f : List PyData → PyData)
    (he : ∀ r a xs H', r ∈ rs → Same H H' → H' a = some (.lst xs) → ImAll H' xs r → EvD te (σ.set k (some (.ref a))) H' (f r)) (hz : rs.length ≤ 100000) : EvN (tLc (iList K tx) (gName k) tYes te [k]) σ H (rs.map f) := by
  have h := evn_lcG (te := te) (k := k) (tt := tYes) rowIs_sm (evir_LV (K := K) h hl) (fun _ => true) f (fun _ _ _ _ _ _ => evt_yes) (fun r v H' hm _ s ⟨a, xs, e, h1, im⟩ => by
    rw [e]
    exact he r a xs H' hm s h1 im) hz
  have e : rs.filter (fun _ => true) = rs := List.filter_eq_self.mpr fun _ _ => rfl
  rw [e] at h
  exact h
theorem evlv_nil : EvLV (tLst tNil) σ H [] := fun H1 _ Q q => ⟨Nat.zero_le _, fun p hp => q p [] _ (same_upd hp) ⟨upd_same, rfl, fun i v r e => by simp at e⟩⟩
theorem evlv_one {ds : List PyData} (h : EvN te σ H ds) : EvLV (tLst (tCons te tNil)) σ H [ds] := fun H1 s Q q =>
  h H1 s _ fun p xs H2 s2 _ e im => ⟨by show 1 ≤ sizeLine; decide, fun p2 hp2 => q p2 [.ref p] _ (s2.trans (same_upd hp2)) ⟨upd_same, rfl, fun i v r e1 e2 => by
    cases i with
    | zero =>
      cases e1
      cases e2
      exact ⟨p, xs, rfl, same_upd hp2 _ _ e, im.sm (same_upd hp2)⟩
    | succ i => simp at e1⟩⟩
/-- [a, b, c][i] -/
theorem evlv_pick {t1 t2 t3 : TE} {r1 r2 r3 : List (List PyData)} {i : Int} {j : Nat} (h1 : EvLV t1 σ H r1) (h2 : EvLV t2 σ H r2) (h3 : EvLV t3 σ H r3) (hb : EvD tb σ H (.int i)) (hi : i = (j : Nat)) (hr : [r1, r2, r3][j]? = some rs) :
    EvLV (tOp (rIx K) (tLst (tCons t1 (tCons t2 (tCons t3 tNil)))) tb) σ H rs := fun H1 s Q q =>
  h1 H1 s _ fun l1 v1 H2 s2 k1 => h2 H2 (s.trans s2) _ fun l2 v2 H3 s3 k2 => h3 H3 ((s.trans s2).trans s3) _ fun l3 v3 H4 s4 k3 => ⟨by show 3 ≤ sizeLine; decide, fun p hp => hb _ ((((s.trans s2).trans s3).trans s4).trans (same_upd hp)) _ fun y H5 s5 i5 => by
    have t4 := same_upd (o := .lst [.ref l1, .ref l2, .ref l3]) hp
    have g : SqL K H5 p [.ref l1, .ref l2, .ref l3] := SqL.of (s5 _ _ upd_same)
    have sq := ((s2.trans s3).trans s4).trans (t4.trans s5)
    cases j with
    | zero =>
      cases hr
      exact .inl ⟨p, _, i, .ref l1, rfl, i5.intv, g, atI_ofNat hi rfl, q l1 v1 H5 sq (k1.sm (((s3.trans s4).trans t4).trans s5))⟩
    | succ j =>
      cases j with
      | zero =>
        cases hr
        exact .inl ⟨p, _, i, .ref l2, rfl, i5.intv, g, atI_ofNat hi rfl, q l2 v2 H5 sq (k2.sm ((s4.trans t4).trans s5))⟩
      | succ j =>
        cases j with
        | zero =>
          cases hr
          exact .inl ⟨p, _, i, .ref l3, rfl, i5.intv, g, atI_ofNat hi rfl, q l3 v3 H5 sq (k3.sm (t4.trans s5))⟩
        | succ j => simp at hr⟩
theorem s_asgLV {D : Ends} {i : Nat} (h : EvLV te σ H rs) (k : ∀ l vs H1, Same H H1 → LV H1 l vs rs → D.nx (σ.set i (some (.ref l))) H1) : tAsg te (gName i) D σ H := h H (Same.refl H) _ k
/-- xs + ys -/
theorem evn_cat {a : Addr} {xs : List V} {ds es : List PyData} (ha : EvV ta σ H (.ref a)) (hl : H a = some (.lst xs)) (im : ImAll H xs ds) (hb : EvN tb σ H es) (hz : ds.length + es.length ≤ 100000) : EvN (tOp rCat ta tb) σ H (ds ++ es) := fun H1 s Q q =>
  ha H1 s _ fun H2 s2 => hb H2 (s.trans s2) _ fun b zs H3 s3 _ eb ib => by
    have s' := (s.trans s2).trans s3
    refine ⟨a, b, xs, zs, rfl, rfl, s' _ _ hl, eb, ?_, fun p hp => q p _ _ ((s2.trans s3).trans (same_upd hp)) ((s2.trans s3).free hp) upd_same (((im.sm s').app ib).sm (same_upd hp))⟩
    rw [im.len, ib.len]
    exact Nat.le_trans hz (by decide)
/-- rows.insert(i, row) -/
theorem s_insLL {D : Ends} {H0 : Hp} {as : List Addr} {ti : TE} {i : Int} {j : Nat} {ds : List PyData} (hl : LL H0 H l as rs) (ho : EvV ta σ H (.ref l)) (hi : EvD ti σ H (.int i)) (he : EvN te σ H ds) (ei : i = (j : Nat)) (hj : j ≤ 1000) (hz : rs.length ≤ 1000)
    (k : ∀ vs H2, But l H H2 → LV H2 l vs (rs.take j ++ [ds] ++ rs.drop j) → D.nx σ H2) : tDrop (tBM K "list" rInsert ta (tCons ti (tCons te tNil))) D σ H := ho H (Same.refl H) _ fun H1 s1 =>
  ⟨Or.inl ⟨rfl, _, SqL.of (s1 _ _ hl.top)⟩, hi H1 s1 _ fun v H2 s2 i2 => he H2 (s1.trans s2) _ fun p xs H3 s3 hp ep im => by
    have s' := (s1.trans s2).trans s3
    have l3 := hl.sm s'
    refine ⟨l, as.map V.ref, i, .ref p, rfl, by rw [i2.intv], l3.top, ?_, by omega, ?_, ?_⟩
    · rw [List.length_map, hl.len]
      exact Nat.lt_of_le_of_lt hz (by decide)
    · have : (2 : Int) ^ 63 = 9223372036854775808 := by decide
      omega
    · have pl : p ≠ l := fun z => by
        rw [z, (s1.trans s2) _ _ hl.top] at hp
        cases hp
      have row2 : ∀ v r, RowIs H3 v r → v ≠ .ref l → RowIs (upd H3 l (.lst ((as.map V.ref).take i.toNat ++ [.ref p] ++ (as.map V.ref).drop i.toNat))) v r := by
        rintro v r ⟨a, ys, rfl, e1, im1⟩ ne
        refine ⟨a, ys, rfl, ?_, im1.tk (tk_lst l3.top)⟩
        rw [upd_ne (fun z => ne (by rw [z]))]
        exact e1
      have ej : i.toNat = j := by omega
      have lv := l3.lv
      have tl : ((as.map V.ref).take i.toNat).length = (rs.take j).length := by
        rw [ej, List.length_take, List.length_take, List.length_map, hl.len]
      refine k _ _ (fun b o ne e => by rw [upd_ne ne]; exact s' _ _ e) ⟨upd_same, ?_, fun n v r e1 e2 => row2 v r ?_ ?_⟩
      · rw [List.length_append, List.length_append, List.length_append, List.length_append, tl, List.length_drop, List.length_drop, ej, List.length_map, hl.len]
        rfl
      all_goals
        rw [List.append_assoc] at e1 e2
        by_cases c1 : n < (rs.take j).length
        · rw [List.getElem?_append_left (by rw [tl]; exact c1), List.getElem?_take_of_lt (by rw [List.length_take] at c1; omega)] at e1
          rw [List.getElem?_append_left c1, List.getElem?_take_of_lt (by rw [List.length_take] at c1; omega)] at e2
          first
            | exact lv.row n v r e1 e2
            | (intro z
               rw [List.getElem?_map] at e1
               cases ea : as[n]? with
               | none => rw [ea] at e1; cases e1
               | some a =>
                 rw [ea] at e1
                 have := Option.some.inj e1
                 rw [z] at this
                 have := V.ref.inj this
                 exact hl.nl (this ▸ List.mem_of_getElem? ea))
        · rw [List.getElem?_append_right (by rw [tl]; omega), tl] at e1
          rw [List.getElem?_append_right (by omega)] at e2
          cases q : n - (rs.take j).length with
          | zero =>
            rw [q] at e1 e2
            cases e1
            cases e2
            first
              | exact ⟨p, xs, rfl, ep, im⟩
              | (intro z; exact pl (V.ref.inj z))
          | succ m =>
            rw [q] at e1 e2
            have e1' : ((as.map V.ref).drop i.toNat)[m]? = some v := e1
            have e2' : (rs.drop j)[m]? = some r := e2
            rw [List.getElem?_drop, ej] at e1'
            rw [List.getElem?_drop] at e2'
            first
              | exact lv.row _ v r e1' e2'
              | (intro z
                 rw [List.getElem?_map] at e1'
                 cases ea : as[j + m]? with
                 | none => rw [ea] at e1'; cases e1'
                 | some a =>
                   rw [ea] at e1'
                   have := Option.some.inj e1'
                   rw [z] at this
                   have := V.ref.inj this
                   exact hl.nl (this ▸ List.mem_of_getElem? ea))⟩
end
end Bk

namespace Bk
open PySem PySem.Spec PyProof.Rows L2 SX
/-! ### kinships: h 104, q 113, m 109, s 115 -/
def okK (k : List Nat) : Bool := decide (([104, 113, 109, 115] : List Nat).filter (fun c => decide (c ∈ k)) = k)
/-- the turnings -/
def tl (k : List Nat) : List Int :=
  let p : List Int := if 113 ∈ k then [0, 1, 2, 3] else if 104 ∈ k then [0, 2] else [0]
  if 109 ∈ k then p ++ p.map (4 + ·) else p
/-- the deeds -/
def wideK (k : List Nat) (w : Nat) : Nat := if 115 ∈ k then w else 1
def dl (k : List Nat) (w h : Nat) : List (Int × Int × Int) :=
  (tl k).flatMap fun t => (List.range (wideK k w)).flatMap fun (a : Nat) => (List.range (wideK k h)).map fun (b : Nat) => (t, (a : Int), (b : Int))
/-- what refuses a kinship -/
def BadK (mg : Str → Option Value) (k : List Nat) (w h : Nat) (c : Value) : Prop :=
  (okK k = false ∧ c = .ref (adr mg "NoKinship")) ∨ (okK k = true ∧ 113 ∈ k ∧ w ≠ h ∧ c = .ref (adr mg "NotSquare"))
/-! ### what is never reached -/
theorem ca_never {X : Cx} {f : Value} : CallR X f (fun _ _ _ => False) := fun _ _ _ _ _ _ _ _ _ h => h.elim
theorem pe_never {X : Cx} {e : Expr} : PE X e (fun _ _ _ => False) := ⟨fun _ _ _ _ _ _ h => h.elim⟩
theorem pt_never {X : Cx} {e : Expr} : PT X e (fun _ _ _ => False) := ⟨fun _ _ _ _ _ _ h => h.elim⟩
/-- a call that lets out, whatever is handed -/
def spR (Rx : List PyData → Value → Prop) : Sp := fun vs H _ E => ∃ ds cls, ImAll H vs ds ∧ Rx ds cls ∧ ∀ H', Same H H' → E cls none H'
theorem spR_len {Rx : List PyData → Value → Prop} {n : Nat} (h : ∀ ds c, Rx ds c → ds.length = n) : ∀ vs H Q E, spR Rx vs H Q E → vs.length = n := fun vs H Q E ⟨ds, c, im, r, _⟩ => im.len.trans (h ds c r)
abbrev rInSign : R2 := fun x y H Q => ∃ (c : Nat) (z : Str), x = .str ⟨#[c]⟩ ∧ y = .str z ∧ Q (.bl (decide (c ∈ z.cps.toList))) H
section
variable {K : PySem.W.Frag} {σ : L2.St} {H : Hp} {ta tb te : TE} {t : TA} {ds es : List PyData} {D : Ends} {W : WX} {Rx : List PyData → Value → Prop} {cls : Value} {a b : List Nat}
theorem evx_callR (ha : EvA t σ H ds) (hx : Rx ds cls) (h : ∀ H', Same H H' → W cls none σ H') : EvX (tCallS (spR Rx) (WE W) t) σ H := fun H1 s Q =>
  ha H1 s _ fun vs H2 s2 im => ⟨ds, cls, im, hx, fun H3 s3 => h H3 ((s.trans s2).trans s3)⟩
theorem evd_inSign {c : Nat} (ha : EvD ta σ H (strD [c])) (hb : EvD tb σ H (strD b)) : EvD (tOp rInSign ta tb) σ H (.bool (decide (c ∈ b))) :=
  evd_op ha hb fun H1 x y _ i1 i2 Q q => ⟨c, S b, i1.strv, i2.strv, q _ (.bl _)⟩
theorem evd_lit {i : Str} {a : List Nat} (e : i = S a) : EvD (tC (.str i)) σ H (strD a) := by
  subst e
  exact evd_str
/-- xs + ys, however the lists came -/
theorem evn_catS (ha : EvS ta σ H ds) (hb : EvS tb σ H es) (hz : ds.length + es.length ≤ 100000) : EvN (tOp rCat ta tb) σ H (ds ++ es) := fun H1 s Q q =>
  ha H1 s _ fun p xs H2 s2 ep ip => hb H2 (s.trans s2) _ fun r zs H3 s3 er ir =>
    ⟨p, r, xs, zs, rfl, rfl, s3 _ _ ep, er, by rw [ip.len, ir.len]; exact Nat.le_trans hz (by decide), fun o ho => q o _ _ ((s2.trans s3).trans (same_upd ho)) ((s2.trans s3).free ho) upd_same (((ip.sm s3).app ir).sm (same_upd ho))⟩
/-- xs.extend(ys) -/
theorem s_extLs {l : Addr} (hl : Ls H l ds) (ha : EvV ta σ H (.ref l)) (h : EvN te σ H es) (hz : ds.length + es.length ≤ 100000) (k : ∀ H2, But l H H2 → Tk H H2 → Ls H2 l (ds ++ es) → D.nx σ H2) :
    tDrop (tBM K "list" rExtend ta (tCons te tNil)) D σ H := by
  obtain ⟨xs, e, im⟩ := hl
  refine ha H (Same.refl H) _ fun H1 e1 => ⟨Or.inl ⟨rfl, xs, SqL.of (e1 l _ e)⟩, h H1 e1 _ fun p zs H2 e2 np ep ip => ?_⟩
  have s := e1.trans e2
  refine ⟨l, p, xs, zs, rfl, rfl, s _ _ e, ep, by rw [im.len, ip.len]; exact Nat.le_trans hz (by decide), ?_⟩
  exact k _ (fun b o ne eo => by rw [upd_ne ne]; exact s _ _ eo) (Tk.trans (Same.tk s) (tk_lst (s _ _ e))) ⟨_, upd_same, ((im.sm s).app ip).tk (tk_lst (s _ _ e))⟩
/-- xs.clear() -/
theorem s_clrLs {l : Addr} (hl : Ls H l ds) (ha : EvV ta σ H (.ref l)) (k : ∀ H2, But l H H2 → Tk H H2 → Ls H2 l [] → D.nx σ H2) : tDrop (tBM0 K "list" rClear ta) D σ H := by
  obtain ⟨xs, e, im⟩ := hl
  refine ha H (Same.refl H) _ fun H1 e1 => ⟨Or.inl ⟨rfl, xs, SqL.of (e1 l _ e)⟩, l, xs, rfl, rfl, e1 _ _ e, ?_⟩
  exact k _ (fun b o ne eo => by rw [upd_ne ne]; exact e1 _ _ eo) (Tk.trans (Same.tk e1) (tk_lst (e1 _ _ e))) ⟨[], upd_same, .nil⟩
theorem s_forLs {g : TG} {tb : TS} {l : Addr} (h : EvV te σ H (.ref l)) (hl : Ls H l ds) (Pv : Hp → Nat → L2.St → Hp → Prop) (h0 : ∀ H1, Same H H1 → Pv H1 0 σ H1) (hk : ∀ H1 i σ2 H2, Pv H1 i σ2 H2 → Same H1 H2)
    (hs : ∀ H1 i d x σ2 H2, Same H H1 → ds[i]? = some d → Im H2 x d → Pv H1 i σ2 H2 → g x σ2 H2 fun σ3 H3 => tb { D with nx := Pv H1 (i + 1), ct := Pv H1 (i + 1), bk := D.nx } σ3 H3)
    (hd : ∀ H1 σ2 H2, Same H H1 → Pv H1 ds.length σ2 H2 → D.nx σ2 H2) : tFor (iList K te) g tb D σ H := by
  obtain ⟨xs, e, im⟩ := hl
  refine s_forL h Pv (SqL.of e) h0 (fun H1 i σ2 H2 s p => (s.trans (hk H1 i σ2 H2 p)).seq (SqL.of e)) (fun H1 i x σ2 H2 s hx p => ?_) fun H1 σ2 H2 s p => hd H1 σ2 H2 s (by rw [← im.len]; exact p)
  obtain ⟨d, hd', imx⟩ := im.getv hx
  exact hs H1 i d x σ2 H2 s hd' (imx.sm (s.trans (hk H1 i σ2 H2 p))) p
end
section
variable {K : PySem.W.Frag} {σ : L2.St} {H : Hp} {te te2 : TE} {D : Ends} {g : TG} {tb : TS} {tt : TT} {vs : List Nat} {t : TA}
/-- what is walked lets out -/
theorem s_forX (h : EvX te σ H) : tFor (iList K te) g tb D σ H := h H (Same.refl H) _
theorem evx_lc (h : EvX te σ H) : EvX (tLc (iList K te) g tt te2 vs) σ H := fun H1 s Q => h H1 s _
/-- an argument lets out -/
theorem evx_arg {r : List V → Hp → VK → Prop} (h : EvX te σ H) : EvX (tCB r (tCons te t)) σ H := fun H1 s Q => h H1 s _
theorem But.refl (l : Addr) (H : Hp) : But l H H := fun _ _ _ e => e
theorem But.trans {l : Addr} {H1 H2 H3 : Hp} (a : But l H1 H2) (b : But l H2 H3) : But l H1 H3 := fun p o n e => b p o n (a p o n e)
theorem Same.but {H1 H2 : Hp} (l : Addr) (s : Same H1 H2) : But l H1 H2 := fun p o _ e => s p o e
/-- for over a new list, the body changing one list that stood -/
theorem s_forNB {ds : List PyData} {l : Addr} {o : HO} (h : EvN te σ H ds) (hl : H l = some o) (Pv : Hp → Nat → L2.St → Hp → Prop) (h0 : ∀ H1, Same H H1 → Pv H1 0 σ H1) (hk : ∀ H1 i σ2 H2, Pv H1 i σ2 H2 → But l H1 H2 ∧ Tk H1 H2)
    (hs : ∀ H1 i d x σ2 H2, Same H H1 → ds[i]? = some d → Im H2 x d → Pv H1 i σ2 H2 → g x σ2 H2 fun σ3 H3 => tb { D with nx := Pv H1 (i + 1), ct := Pv H1 (i + 1), bk := D.nx } σ3 H3)
    (hd : ∀ H1 σ2 H2, Same H H1 → Pv H1 ds.length σ2 H2 → D.nx σ2 H2) : tFor (iList K te) g tb D σ H := h H (Same.refl H) _ fun p xs H1 s np e ia => by
  have ne : p ≠ l := fun z => by
    rw [z, hl] at np
    cases np
  refine ⟨p, rfl, ⟨xs, SqL.of e⟩, for_list (xs := xs) (Pv H1) (h0 H1 s) (fun i σ2 H2 _ q => SqL.of ((hk H1 i σ2 H2 q).1 _ _ ne e)) (fun i x σ2 H2 hx q => ?_) fun σ2 H2 q => hd H1 σ2 H2 s ?_⟩
  · obtain ⟨d, hd', imx⟩ := ia.getv hx
    exact hs H1 i d x σ2 H2 s hd' (imx.tk (hk H1 i σ2 H2 q).2) q
  · rw [← ia.len]
    exact q
end
/-- [xs, ys, zs][i] -/
theorem evs_pick {K : PySem.W.Frag} {σ : L2.St} {H : Hp} {t1 t2 t3 tb : TE} {r1 r2 r3 rs : List PyData} {i : Int} {j : Nat} (h1 : EvS t1 σ H r1) (h2 : EvS t2 σ H r2) (h3 : EvS t3 σ H r3) (hb : EvD tb σ H (.int i)) (hi : i = (j : Nat)) (hr : [r1, r2, r3][j]? = some rs) :
    EvS (tOp (rIx K) (tLst (tCons t1 (tCons t2 (tCons t3 tNil)))) tb) σ H rs := fun H1 s Q q =>
  h1 H1 s _ fun l1 v1 H2 s2 e1 k1 => h2 H2 (s.trans s2) _ fun l2 v2 H3 s3 e2 k2 => h3 H3 ((s.trans s2).trans s3) _ fun l3 v3 H4 s4 e3 k3 => ⟨by show 3 ≤ sizeLine; decide, fun p hp => hb _ ((((s.trans s2).trans s3).trans s4).trans (same_upd hp)) _ fun y H5 s5 i5 => by
    have t4 := same_upd (o := .lst [.ref l1, .ref l2, .ref l3]) hp
    have g : SqL K H5 p [.ref l1, .ref l2, .ref l3] := SqL.of (s5 _ _ upd_same)
    have sq := ((s2.trans s3).trans s4).trans (t4.trans s5)
    have c3 := t4.trans s5
    have c2 := s4.trans c3
    have c1 := s3.trans c2
    cases j with
    | zero =>
      cases hr
      exact .inl ⟨p, _, i, .ref l1, rfl, i5.intv, g, atI_ofNat hi rfl, q l1 v1 H5 sq (c1 _ _ e1) (k1.sm c1)⟩
    | succ j =>
      cases j with
      | zero =>
        cases hr
        exact .inl ⟨p, _, i, .ref l2, rfl, i5.intv, g, atI_ofNat hi rfl, q l2 v2 H5 sq (c2 _ _ e2) (k2.sm c2)⟩
      | succ j =>
        cases j with
        | zero =>
          cases hr
          exact .inl ⟨p, _, i, .ref l3, rfl, i5.intv, g, atI_ofNat hi rfl, q l3 v3 H5 sq (c3 _ _ e3) (k3.sm c3)⟩
        | succ j => simp at hr⟩
/-- the deeds of one turning -/
def dlT (k : List Nat) (w h : Nat) (t : Int) : List (Int × Int × Int) := (List.range (wideK k w)).flatMap fun (a : Nat) => (List.range (wideK k h)).map fun (b : Nat) => (t, (a : Int), (b : Int))
theorem dl_eq (k : List Nat) (w h : Nat) : dl k w h = (tl k).flatMap (dlT k w h) := rfl
theorem flat_take {α β : Type} (f : α → List β) {l : List α} {i : Nat} {x : α} (h : l[i]? = some x) : (l.take (i + 1)).flatMap f = (l.take i).flatMap f ++ f x := by
  rw [take_next h, List.flatMap_append]
  simp
theorem flat_range {β : Type} (f : Nat → List β) (n : Nat) : (List.range (n + 1)).flatMap f = (List.range n).flatMap f ++ f n := by
  rw [List.range_succ, List.flatMap_append]
  simp
theorem flat_le {α β : Type} (f : α → List β) (n : Nat) (h : ∀ x, (f x).length ≤ n) (l : List α) : (l.flatMap f).length ≤ l.length * n := by
  induction l with
  | nil => simp
  | cons a l ih =>
    rw [List.flatMap_cons, List.length_append, List.length_cons, Nat.add_mul]
    have := h a
    omega
/-! ### kinships counted -/
theorem tl_len (k : List Nat) : (tl k).length ≤ 8 := by
  unfold tl
  by_cases q : 113 ∈ k <;> by_cases h : 104 ∈ k <;> by_cases m : 109 ∈ k <;> simp [q, h, m]
theorem tl_rng {k : List Nat} {t : Int} (h : t ∈ tl k) : 0 ≤ t ∧ t < 8 := by
  unfold tl at h
  by_cases q : 113 ∈ k <;> by_cases e : 104 ∈ k <;> by_cases m : 109 ∈ k <;> simp [q, e, m] at h <;> omega
theorem tl_odd {k : List Nat} {t : Int} (h : t ∈ tl k) (hq : 113 ∉ k) : t % 2 = 0 := by
  unfold tl at h
  by_cases e : 104 ∈ k <;> by_cases m : 109 ∈ k <;> simp [hq, e, m] at h <;> omega
theorem wideK_le {k : List Nat} {w : Nat} (h1 : 1 ≤ w) : 1 ≤ wideK k w ∧ wideK k w ≤ w := by
  unfold wideK
  by_cases e : 115 ∈ k <;> simp [e] <;> omega
theorem dl_good {k : List Nat} {w h : Nat} (dm : Dim w h) (hs : 113 ∈ k → w = h) {e : Int × Int × Int} (m : e ∈ dl k w h) : GoodD e w h := by
  unfold dl at m
  obtain ⟨t, ht, m⟩ := List.mem_flatMap.mp m
  obtain ⟨a, ha, m⟩ := List.mem_flatMap.mp m
  obtain ⟨b, hb, rfl⟩ := List.mem_map.mp m
  have ha := List.mem_range.mp ha
  have hb := List.mem_range.mp hb
  have wa := wideK_le (k := k) dm.w1
  have wb := wideK_le (k := k) dm.h1
  have r := tl_rng ht
  refine ⟨r.1, r.2, ?_, ?_, ?_, ?_, fun o => ?_⟩
  · show (0 : Int) ≤ (a : Int); omega
  · show (a : Int) < _; omega
  · show (0 : Int) ≤ (b : Int); omega
  · show (b : Int) < _; omega
  · refine hs (Decidable.byContradiction fun n => ?_)
    have z := tl_odd ht n
    have o' : t % 2 = 1 := o
    omega
end Bk

namespace Bk
open PySem PySem.Spec PyProof.Rows L2 SX
/-! ### a comprehension whose element lets out -/
theorem note_same {a b : Env} (h : a.frame = b.frame) (e : Value) : noteFrame e a = noteFrame e b := by
  simp only [PySem.noteFrame, PySem.frameOf, h]
theorem pass_same {α : Type} {w : String} {a b : Env} (h : a.frame = b.frame) (e : Value) : (PySem.passOn w e a : Sem α) = PySem.passOn w e b := by
  simp only [PySem.passOn, h]
section
variable {M : Model} {A : Around} {E : Value → Shared → Prop} {s : Shared} {env : Env}
/-- how a block ends: c its env -/
def blkEnd (M : Model) (A : Around) (E : Value → Shared → Prop) (Q : Value → Shared → Prop) (acc : Value) (c : Env) : Result → Shared → Prop
  | .ok _, t => ∃ m, t.heap.Ns c.locals m ∧ ∀ g, Heap.SameBut c.locals t.heap g → Q acc { t with heap := g }
  | .error x, t => ∃ m, t.heap.Ns c.locals m ∧ ∀ g, Heap.SameBut c.locals t.heap g → wpAny M A (PySem.passOn "comprehension.variables-let-go" x c : Sem Value) (fun _ _ => False) E { t with heap := g }
abbrev relE (sc : Scope) (env c : Env) : Env := { c with scope := relabel sc env }
theorem comp_own {e : Expr} {sc : Scope} {pos : Pos} {mk fst : Sem Value} {g : Comprehension} {gs : List Comprehension} {cl : List (Str × Addr)} {Q : Value → Shared → Prop}
    (c1 : clausesOf e = g :: gs) (c2 : ∀ x, foldedSetIterable g.iter env x = pure x) (c3 : closureFor sc env = pure cl) (c4 : sc.kind = .function) (c5 : ∀ x ∈ sc.names, x.2 = .local → sc.names.lookup x.1 = some .local)
    (h : wpAny M A fst (fun x t1 => wpAny M A (pyIter x) (fun it t2 => wpAny M A mk (fun acc t3 => wpAny M A (newFunctionEnv sc env.globals cl [] env.qual none .none (some env)) (fun c t4 =>
      codeAny M A (.compStart e 0 it acc (relE sc env c)) (blkEnd M A E Q acc (relE sc env c)) t4) E t3) E t2) E t1) E s) :
    wpAny M A (PySem.comprehension e sc env pos mk false fst none) Q E s := by
  unfold PySem.comprehension
  rw [c3, c1]
  refine wpAny_bind (wpAny_mono h (fun x t1 k1 => wpAny_bind (wpAny_standAt (wpAny_bind (wpAny_of_eq (c2 x) (wpAny_bind (wpAny_holding (wpAny_mono k1 (fun it t2 k2 => wpAny_standIf (wpAny_bind (wpAny_mono k2 (fun acc t3 k3 => ?_) fun _ _ z => z))) fun _ _ z => z))))))) fun _ _ z => z)
  refine wpAny_bind (wpAny_pure (wpAny_bind (wpAny_mono k3 (fun c t4 k4 => ?_) fun _ _ z => z)))
  dsimp only
  have lk : ∀ x ∈ (sc.names.filter fun x => (x.2 == .local || x.2 == .cell) && x.1 != (".0" : Str)).reverse, x.2 = .local → (relE sc env c).kindOf x.1 = some .local := fun x hx hl =>
    lookup_relabel_local (c5 x (List.mem_filter.mp (List.mem_reverse.mp hx)).1 hl)
  refine wpAny_holding (wpAny_bind (wpAny_attempt (wpAny_holding (wpAny_run (codeAny_mono k4 fun r t5 k5 => ?_)))))
  cases r with
  | ok f =>
    obtain ⟨m, hn, q⟩ := k5
    exact wpAny_bind (wpAny_holding (wpAny_comp_letGo (cenv := relE sc env c) c4 _ t5 m lk hn fun g _ _ sb => wpAny_pure (q g sb)))
  | error x =>
    obtain ⟨m, hn, q⟩ := k5
    exact wpAny_bind (wpAny_holding (wpAny_comp_letGo (cenv := relE sc env c) c4 _ t5 m lk hn fun g _ _ sb => wpAny_mono (q g sb) (fun _ _ z => z.elim) fun _ _ z => z))
end
/-- frames elsewhere -/
theorem frames_else {h h2 B B2 : Heap} : ∀ {l : List Env}, h.FunFrames B l → (∀ L, L ∈ frs l → B2.get? L = none ∧ h2.get? L = h.get? L) → h2.FunFrames B2 l
  | [], _, _ => trivial
  | v :: l, ⟨k, ⟨L, o, f, _, ho, d⟩, r⟩, n => by
    obtain ⟨n1, n2⟩ := n L (List.mem_filterMap.mpr ⟨v, .head _, f⟩)
    refine ⟨k, ⟨L, o, f, n1, n2.trans ho, d⟩, frames_else r fun L2 m => ?_⟩
    obtain ⟨v2, hv, q⟩ := List.mem_filterMap.mp m
    exact n L2 (List.mem_filterMap.mpr ⟨v2, .tail _ hv, q⟩)
theorem hid_none {B : Heap} {C b : Addr} (h : B.get? b = none) : (PySem.W.hideAll B [C]).get? b = none := by
  cases q : (PySem.W.hideAll B [C]).get? b with
  | none => rfl
  | some o =>
    have z := PySem.W.of_hideAll [C] q
    rw [h] at z
    cases z
theorem hid_ne {B : Heap} {C b : Addr} {o : Obj} (h : (PySem.W.hideAll B [C]).get? b = some o) : b ≠ C := fun e => by
  rw [e, PySem.W.hideAll_none [C] (.head _)] at h
  cases h
/-- a call's exception leaves the block: first noted, then the block's names let go, then passed on -/
theorem blk_out {X : Cx} {pins pins' : List (Addr × Obj)} {σ σ' : L2.St} {H3 H : Hp} {s3 s s' : Shared} {scope : Scope} {ce : Env} {fp : List Addr} {Wo : WX} {Q : Value → Shared → Prop} {acc e : Value} {xe : Value → Shared → Prop}
    (hst : X.stack = X.env :: X.outer) (hfr : X.env.frame = some X.env.locals) (tk : Takes X Wo) (I3 : Inv X pins σ H3 s3) (f3 : ∀ b ∈ fp, FpOk X pins H3 b) (cf : ce.frame = X.env.frame) (cL : ce.locals = s3.heap.objs.size)
    (I : Inv ((X.blk s3 H3 scope ce fp).wish xe) pins' σ' H s) (c : L2.CX X.prog X.w X.stack H s (fun cls d H' => Wo cls d σ H') e s') :
    notedBy (model X.prog X.w) X.A ce (fun x t => blkEnd (model X.prog X.w) X.A X.xe Q acc ce (.error x) t) e s' := by
  obtain ⟨a, B, H', cls, d, rfl, fl, hok, ub, na, os, ag, w⟩ := c
  have hA : X.A.frames = some (X.env :: X.outer) := by rw [I3.ok.frames, hst]
  obtain ⟨m, hn, _⟩ := I.loc
  have hn : s.heap.Ns ce.locals m := hn
  have hC : H ce.locals = none := I.free
  have C3 : ∀ o, s3.heap.get? ce.locals ≠ some o := fun o z => absurd (Heap.lt_size z) (by rw [cL]; exact Nat.lt_irrefl _)
  have Cfs : ce.locals ∉ frs X.stack := fun z => by
    obtain ⟨_, o, eo, _⟩ := I3.stack.mem z
    exact C3 o eo
  obtain ⟨oC, esC, epC, eC, rC⟩ := id hn
  have BC : B.get? ce.locals = some oC := ub.keep _ _ eC hC Cfs
  show wpAny (model X.prog X.w) X.A (noteFrame (.ref a) ce) (fun _ t => blkEnd (model X.prog X.w) X.A X.xe Q acc ce (.error (.ref a)) t) _ s'
  rw [note_same cf]
  have fl' := fl
  rw [hst] at fl'
  refine HandSPX.looks_onZ Zc.steady hA hfr fl' fun h1 ⟨k1, k2, k3, oe, vs, T, oT, ts, e1, z1, d1, p1, nT, neT, eT, dT, p3⟩ up1 => ?_
  refine ⟨m, ⟨oC, esC, epC, k1 _ _ BC, rC⟩, fun h2 sb => ?_⟩
  have st2 : (PySem.W.hideAll B [ce.locals]).StaysIn h2 := fun b o q => (sb.2 b (hid_ne q)).trans (k1 b o (PySem.W.of_hideAll [ce.locals] q))
  have naC : a ≠ ce.locals := fun z => by rw [z, BC] at k2; cases k2
  have nTC : T ≠ ce.locals := fun z => by rw [z, BC] at nT; cases nT
  have tr2 : HandSPX.TracedZ h2 (PySem.W.hideAll B [ce.locals]) a (Zc cls d) (rawInt X.env.locals) := ⟨oe, vs, T, oT, ts, (sb.2 a naC).trans e1, z1, d1, p1, hid_none nT, neT, (sb.2 T nTC).trans eT, dT, p3⟩
  have ff2 : h2.FunFrames (PySem.W.hideAll B [ce.locals]) (X.env :: X.outer) := frames_else k3 fun L hL => ⟨hid_none (k3.mem hL).1, sb.2 L fun z => Cfs (by rw [← z, hst]; exact hL)⟩
  rw [pass_same cf]
  unfold PySem.passOn
  refine wpAny_bind (wpAny_field ((sb.2 a naC).trans e1) d1 p1 ?_)
  rw [if_neg (show ¬ ((Value.ref T == Value.none) = true) from by simp)]
  have fin : wpAny (model X.prog X.w) X.A (setFlight (.ref a) X.env.frame) (fun _ t => wpAny (model X.prog X.w) X.A (throw (.ref a) : Sem Value) (fun _ _ => False) X.xe t) X.xe { s' with heap := h2 } := by
    rw [hfr]
    refine HandSPX.setFlight_anyZ st2 ff2 tr2 fun h4 q1 q2 q3 up3 => wpAny_throw (tk _ _ ?_)
    obtain ⟨G, g1, g2⟩ := restrict s'.heap fun b => ((PySem.W.hideAll B [ce.locals]).get? b).isSome || decide (b ∈ frs X.stack)
    have stB : ∀ b o, (PySem.W.hideAll B [ce.locals]).get? b = some o → s'.heap.get? b = some o := fun b o q => fl.1 b o (PySem.W.of_hideAll [ce.locals] q)
    have inB : ∀ b o, (PySem.W.hideAll B [ce.locals]).get? b = some o → G.get? b = some o := fun b o q => (g1 b (by rw [q]; rfl)).trans (stB b o q)
    have inF : ∀ b, b ∈ frs X.stack → G.get? b = s'.heap.get? b := fun b z => g1 b (by rw [decide_eq_true z, Bool.or_true])
    have ofG : ∀ b o, G.get? b = some o → s'.heap.get? b = some o ∧ (b ∈ frs X.stack ∨ (PySem.W.hideAll B [ce.locals]).get? b = some o) := fun b o q => by
      by_cases hp : (((PySem.W.hideAll B [ce.locals]).get? b).isSome || decide (b ∈ frs X.stack)) = true
      · rw [g1 b hp] at q
        refine ⟨q, ?_⟩
        rcases Bool.or_eq_true_iff.mp hp with z | z
        · obtain ⟨o2, z⟩ := Option.isSome_iff_exists.mp z
          have z2 := stB b o2 z
          rw [q] at z2
          cases z2
          exact .inr z
        · exact .inl (of_decide_eq_true z)
      · rw [g2 b (Bool.not_eq_true _ ▸ hp)] at q
        cases q
    have keepB : ∀ b o, s3.heap.get? b = some o → H3 b = none → b ∉ frs X.stack → b ∉ fp → (PySem.W.hideAll B [ce.locals]).get? b = some o := fun b o e3 n3 nf np =>
      PySem.W.hideAll_get [ce.locals] (ub.keep b o (I.base.keep b o e3 n3 nf np) (I.base.free b o e3 n3 np) nf) fun z => C3 o (by rw [← List.mem_singleton.mp z]; exact e3)
    have hokB : HOk X.prog X.w H' (PySem.W.hideAll B [ce.locals]) := fun b u e => (hok b u e).stay (fun x v hx q => PySem.W.hideAll_get [ce.locals] q fun z => by
      have z := List.mem_singleton.mp z
      have nC : H' ce.locals = none := ub.free _ _ eC hC
      rcases hx with y | y
      · rw [← y, z, nC] at e
        cases e
      · rw [z, nC] at y
        cases y) (fun _ q => q) fun _ _ q => q
    refine ⟨a, PySem.W.hideAll B [ce.locals], { s3 with heap := G, gens := s'.gens, drawn := s'.drawn, toks := s'.toks }, pins, σ, H', cls, d, rfl, ?_, fun b o q nb => (ofG b o q).2.resolve_left nb, fun b o q nf => ?_, .inr (.inr (by rw [hst]; exact ⟨q1, hid_none k2, q2, q3⟩)), na, os.trans I.os, ag, w⟩
    · refine I3.call (ch := fp) ⟨fun b o e3 n3 nf np => inB b o (keepB b o e3 n3 nf np), fun b o e3 n3 hf np => ?_, fun b o e3 n3 np => ?_, fun b o e3 np => ?_, fun b xs q => ub.tups _ _ (I.base.tups _ _ q), fun b o u q => ub.frzs _ _ _ (I.base.frzs _ _ _ q), fun b ps q => ?_⟩ (hokB.kept inB) ag
        fun b hb => ⟨(f3 b hb).2.2.2.1, (f3 b hb).2.1, (f3 b hb).2.2.2.2.1, (f3 b hb).2.2.2.2.2⟩
      · obtain ⟨sl, e4⟩ := I.base.slot b o e3 n3 hf np
        obtain ⟨sl2, e5⟩ := ub.slot b _ e4 hf
        exact ⟨sl2, (inF b hf).trans e5⟩
      · obtain ⟨o2, e4⟩ := I.base.there b o e3 np
        exact ub.free b o2 e4 (I.base.free b o e3 n3 np)
      · obtain ⟨o2, e4⟩ := I.base.there b o e3 np
        by_cases hf : b ∈ frs X.stack
        · obtain ⟨sl, e5⟩ := ub.slot b _ e4 hf
          exact ⟨_, (inF b hf).trans e5⟩
        · obtain ⟨o3, e5⟩ := ub.there b o2 e4 hf
          exact ⟨o3, inB b o3 (PySem.W.hideAll_get [ce.locals] e5 fun z => C3 o (by rw [← List.mem_singleton.mp z]; exact e3))⟩
      · obtain ⟨m1, e4⟩ := I.base.tbls b ps q
        obtain ⟨m2, e5⟩ := ub.tbls b _ e4
        exact ⟨m1 ++ m2, by rw [e5, Array.append_assoc]⟩
    · have bC : b ≠ ce.locals := fun z => by
        rcases (ofG b o q).2 with y | y
        · exact Cfs (z ▸ y)
        · exact hid_ne y z
      obtain ⟨sl, e4⟩ := up1 b o (ofG b o q).1 nf
      obtain ⟨sl2, e5⟩ := up3 b _ ((sb.2 b bC).trans e4) nf
      exact ⟨sl2, e5⟩
  first
    | exact wpAny_bind (wpAny_pure (wpAny_bind fin))
    | exact wpAny_bind fin
/-- the reading: as tLc, the element's with a wish for what it lets out -/
def tLcX (wi : TI) (g : TG) (tt : TT) (te : WX → TE) (vs : List Nat) (Wo : WX) : TE := fun σ H Q => tLc wi g tt (te fun cls d _ H' => Wo cls d σ H') vs σ H Q
section
variable {X : Cx}
theorem pe_lcX {elt tg iter : Expr} {ifs : List Expr} {scope : Scope} {own : List (Str × Nat)} {pos : Pos} {wi : TI} {g : TG} {tt : TT} {te : WX → TE} {Wo : WX}
    (hst : X.stack = X.env :: X.outer) (hfr : X.env.frame = some X.env.locals) (tk : Takes X Wo) (hc : X.calm = true) (hN : X.N.Nodup) (hi : PI X tg iter wi) (ok : BlkOk X.N X.env.scope scope own)
    (hg : ∀ (s : Shared) (H : Hp) (C : Addr) (cl : List (Str × Addr)) (fp : List Addr), PG (X.blk s H scope (compEnvC scope cl C X.env) fp) tg g)
    (ht : ∀ (s : Shared) (H : Hp) (C : Addr) (cl : List (Str × Addr)) (fp : List Addr), PTs (X.blk s H scope (compEnvC scope cl C X.env) fp) ifs tt)
    (he : ∀ (s : Shared) (H : Hp) (C : Addr) (cl : List (Str × Addr)) (fp : List Addr) (xe : Value → Shared → Prop) (W : WX), (∀ σ, PassesAt (L2.CX X.prog X.w) ((X.blk s H scope (compEnvC scope cl C X.env) fp).wish xe) σ (WE W σ)) →
      PE ((X.blk s H scope (compEnvC scope cl C X.env) fp).wish xe) elt (te W))
    (hs : ∀ x, foldedSetIterable iter X.env x = pure x := by intro _; rfl) :
    PE X (.ListComp elt [⟨tg, iter, ifs, 0⟩] scope pos) (tLcX wi g tt te (own.map (·.2)) Wo) := by
  refine ⟨fun pins s σ H Q I h => ?_⟩
  rw [eval_ListComp]
  have clos : ∀ y ∈ scope.names, y.2 = .free → ∃ c, X.env.cells.lookup y.1 = some c := fun y m e => I.ok.has y.1 (ok.free y m e)
  refine comp_own rfl hs (closure_ok clos) ok.kind (fun y m e => by rw [ok.uniq y m, e]) (thn (hi.run pins s σ H _ I h) fun xv t1 r1 => thn r1 fun itv t2 r2 => ?_)
  obtain ⟨it, fp, tn, J, H2, rfl, I2, T, n2, f2, q⟩ := r2
  refine wpAny_newObj_type (newEnv_comp ?_) (Nat.zero_le _)
  generalize hD : t2.heap.objs.size = D
  obtain ⟨W, ⟨m0, w0⟩, turn⟩ := q D (I2.hok.fresh (Nat.le_of_eq hD))
  generalize h3 : t2.heap.push { cls := .type "list", data := .seq ([] : List Value).toArray } = g3
  have I3 : Inv X pins σ (upd H2 D (.lst [])) { t2 with heap := g3 } := by
    rw [← h3]
    exact I2.laid (t' := t2.toks) (fun b o e => Heap.get?_push_of_some _ e) (Nat.le_of_eq hD) ⟨Nat.zero_le _, [], 0, .nil, hD ▸ Heap.get?_push_size _ rfl⟩
  generalize hs3 : ({ t2 with heap := g3 } : Shared) = s3 at I3 ⊢
  have e3 : s3.heap = t2.heap.push { cls := .type "list", data := .seq ([] : List Value).toArray } := by rw [← hs3, ← h3]
  have lt2 : ∀ b ∈ fp, b < t2.heap.objs.size := fun b m => let ⟨_, e, _⟩ := T.obj _ _ n2 b m; Heap.lt_size e
  have f3 : ∀ b ∈ fp, FpOk X pins (upd H2 D (.lst [])) b ∧ b < s3.heap.objs.size := fun b m => by
    refine ⟨⟨?_, (f2 b m).2⟩, by rw [e3, Heap.size_push]; exact Nat.lt_succ_of_lt (lt2 b m)⟩
    rw [upd_ne (hD ▸ Nat.ne_of_lt (lt2 b m))]
    exact (f2 b m).1
  have n3 : tn 0 s3.heap := T.keep _ _ _ n2 fun b _ o e => e3 ▸ Heap.get?_push_of_some _ e
  have I4 := block_start I3 ok hN f3
  generalize hcl : cellsFrom (s3.heap.objs.size + 1) scope.names (cloFrom X.env.cells scope.names []) = cl at I4 ⊢
  generalize hH3 : upd H2 D (.lst []) = H3 at I3 I4 w0 f3
  show codeAny _ _ (.compStart (.ListComp elt [⟨tg, iter, ifs, 0⟩] scope pos) 0 (.ref it) (.ref D) (compEnvC scope cl s3.heap.objs.size X.env)) (blkEnd (model X.prog X.w) X.A X.xe (EP X pins σ Q) (.ref D) (compEnvC scope cl s3.heap.objs.size X.env)) { s3 with heap := pushCells (s3.heap.push { cls := .type "dict", data := .dict #[] }) scope.names }
  have pg := hg s3 H3 s3.heap.objs.size cl fp
  have pt := ht s3 H3 s3.heap.objs.size cl fp
  have pe := he s3 H3 s3.heap.objs.size cl fp
  generalize hce : compEnvC scope cl s3.heap.objs.size X.env = ce at I4 pg pt pe ⊢
  have cL : ce.locals = s3.heap.objs.size := by rw [← hce]; rfl
  have cF : ce.frame = X.env.frame := by rw [← hce]; rfl
  generalize hs4 : ({ s3 with heap := pushCells (s3.heap.push { cls := .type "dict", data := .dict #[] }) scope.names } : Shared) = s4 at I4 ⊢
  have n4 : tn 0 s4.heap := T.keep _ _ _ n3 fun b _ o e => hs4 ▸ pushCells_keeps _ _ _ _ (Heap.get?_push_of_some _ e)
  have wide : ∀ {σ1 : L2.St} {H1 : Hp} {t : Shared}, Inv (X.blk s3 H3 scope ce fp) [] σ1 H1 t → (∀ b ∈ fp, H1 b = none) → ∀ b ∈ fp, FpOk (X.blk s3 H3 scope ce fp) [] H1 b := fun {σ1 H1 t} K n b m =>
    ⟨n b m, (K.ok.exf b m).1, K.ok.exfs b m, .inl m, fun x c e => (K.ok.exf b m).2 x c e, fun p hp => nomatch hp⟩
  have outs : ∀ (σ1 : L2.St), PassesAt (L2.CX X.prog X.w) ((X.blk s3 H3 scope ce fp).wish (notedBy (model X.prog X.w) X.A ce fun x t => blkEnd (model X.prog X.w) X.A X.xe (EP X pins σ Q) (.ref D) ce (.error x) t)) σ1 (WE (fun cls d _ H' => Wo cls d σ H') σ1) :=
    fun σ1 pins1 H1 t1 e t2 K c => blk_out hst hfr tk I3 (fun b m => (f3 b m).1) cF cL K c
  have pe := pe _ _ outs
  refine codeAny_compStart_list ?_ (T.self X.A 0 _ _ _ n4 ?_)
  all_goals
    refine compLoop_any (fun n t => ∃ i H1, Inv (X.blk s3 H3 scope ce fp) [] (wipe σ (own.map (·.2))) H1 t ∧ tn i t.heap ∧ (∀ b ∈ fp, H1 b = none) ∧ W i n H1) (fun n s5 ⟨i, H5, I5, n5, z5, w5⟩ => ?_) m0 ⟨0, H3, I4, n4, fun b m => (f3 b m).1.1, w0⟩
    rcases turn i n H5 w5 with ⟨stop, qq⟩ | ⟨go, Nx, hNx, step⟩
    · refine thnF (T.done (X.blk s3 H3 scope ce fp) rfl rfl rfl hc i [] s5 _ H5 (fun _ _ => False) I5 (wide I5 z5) n5 stop) fun r s6 ⟨hr, I6⟩ => ?_
      subst hr
      have I7 : Inv X pins σ H5 s6 := I3.call' (ch := fp) I6.os I6.base I6.hok I6.bare fun b m => ⟨(f3 b m).1.2.2.2.1, (f3 b m).1.2.1, (f3 b m).1.2.2.2.2.1, (f3 b m).1.2.2.2.2.2⟩
      have nC : H5 ce.locals = none := I6.free
      obtain ⟨m, hn, _⟩ := I6.loc
      refine ⟨m, hn, fun g6 sb => ?_⟩
      obtain ⟨y0, y1, y2, y3, y4, y5⟩ := I3.fpOk (b := ce.locals) (Nat.le_of_eq cL.symm) nC
      exact ⟨.ref D, H5, I7.turned (t' := s6.toks) (fun b o hb e => (sb.2 b hb).trans e) y0 y1 y3 y4 y5, rfl, qq⟩
    · refine thnF (T.item (X.blk s3 H3 scope ce fp) rfl rfl rfl hc i [] s5 _ H5 (fun _ _ => False) I5 (wide I5 z5) n5 go) fun r s6 ⟨u, hr, r6⟩ => ?_
      subst hr
      refine thnF r6 fun _ s7 ⟨x, H7, I7, r7, y7, n7, z7⟩ => ?_
      refine thnF (pg.run _ s7 _ H7 x u _ (I7.pinned (wide I7 z7) (T.obj _ _ n7)) r7 (step x H7 y7)) fun _ s8 ⟨σ8, H8, I8, hw8, q8⟩ => ?_
      refine thnF (pt.run _ s8 σ8 H8 _ I8 q8) fun b s9 ⟨H9, I9, q9⟩ => ?_
      have fin : ∀ {t : Shared} {H1 : Hp}, Inv (X.blk s3 H3 scope ce fp) ([] ++ pinsAt fp s7.heap) σ8 H1 t → Nx H1 → ∃ m, m < n ∧ ∃ i H1, Inv (X.blk s3 H3 scope ce fp) [] (wipe σ (own.map (·.2))) H1 t ∧ tn i t.heap ∧ (∀ b ∈ fp, H1 b = none) ∧ W i m H1 := fun {t H1} K nx => by
        obtain ⟨m, hm, wm⟩ := hNx H1 nx
        have pn : ∀ b ∈ fp, ∀ o, s7.heap.get? b = some o → t.heap.get? b = some o ∧ H1 b = none := fun b hb o e => by
          have z := K.pin (b, o) (List.mem_append_right _ (List.mem_append_right _ (mem_pinsAt hb e)))
          exact ⟨z.1, z.2.1⟩
        refine ⟨m, hm, i + 1, H1, (K.unpinned (pins := [])).weak (by rw [← hw8, wipe_length]) (fun j v e => (wipe_some (hw8 ▸ e)).1), T.keep _ _ _ n7 fun b hb o e => (pn b hb o e).1, fun b hb => ?_, wm⟩
        obtain ⟨o, e, _⟩ := T.obj _ _ n7 b hb
        exact (pn b hb o e).2
      cases b with
      | false => exact fin I9 q9
      | true =>
        refine wpAny_mono (pe.run _ s9 σ8 H9 _ (I9.wish _) q9) (fun z s10 ⟨yv, H10, I10, r10, acc, a1, a2, nx⟩ => ?_) fun _ _ z => z
        exact app_ok (X := X.blk s3 H3 scope ce fp) I10.unwish a1 a2 r10 fun s11 I11 => fin I11 nx
end
end Bk

namespace Bk
open PySem PySem.Spec PyProof.Rows L2 SX
/-! ### defs that let out where nothing is handled -/
section
variable {P : Program} {w : World} {K : PySem.W.Frag} {mg : Str → Option Value} {base : Heap}
theorem dokN {x : Str} {st : Stmt} {N ps : List Str} {k : Nat} {sp : Sp} (D : Dtx K mg x st ps) (S : FnScope N ps (defScope st)) (len : ∀ vs H Q E, sp vs H Q E → vs.length = ps.length)
    (hbody : ∀ (f : Addr) (cdv : Value) (A : Around) (outer : List Env) (s : Shared) (H : Hp) (vs : List V) (Q : VK) (E : XK), Room k (A.deeper (envOfC x (defScope st) s.heap.objs.size f cdv)) → sp vs H Q E →
      ∃ t, PSs (cxOf (L2N.CX P w) P w K mg base N x (defScope st) f cdv A outer s H E) (defBody st) t ∧ t { nx := fun _ H' => Q .non H', rt := Q } (start N vs) H) : DfOk P w K mg base (L2N.CX P w) (k + 1) x ps sp := by
  obtain ⟨f, fd, F, hm, hb⟩ := D.ex
  refine ⟨f, fd, ?_, hm, F.kp, hb⟩
  obtain ⟨oc, od, kV, doc, pm, an, cdv, ct, osl, rfl, lk, hcd⟩ := F.ex
  exact fn_of lk hcd S len fun A outer s H vs Q E hr h => hbody f cdv A outer s H vs Q E hr h
end
section
variable {X : Cx} {k : Nat} {x : Str} {ps : List Str} {sp : Sp} {p pos : Pos} {e : Expr} {es : List Expr} {t : TA} {W : WX}
theorem pe_cdN (D : DfOk X.prog X.w X.K X.mg X.base (L2N.CX X.prog X.w) k x ps sp) (hr : Room k X.A) (hg : Gl X x) (tk : L2N.Takes X W) (ha : PA X (e :: es) t) (hdb : (x == ("__debug__" : Str)) = false := by decide)
    (he : starEach (e :: es) X.env = (false, eval e X.env) :: starEach es X.env := by rfl) (hpl : (backTo pos (starEach es X.env)).any (·.1) = false := by rfl) :
    PE X (.Call (.Name x p) (e :: es) [] pos) (tCallS sp (WE W) t) :=
  ⟨fun pins s σ H Q I h => by
    obtain ⟨f, fd, F, hm, hk, hb⟩ := D.ex
    exact (pe_callS F hr hg hm hk hb (fun σ => L2N.passAt tk σ) ha hdb he hpl).run pins s σ H Q I h⟩
/-- within a comprehension that may let out -/
theorem pe_cdS (D : DfOk X.prog X.w X.K X.mg X.base (L2.CX X.prog X.w) k x ps sp) (hr : Room k X.A) (hg : Gl X x) (hx : ∀ σ, PassesAt (L2.CX X.prog X.w) X σ (WE W σ)) (ha : PA X (e :: es) t) (hdb : (x == ("__debug__" : Str)) = false := by decide)
    (he : starEach (e :: es) X.env = (false, eval e X.env) :: starEach es X.env := by rfl) (hpl : (backTo pos (starEach es X.env)).any (·.1) = false := by rfl) :
    PE X (.Call (.Name x p) (e :: es) [] pos) (tCallS sp (WE W) t) :=
  ⟨fun pins s σ H Q I h => by
    obtain ⟨f, fd, F, hm, hk, hb⟩ := D.ex
    exact (pe_callS F hr hg hm hk hb hx ha hdb he hpl).run pins s σ H Q I h⟩
end
/-! ### a comprehension lets out at the element j -/
section
variable {K : PySem.W.Frag} {σ : L2.St} {H : Hp}
theorem evx_lcX {β : Type} {g : β → PyData} {bs : List β} {wi : TI} {k : Nat} {te : WX → TE} {Wo : WX} {f : β → PyData} {j : Nat} {bj : β} (hi : EvI wi σ H (bs.map g)) (hj : bs[j]? = some bj)
    (h0 : ∀ (b : β) v H', b ∈ bs.take j → Same H H' → Im H' v (g b) → EvD (te fun cls d _ H2 => Wo cls d σ H2) (σ.set k (some v)) H' (f b))
    (h1 : ∀ v H', Same H H' → Im H' v (g bj) → EvX (te fun cls d _ H2 => Wo cls d σ H2) (σ.set k (some v)) H') (hl : bs.length ≤ 100000) : EvX (tLcX wi (gName k) tYes te [k] Wo) σ H := fun H1 s1 Q => by
  have hjl : j < bs.length := (List.getElem?_eq_some_iff.mp hj).1
  refine hi.m H1 s1 _ fun J H2 vs s2 hlen im gv => ?_
  intro D hD
  refine ⟨fun i m H3 => m = vs.length - i ∧ i ≤ j ∧ Same H2 H3 ∧ ∃ acc, H3 D = some (.lst acc) ∧ acc.length ≤ i, ⟨vs.length, rfl, Nat.zero_le _, same_upd hD, [], upd_same, Nat.zero_le _⟩, ?_⟩
  rintro i m H3 ⟨rfl, hle, s3, acc, eD, hacc⟩
  obtain ⟨g1, g2, g3⟩ := gv H3 s3
  have hlt : i < vs.length := by omega
  refine .inr ⟨g1 i hlt, fun H4 => i + 1 ≤ j ∧ Same H2 H4 ∧ ∃ acc, H4 D = some (.lst acc) ∧ acc.length ≤ i + 1, fun H4 h4 => ⟨vs.length - (i + 1), by omega, rfl, h4⟩, fun x H' hy => ?_⟩
  obtain ⟨rfl, hx⟩ := g2 i x H' hy
  show gName k x (wipe σ [k]) H' _
  unfold gName
  rw [wipe1]
  refine ⟨wipe1' σ k _, ?_⟩
  have sH : Same H H' := (s1.trans s2).trans s3
  change te _ (σ.set k (some x)) H' _
  by_cases hij : i = j
  · subst hij
    exact h1 x H' sH (im_sm _ _ _ _ s3 (im i x bj (hx hlt) hj)) H' (Same.refl _) _
  · have hd : bs[i]? = some (bs[i]'(by omega)) := List.getElem?_eq_getElem (by omega)
    generalize (bs[i]'(by omega)) = d at hd
    have hm : d ∈ bs.take j := List.mem_of_getElem? (i := i) (by rw [List.getElem?_take_of_lt (by omega)]; exact hd)
    refine h0 d x H' hm sH (im_sm _ _ _ _ s3 (im i x d (hx hlt) hd)) H' (Same.refl _) _ fun w H4 s4 _ => ?_
    have eD4 : H4 D = some (.lst acc) := s4 _ _ eD
    exact ⟨acc, eD4, Nat.lt_of_le_of_lt (Nat.le_trans hacc (by omega : i ≤ 100000)) (by decide), by omega, same_mut (s3.trans s4) hD, _, upd_same, by rw [List.length_append]; simpa using hacc⟩
theorem evn_lcX {β : Type} {g : β → PyData} {bs : List β} {wi : TI} {k : Nat} {te : WX → TE} {Wo : WX} {f : β → PyData} (hi : EvI wi σ H (bs.map g))
    (h0 : ∀ (b : β) v H', b ∈ bs → Same H H' → Im H' v (g b) → EvD (te fun cls d _ H2 => Wo cls d σ H2) (σ.set k (some v)) H' (f b)) (hl : bs.length ≤ 100000) : EvN (tLcX wi (gName k) tYes te [k] Wo) σ H (bs.map f) :=
  evn_lcM hi f h0 hl
/-! ### texts cut -/
abbrev rSlX : V → Option Int → Option Int → Hp → VK → Prop := fun x lo hi H Q => ∃ z, x = .str z ∧ z.length ≤ sizeLine ∧ Q (.str (cutS z lo hi)) H
theorem slS {X : Cx} : SlR X rSlX := sl_str
variable {ta tb te ti : TE} {a : List Nat} {D : Ends} {ds : List PyData} {d : PyData}
theorem cutS_S (a : List Nat) (lo hi : Option Int) : cutS (S a) lo hi = S ((a.drop (HT.sIx a.length 0 lo)).take (HT.sIx a.length a.length hi - HT.sIx a.length 0 lo)) := by
  unfold cutS
  rw [S_len]
theorem evd_slTo {i : Int} {j : Nat} (h : EvD te σ H (strD a)) (hb : EvD tb σ H (.int i)) (e : i = (j : Nat)) (hj : j ≤ a.length) (hz : a.length ≤ 100000) : EvD (tSl rSlX te tNoPart (tPart tb)) σ H (strD (a.take j)) := fun H1 s Q q =>
  h H1 s _ fun v H2 s2 i2 => hb H2 (s.trans s2) (fun x H3 => ∃ i, x = .int i ∧ rSlX v none (some i) H3 Q) fun y H3 s3 i3 => by
    refine ⟨i, i3.intv, S a, i2.strv, by rw [S_len]; exact Nat.le_trans hz (by decide), ?_⟩
    rw [cutS_S, e, HT.sIx_nat, HT.sIx_none, Nat.min_eq_left hj, Nat.sub_zero, List.drop_zero]
    exact q _ H3 (s2.trans s3) (.str _)
theorem evd_slFrom {i : Int} {j : Nat} (h : EvD te σ H (strD a)) (hb : EvD tb σ H (.int i)) (e : i = (j : Nat)) (hj : j ≤ a.length) (hz : a.length ≤ 100000) : EvD (tSl rSlX te (tPart tb) tNoPart) σ H (strD (a.drop j)) := fun H1 s Q q =>
  h H1 s _ fun v H2 s2 i2 => hb H2 (s.trans s2) (fun x H3 => ∃ i, x = .int i ∧ rSlX v (some i) none H3 Q) fun y H3 s3 i3 => by
    refine ⟨i, i3.intv, S a, i2.strv, by rw [S_len]; exact Nat.le_trans hz (by decide), ?_⟩
    rw [cutS_S, e, HT.sIx_nat, HT.sIx_none, Nat.min_eq_left hj, List.take_of_length_le (by rw [List.length_drop]; omega)]
    exact q _ H3 (s2.trans s3) (.str _)
theorem evd_slInit (h : EvD te σ H (strD a)) (hz : a.length ≤ 100000) : EvD (tSl rSlX te tNoPart (tPart (tUn (rU fun i => .int (-i)) (tC (.int 1))))) σ H (strD a.dropLast) := fun H1 s Q q =>
  h H1 s _ fun v H2 s2 i2 => evd_neg1 (σ := σ) (H := H2) H2 (Same.refl _) (fun x H3 => ∃ i, x = .int i ∧ rSlX v none (some i) H3 Q) fun y H3 s3 i3 => by
    refine ⟨-1, i3.intv, S a, i2.strv, by rw [S_len]; exact Nat.le_trans hz (by decide), ?_⟩
    have e : (a.drop (HT.sIx a.length 0 none)).take (HT.sIx a.length a.length (some (-1)) - HT.sIx a.length 0 none) = a.dropLast := by
      rw [List.dropLast_eq_take, HT.sIx_none, List.drop_zero]
      show a.take ((if (-1 : Int) < 0 then ((-1 : Int) + (a.length : Int)).toNat else min (-1 : Int).toNat a.length) - 0) = _
      rw [if_pos (by decide)]
      congr 1
      omega
    rw [cutS_S, e]
    exact q _ H3 (s2.trans s3) (.str _)
/-- xs.insert(i, e), xs a list of the def's own -/
theorem s_insLs {l : Addr} {i : Int} {j : Nat} (hl : Ls H l ds) (ha : EvV ta σ H (.ref l)) (hi : EvD ti σ H (.int i)) (h : EvD te σ H d) (e : i = (j : Nat)) (hj : j ≤ 100000) (hz : ds.length ≤ 100000)
    (k : ∀ H2, But l H H2 → Tk H H2 → Ls H2 l (ds.take j ++ [d] ++ ds.drop j) → D.nx σ H2) : tDrop (tBM K "list" rInsert ta (tCons ti (tCons te tNil))) D σ H := by
  obtain ⟨xs, ex, im⟩ := hl
  refine ha H (Same.refl H) _ fun H1 s1 => ⟨Or.inl ⟨rfl, xs, SqL.of (s1 _ _ ex)⟩, hi H1 s1 _ fun v H2 s2 i2 => h H2 (s1.trans s2) _ fun y H3 s3 i3 => ?_⟩
  have s := (s1.trans s2).trans s3
  refine ⟨l, xs, i, y, rfl, by rw [i2.intv], s _ _ ex, by rw [im.len]; exact Nat.lt_of_le_of_lt hz (by decide), by omega, ?_, ?_⟩
  · have : (2 : Int) ^ 63 = 9223372036854775808 := by decide
    omega
  · have ej : i.toNat = j := by omega
    rw [ej]
    refine k _ (fun b o ne eo => by rw [upd_ne ne]; exact s _ _ eo) (Tk.trans (Same.tk s) (tk_lst (s _ _ ex))) ⟨_, upd_same, ?_⟩
    exact ((((im.take j).sm s).app (.cons i3 .nil)).app ((im.drop j).sm s)).tk (tk_lst (s _ _ ex))
/-- xs[i] = e -/
theorem s_setLs {l : Addr} {i : Int} {j : Nat} (hl : Ls H l ds) (ha : EvV ta σ H (.ref l)) (hi : EvD ti σ H (.int i)) (h : EvD te σ H d) (e : i = (j : Nat)) (hj : j < ds.length)
    (k : ∀ H2, But l H H2 → Tk H H2 → Ls H2 l (ds.set j d) → D.nx σ H2) : tAsg te (gSub ta ti rSetL) D σ H := by
  obtain ⟨xs, ex, im⟩ := hl
  refine s_setL h ha hi ex e (by rw [im.len]; exact hj) fun v H1 s iv e1 => ?_
  exact k _ (fun b o ne eo => by rw [upd_ne ne]; exact s _ _ eo) (Tk.trans (Same.tk s) (tk_lst e1)) ⟨_, upd_same, (ImAll.set iv j (im.sm s)).tk (tk_lst e1)⟩
end
/-! ### the lines of a text -/
def lns : List Nat → List (List Nat)
  | [] => [[]]
  | c :: r => if c = 10 then [] :: lns r else match lns r with
    | [] => [[c]]
    | l :: ls => (c :: l) :: ls
theorem lns_ne : ∀ a, lns a ≠ []
  | [] => by simp [lns]
  | c :: r => by
    unfold lns
    by_cases h : c = 10
    · rw [if_pos h]; simp
    · rw [if_neg h]
      cases lns r <;> simp
theorem lns_join : ∀ a, TL.joinL [10] (lns a) = a
  | [] => rfl
  | c :: r => by
    have ih := lns_join r
    have ne := lns_ne r
    unfold lns
    by_cases h : c = 10
    · rw [if_pos h]
      cases e : lns r with
      | nil => exact absurd e ne
      | cons l ls =>
        rw [e] at ih
        show [] ++ ([10] ++ TL.joinL [10] (l :: ls)) = _
        rw [ih, h]
        rfl
    · rw [if_neg h]
      cases e : lns r with
      | nil => exact absurd e ne
      | cons l ls =>
        rw [e] at ih
        cases ls with
        | nil =>
          have ih : l = r := ih
          show c :: l = c :: r
          rw [ih]
        | cons l2 ls =>
          have ih : l ++ ([10] ++ TL.joinL [10] (l2 :: ls)) = r := ih
          show (c :: l) ++ ([10] ++ TL.joinL [10] (l2 :: ls)) = c :: r
          rw [← ih]
          rfl
theorem lns_no : ∀ a p, p ∈ lns a → 10 ∉ p
  | [], p, h => by
    rw [show p = [] from by simpa [lns] using h]
    exact List.not_mem_nil
  | c :: r, p, h => by
    have ih := lns_no r
    unfold lns at h
    by_cases hc : c = 10
    · rw [if_pos hc] at h
      rcases List.mem_cons.mp h with rfl | h
      · exact List.not_mem_nil
      · exact ih p h
    · rw [if_neg hc] at h
      cases e : lns r with
      | nil => exact absurd e (lns_ne r)
      | cons l ls =>
        rw [e] at h ih
        rcases List.mem_cons.mp h with rfl | h
        · intro z
          rcases List.mem_cons.mp z with z | z
          · exact hc z.symm
          · exact ih l (.head _) z
        · exact ih p (.tail _ h)
theorem spl_lns (a : List Nat) : TL.spl [10] 0 [] a = lns a := by
  have h := TL.spl_join (s := 10) (S := []) (parts := lns a) (lns_ne a) (lns_no a)
  rw [lns_join] at h
  exact h
theorem lns_of {ps : List (List Nat)} (hne : ps ≠ []) (h : ∀ p ∈ ps, 10 ∉ p) : lns (TL.joinL [10] ps) = ps := by
  rw [← spl_lns]
  exact TL.spl_join (s := 10) (S := []) hne h
theorem joinL_len : ∀ ps : List (List Nat), (TL.joinL [10] ps).length ≤ (ps.map (·.length + 1)).sum
  | [] => Nat.le_refl _
  | [p] => by
    show p.length ≤ p.length + 1 + 0
    omega
  | p :: q :: r => by
    have ih := joinL_len (q :: r)
    show (p ++ ([10] ++ TL.joinL [10] (q :: r))).length ≤ p.length + 1 + ((q :: r).map (·.length + 1)).sum
    rw [List.length_append, List.length_append]
    show p.length + (1 + _) ≤ _
    omega
/-- a board's text -/
def GoodT (a : List Nat) : Prop := ∃ (b : Bd) (w h : Nat), Dim w h ∧ IsB b w h ∧ Fig b ∧ a = textT b
theorem good_lns {a : List Nat} (g : GoodT a) : ∃ (b : Bd) (w h : Nat), Dim w h ∧ IsB b w h ∧ Fig b ∧ lns a = b.map rowT ++ [[]] := by
  obtain ⟨b, w, h, dm, ib, fb, rfl⟩ := g
  exact ⟨b, w, h, dm, ib, fb, by rw [← spl_lns]; exact spl_text fb⟩
theorem dig_row {l : List Nat} (h : ∀ c, c ∈ l → 48 ≤ c ∧ c ≤ 57) : rowT (l.map fun c : Nat => (c : Int) - 48) = l := by
  unfold rowT
  rw [List.map_map]
  have e : l.map id = l := List.map_id l
  refine Eq.trans (List.map_congr_left fun c hc => ?_) e
  have := h c hc
  show 48 + ((c : Int) - 48).toNat = c
  omega
theorem mem_figs {c : Nat} : c ∈ [48, 49, 50, 51, 52, 53, 54, 55, 56, 57] ↔ 48 ≤ c ∧ c ≤ 57 := by
  constructor
  · intro h
    simp at h
    omega
  · intro h
    simp
    omega
end Bk

namespace Bk
open PySem PySem.Spec PyProof.Rows L2
def topS (i : Nat) : Stmt := PySem.Challenge.pw_boardkin_k16_texts_refused.main.body.getD i (.Pass ⟨0, 0, 0, 0⟩)
abbrev s_looked : Stmt := topS 6
abbrev N_looked : List Str := ["board", "width", "row", "colour"]
abbrev ps_looked : List Str := ["board"]
theorem sc_looked : FnScope N_looked ps_looked (defScope s_looked) := ⟨rfl, rfl, rfl, by decide +kernel, rfl, by decide +kernel, by decide +kernel⟩
abbrev s_row_of : Stmt := topS 9
abbrev N_row_of : List Str := ["line", "sign"]
abbrev ps_row_of : List Str := ["line"]
theorem sc_row_of : FnScope N_row_of ps_row_of (defScope s_row_of) := ⟨rfl, rfl, rfl, by decide +kernel, rfl, by decide +kernel, by decide +kernel⟩
abbrev s_read : Stmt := topS 10
abbrev N_read : List Str := ["text", "lines", "board", "line"]
abbrev ps_read : List Str := ["text"]
theorem sc_read : FnScope N_read ps_read (defScope s_read) := ⟨rfl, rfl, rfl, by decide +kernel, rfl, by decide +kernel, by decide +kernel⟩
abbrev s_law_cell_at : Stmt := topS 12
abbrev N_law_cell_at : List Str := ["script", "k"]
abbrev ps_law_cell_at : List Str := ["script", "k"]
theorem sc_law_cell_at : FnScope N_law_cell_at ps_law_cell_at (defScope s_law_cell_at) := ⟨rfl, rfl, rfl, by decide +kernel, rfl, by decide +kernel, by decide +kernel⟩
abbrev s_law_board_by : Stmt := topS 13
abbrev N_law_board_by : List Str := ["cell", "width", "height", "colours", "rows", "y", "row", "x"]
abbrev ps_law_board_by : List Str := ["cell", "width", "height", "colours"]
theorem sc_law_board_by : FnScope N_law_board_by ps_law_board_by (defScope s_law_board_by) := ⟨rfl, rfl, rfl, by decide +kernel, rfl, by decide +kernel, by decide +kernel⟩
abbrev s_law_refused : Stmt := topS 14
abbrev N_law_refused : List Str := ["text", "marks", "e"]
abbrev ps_law_refused : List Str := ["text"]
theorem sc_law_refused : FnScope N_law_refused ps_law_refused (defScope s_law_refused) := ⟨rfl, rfl, rfl, by decide +kernel, rfl, by decide +kernel, by decide +kernel⟩
abbrev s_law_spoiled : Stmt := topS 15
abbrev N_law_spoiled : List Str := ["rows", "cell", "way", "y", "at", "bad", "sign", "row", "k"]
abbrev ps_law_spoiled : List Str := ["rows", "cell"]
theorem sc_law_spoiled : FnScope N_law_spoiled ps_law_spoiled (defScope s_law_spoiled) := ⟨rfl, rfl, rfl, by decide +kernel, rfl, by decide +kernel, by decide +kernel⟩
abbrev s_law : Stmt := topS 16
abbrev N_law : List Str := ["script", "width", "height", "board", "rows", "k", "row", "colour"]
abbrev ps_law : List Str := ["script"]
theorem sc_law : FnScope N_law ps_law (defScope s_law) := ⟨rfl, rfl, rfl, by decide +kernel, rfl, by decide +kernel, by decide +kernel⟩
/-- what the top has written -/
structure Txt (K : PySem.W.Frag) (mg : Str → Option Value) : Prop where
  d_looked : Dtx K mg "looked" s_looked ps_looked
  d_row_of : Dtx K mg "row_of" s_row_of ps_row_of
  d_read : Dtx K mg "read" s_read ps_read
  d_law_cell_at : Dtx K mg "_law_cell_at" s_law_cell_at ps_law_cell_at
  d_law_board_by : Dtx K mg "_law_board_by" s_law_board_by ps_law_board_by
  d_law_refused : Dtx K mg "_law_refused" s_law_refused ps_law_refused
  d_law_spoiled : Dtx K mg "_law_spoiled" s_law_spoiled ps_law_spoiled
  z_len : mg "len" = none
  z_tuple : mg "tuple" = none
  z_int : mg "int" = none
  z_range : mg "range" = none
  z_isinstance : mg "isinstance" = none
  z_ValueError : mg "ValueError" = none
  z_list : mg "list" = none
  c_MOST : ∃ u, mg "MOST" = some u ∧ RelV (.int 8) u
  c_FIGURES : ∃ u, mg "FIGURES" = some u ∧ RelV (.str "0123456789") u
  e_KinError : Ecl K mg "KinError"
  e_NoBoard : Ecl K mg "NoBoard"
  e_BadNote : Ecl K mg "BadNote"
  u_KinError_KinError : Und K mg "KinError" "KinError" true
  u_KinError_NoBoard : Und K mg "KinError" "NoBoard" false
  u_KinError_BadNote : Und K mg "KinError" "BadNote" false
  u_NoBoard_KinError : Und K mg "NoBoard" "KinError" true
  u_NoBoard_NoBoard : Und K mg "NoBoard" "NoBoard" true
  u_NoBoard_BadNote : Und K mg "NoBoard" "BadNote" false
  u_BadNote_KinError : Und K mg "BadNote" "KinError" true
  u_BadNote_NoBoard : Und K mg "BadNote" "NoBoard" false
  u_BadNote_BadNote : Und K mg "BadNote" "BadNote" true
end Bk

namespace Bk
open PySem PySem.Spec PyProof.Rows L2
/-! ### looked, of any rows -/
def GoodB (b : Bd) : Prop := ∃ w h, Dim w h ∧ IsB b w h ∧ Fig b
def R_looked : List PyData → PyData → Prop := fun ds d => ∃ (b : Bd) (w h : Nat), Dim w h ∧ IsB b w h ∧ Fig b ∧ ds = [bdD b] ∧ d = .tuple [.int (w : Int), .int (h : Int)]
def X_looked (mg : Str → Option Value) : List PyData → Value → Prop := fun ds c => ∃ b : Bd, ¬ GoodB b ∧ ds = [bdD b] ∧ c = .ref (adr mg "NoBoard")
theorem bdD_inj {a b : Bd} (h : bdD a = bdD b) : a = b := by
  have e := eqv_bd a b
  have e2 := eqv_bd b b
  rw [h, e2] at e
  simpa using e
section
variable {P : Program} {w : World} {K : PySem.W.Frag} {mg : Str → Option Value} {base : Heap}
theorem ok_looked (T : Txt K mg) : DfOk P w K mg base (L2N.CX P w) 1 "looked" ps_looked (spX R_looked (X_looked mg)) := by
  refine dokN T.d_looked sc_looked (spX_len (n := 1) (fun ds d ⟨b, w, h, _, _, _, z, _⟩ => by rw [z]; rfl) fun ds c ⟨b, _, z, _⟩ => by rw [z]; rfl) (fun f cdv A outer s H vs Q E hr hsp => ?_)
  refine ⟨_, (pss_cons (ps_if (PW.pt (pw_or (pt_cmpR op_lt (pe_callB (id := "len") (cb_len K) (by rfl) T.z_len (by decide +kernel) (pa_cons (pv 0) pa_nil)) pe_int (nomark _)) (pw_or1 (pt_cmpR op_gt (pe_callB (id := "len") (cb_len K) (by rfl) T.z_len (by decide +kernel) (pa_cons (pv 0) pa_nil)) (pe_gc rfl T.c_MOST) (nomark _)))))
 (pss_one (L2N.ps_raise rfl (L2N.takes_of rfl rfl rfl rfl) (L2N.pmk_own PySem.F.excBase_ValueError T.e_NoBoard.x T.e_NoBoard.g T.e_NoBoard.k (raises_own T.e_NoBoard.b T.e_NoBoard.t) rfl)))
 pss_nil)
 (pss_cons (ps_set (i := 1) sc_looked.nd rfl (.inl rfl) (pe_callB (id := "len") (cb_len K) (by rfl) T.z_len (by decide +kernel) (pa_cons (pe_ix (ixq K) (pv 0) pe_int (fun _ _ => rfl)) pa_nil)))
 (pss_cons (ps_if (PW.pt (pw_or (pt_cmpR op_lt (pv 1) pe_int (nomark _)) (pw_or1 (pt_cmpR op_gt (pv 1) (pe_gc rfl T.c_MOST) (nomark _)))))
 (pss_one (L2N.ps_raise rfl (L2N.takes_of rfl rfl rfl rfl) (L2N.pmk_own PySem.F.excBase_ValueError T.e_NoBoard.x T.e_NoBoard.g T.e_NoBoard.k (raises_own T.e_NoBoard.b T.e_NoBoard.t) rfl)))
 pss_nil)
 (pss_cons (ps_for (passes_of rfl) rfl (pit K (pv 0)) (pg_name (i := 2) sc_looked.nd rfl (.inl rfl))
 (pss_cons (ps_if (pt_cmpR op_ne (pe_callB (id := "len") (cb_len K) (by rfl) T.z_len (by decide +kernel) (pa_cons (pv 2) pa_nil)) (pv 1) (nomark _))
 (pss_one (L2N.ps_raise rfl (L2N.takes_of rfl rfl rfl rfl) (L2N.pmk_own PySem.F.excBase_ValueError T.e_NoBoard.x T.e_NoBoard.g T.e_NoBoard.k (raises_own T.e_NoBoard.b T.e_NoBoard.t) rfl)))
 pss_nil)
 (pss_one (ps_for (passes_of rfl) rfl (pit K (pv 2)) (pg_name (i := 3) sc_looked.nd rfl (.inl rfl))
 (pss_one (ps_if (PW.pt (pw_or (pt_cmpR op_lt (pv 3) pe_int (nomark _)) (pw_or1 (pt_cmpR op_gt (pv 3) pe_int (nomark _)))))
 (pss_one (L2N.ps_raise rfl (L2N.takes_of rfl rfl rfl rfl) (L2N.pmk_own PySem.F.excBase_ValueError T.e_NoBoard.x T.e_NoBoard.g T.e_NoBoard.k (raises_own T.e_NoBoard.b T.e_NoBoard.t) rfl)))
 pss_nil))))))
 (pss_one (ps_ret (pe_tup (pa_cons (pv 1) (pa_cons (pe_callB (id := "len") (cb_len K) (by rfl) T.z_len (by decide +kernel) (pa_cons (pv 0) pa_nil)) pa_nil))))))))), ?_⟩
  obtain ⟨b, v0, rfl, i0, hq, he⟩ : ∃ b v0, vs = [v0] ∧ Im H v0 (bdD b) ∧ (∀ w h, Dim w h → IsB b w h → Fig b → ∀ v H', Same H H' → Im H' v (.tuple [.int (w : Int), .int (h : Int)]) → Q v H') ∧ (¬ GoodB b → ∀ H', Same H H' → E (.ref (adr mg "NoBoard")) none H') := by
    obtain ⟨ds, im, ⟨d, ⟨b, wd, ht, dm, ib, fb, rfl, rfl⟩, q⟩ | ⟨c, ⟨b, nb, rfl, rfl⟩, q⟩⟩ := hsp
    · obtain ⟨v0, rfl, i0⟩ := imAll1 im
      refine ⟨b, v0, rfl, i0, fun w h dm2 ib2 _ v H' s iv => ?_, fun n => absurd ⟨wd, ht, dm, ib, fb⟩ n⟩
      have e1 : h = ht := by rw [← ib.high, ← ib2.high]
      have e2 : w = wd := by
        obtain ⟨r, hr', e⟩ := ib.row (y := 0) dm.h1
        rw [← e, ← ib2.wide r (List.mem_of_getElem? hr')]
      subst e1 e2
      exact q v H' s iv
    · obtain ⟨v0, rfl, i0⟩ := imAll1 im
      exact ⟨b, v0, rfl, i0, fun w h dm ib fb => absurd ⟨w, h, dm, ib, fb⟩ nb, fun _ => q⟩
  clear hsp
  have i0' : Im H v0 (.tuple (b.map rowD)) := i0
  have lb : (b.map rowD).length = b.length := List.length_map _
  refine s_seq (s_if (evt_or (evt_test (evd_lt (evd_lenT (evd_var rfl i0')) evd_int)) fun _ => evt_test (evd_gt (evd_lenT (evd_var rfl i0')) evd_int)) (fun z H1 s1 => ?_) fun z H1 s1 => ?_)
  · rw [lb] at z
    refine he ?_ H1 s1
    rintro ⟨w, h, dm, ib, _⟩
    have := ib.high
    have := dm.h1
    have := dm.h8
    rw [decide_eq_false (by omega), decide_eq_false (by omega)] at z
    exact Bool.noConfusion z
  rw [lb] at z
  obtain ⟨z1, z2⟩ := Bool.or_eq_false_iff.mp z
  have z1 := of_decide_eq_false z1
  have z2 := of_decide_eq_false z2
  clear z
  refine s_nx ?_
  have h0 : 0 < b.length := by omega
  have hr0 : b[0]? = some (b[0]'h0) := List.getElem?_eq_getElem h0
  generalize (b[0]'h0) = r0 at hr0
  refine s_seq (s_asgI (n := (r0.length : Int)) ((evd_lenT (ds := r0.map .int) (evd_ixT (evd_var rfl (i0'.sm s1)) evd_int (atI_ofNat (i := 0) (v := rowD r0) rfl (by rw [List.getElem?_map, hr0]; rfl)))).cast (by rw [List.length_map])) fun H2 s2 => ?_)
  have good : ∀ {w h}, IsB b w h → r0.length = w := fun ib => ib.wide r0 (List.mem_of_getElem? hr0)
  have s02 := s1.trans s2
  refine s_nx ?_
  refine s_seq (s_if (evt_or (evt_test (evd_lt (evd_var rfl (.int _)) evd_int)) fun _ => evt_test (evd_gt (evd_var rfl (.int _)) evd_int)) (fun z H3 s3 => ?_) fun z H3 s3 => ?_)
  · refine he ?_ H3 (s02.trans s3)
    rintro ⟨w, h, dm, ib, _⟩
    have := good ib
    have := dm.w1
    have := dm.w8
    rw [decide_eq_false (by omega), decide_eq_false (by omega)] at z
    exact Bool.noConfusion z
  obtain ⟨z3, z4⟩ := Bool.or_eq_false_iff.mp z
  have z3 := of_decide_eq_false z3
  have z4 := of_decide_eq_false z4
  clear z
  refine s_nx ?_
  have s03 := s02.trans s3
  refine s_seq (s_forTM (bs := b) (f := rowD) (evd_var rfl (i0'.sm s03)) (fun H1 i σ H' => Same H1 H' ∧ (∀ r, r ∈ b.take i → r.length = r0.length ∧ ∀ c, c ∈ r → 0 ≤ c ∧ c ≤ 9) ∧ ∃ rv cv, σ = [some v0, some (.int (r0.length : Int)), rv, cv]) (fun H4 s4 => ⟨Same.refl _, fun r h => by rw [List.take_zero] at h; exact absurd h List.not_mem_nil, none, none, rfl⟩) (fun H4 i σ2 H5 p => Same.tk p.1) ?_ ?_)
  · rintro H4 i r x σ2 H5 s4 hr' ix ⟨s5, hall, rv, cv, rfl⟩
    have hm := List.mem_of_getElem? hr'
    refine s_seq (s_if (evt_test (evd_neI (evd_lenT (ds := r.map .int) (evd_var rfl ix)) (evd_var rfl (.int _)))) (fun z H6 s6 => ?_) fun z H6 s6 => ?_)
    · refine he ?_ H6 (((s03.trans s4).trans s5).trans s6)
      rintro ⟨w, h, dm, ib, _⟩
      have e1 := good ib
      have e2 := ib.wide r hm
      rw [List.length_map, decide_eq_true (by omega)] at z
      exact Bool.noConfusion z
    have hw : r.length = r0.length := by
      rw [List.length_map] at z
      have z' : decide ((r.length : Int) = (r0.length : Int)) = true := by simpa using z
      have := of_decide_eq_true z'
      omega
    refine s_nx ?_
    refine s_forTM (bs := r) (f := .int) (evd_var rfl (ix.sm s6)) (fun H1 j σ H' => Same H1 H' ∧ (∀ c, c ∈ r.take j → 0 ≤ c ∧ c ≤ 9) ∧ ∃ cv, σ = [some v0, some (.int (r0.length : Int)), some x, cv]) (fun H4 s4 => ⟨Same.refl _, fun r h => by rw [List.take_zero] at h; exact absurd h List.not_mem_nil, _, rfl⟩) (fun H4 i σ2 H5 p => Same.tk p.1) ?_ ?_
    · rintro H7 j c y σ2 H8 s7 hc iy ⟨s8, hcs, cv, rfl⟩
      refine s_gn ?_
      refine s_if (evt_or (evt_test (evd_lt (evd_var rfl iy) evd_int)) fun _ => evt_test (evd_gt (evd_var rfl iy) evd_int)) (fun z H9 s9 => ?_) fun z H9 s9 => ?_
      · refine he ?_ H9 ((((((s03.trans s4).trans s5).trans s6).trans s7).trans s8).trans s9)
        rintro ⟨w, h, dm, ib, fb⟩
        have := fb r hm c (List.mem_of_getElem? hc)
        rw [decide_eq_false (by omega), decide_eq_false (by omega)] at z
        exact Bool.noConfusion z
      · obtain ⟨z5, z6⟩ := Bool.or_eq_false_iff.mp z
        have z5 := of_decide_eq_false z5
        have z6 := of_decide_eq_false z6
        refine s_nx ⟨s8.trans s9, fun c' hc' => ?_, _, rfl⟩
        rw [take_next hc] at hc'
        rcases List.mem_append.mp hc' with m | m
        · exact hcs c' m
        · rw [List.mem_singleton.mp m]
          omega
    · rintro H7 σ2 H8 s7 ⟨s8, hcs, cv, rfl⟩
      refine ⟨((s5.trans s6).trans s7).trans s8, fun r' hm' => ?_, _, _, rfl⟩
      rw [List.take_length] at hcs
      rw [take_next hr'] at hm'
      rcases List.mem_append.mp hm' with m | m
      · exact hall r' m
      · rw [List.mem_singleton.mp m]
        exact ⟨hw, hcs⟩
  · rintro H4 σ2 H5 s4 ⟨s5, hall, rv, cv, rfl⟩
    rw [List.take_length] at hall
    have s05 := (s03.trans s4).trans s5
    refine s_ret (evd_tup (eva_cons (evd_var rfl (.int _)) (eva_cons (evd_lenT (evd_var rfl (i0'.sm s05))) eva_nil)) (Nat.le_add_left 2 998)) fun v H6 s6 iv => ?_
    rw [lb] at iv
    exact hq r0.length b.length ⟨by omega, by omega, by omega, by omega⟩ ⟨rfl, fun r hr' => (hall r hr').1⟩ (fun r hr' => (hall r hr').2) v H6 (s05.trans s6) iv
end
end Bk

namespace Bk
open PySem PySem.Spec PyProof.Rows L2
open SX
/-! ### texts read, the spoiled ones refused -/
def Figs (l : List Nat) : Prop := ∀ c, c ∈ l → 48 ≤ c ∧ c ≤ 57
def nums (l : List Nat) : List Int := l.map fun c : Nat => (c : Int) - 48
def R_rowx : List PyData → PyData → Prop := fun ds d => ∃ l : List Nat, l.length ≤ 300 ∧ Figs l ∧ ds = [strD l] ∧ d = rowD (nums l)
def X_rowx (mg : Str → Option Value) : List PyData → Value → Prop := fun ds c => ∃ l : List Nat, l.length ≤ 300 ∧ ¬ Figs l ∧ ds = [strD l] ∧ c = .ref (adr mg "BadNote")
def X_readx (mg : Str → Option Value) : List PyData → Value → Prop := fun ds c => ∃ a : List Nat, a.length ≤ 300 ∧ ¬ GoodT a ∧ ds = [strD a] ∧ c = .ref (adr mg "BadNote")
theorem first_bad {α : Type} (p : α → Prop) : ∀ l : List α, (∀ x, x ∈ l → p x) ∨ ∃ (j : Nat) (b : α), l[j]? = some b ∧ ¬ p b ∧ ∀ x, x ∈ l.take j → p x
  | [] => .inl fun _ h => nomatch h
  | a :: l => by
    by_cases ha : p a
    · rcases first_bad p l with h | ⟨j, b, h1, h2, h3⟩
      · exact .inl fun x hx => by
          rcases List.mem_cons.mp hx with rfl | hx
          · exact ha
          · exact h x hx
      · refine .inr ⟨j + 1, b, h1, h2, fun x hx => ?_⟩
        rw [List.take_succ_cons] at hx
        rcases List.mem_cons.mp hx with rfl | hx
        · exact ha
        · exact h3 x hx
    · exact .inr ⟨0, a, rfl, ha, fun _ h => nomatch h⟩
theorem lns_len : ∀ a p, p ∈ lns a → p.length ≤ a.length
  | [], p, h => by
    rw [show p = [] from by simpa [lns] using h]
    exact Nat.le_refl _
  | c :: r, p, h => by
    have ih := lns_len r
    unfold lns at h
    by_cases hc : c = 10
    · rw [if_pos hc] at h
      rcases List.mem_cons.mp h with rfl | h
      · exact Nat.zero_le _
      · exact Nat.le_succ_of_le (ih p h)
    · rw [if_neg hc] at h
      cases e : lns r with
      | nil => exact absurd e (lns_ne r)
      | cons l ls =>
        rw [e] at h ih
        rcases List.mem_cons.mp h with rfl | h
        · exact Nat.succ_le_succ (ih l (.head _))
        · exact Nat.le_succ_of_le (ih p (.tail _ h))
theorem lns_many : ∀ a, (lns a).length ≤ a.length + 1
  | [] => Nat.le_refl _
  | c :: r => by
    have ih := lns_many r
    unfold lns
    by_cases hc : c = 10
    · rw [if_pos hc]
      exact Nat.succ_le_succ ih
    · rw [if_neg hc]
      cases e : lns r with
      | nil => exact absurd e (lns_ne r)
      | cons l ls =>
        rw [e] at ih
        exact Nat.le_succ_of_le ih
section
variable {P : Program} {w : World} {K : PySem.W.Frag} {mg : Str → Option Value} {base : Heap}
theorem ok_rowx (T : Txt K mg) : DfOk P w K mg base (L2.CX P w) 1 "row_of" ps_row_of (spX R_rowx (X_rowx mg)) := by
  refine dokX T.d_row_of sc_row_of (spX_len (n := 1) (fun ds d ⟨l, _, _, z, _⟩ => by rw [z]; rfl) fun ds c ⟨l, _, _, z, _⟩ => by rw [z]; rfl) (fun f cdv A outer s H vs Q E hr hsp => ?_)
  refine ⟨_, (pss_cons (ps_for (passes_of rfl) rfl (pi_str (pv 0)) (pg_name (i := 1) sc_row_of.nd rfl (.inl rfl))
 (pss_one (ps_if (pt_cmpR op_notIn_sign (pv 1) (pe_gc rfl T.c_FIGURES) rfl)
 (pss_one (ps_raise rfl (takes_of rfl rfl rfl rfl) (pmk_own PySem.F.excBase_ValueError T.e_BadNote.x T.e_BadNote.g T.e_BadNote.k (raises_own T.e_BadNote.b T.e_BadNote.t) rfl)))
 pss_nil)))
 (pss_one (ps_ret (pe_callTy (T := "tuple") (cb_tuple K) (by rfl) T.z_tuple (by decide +kernel) (pa_cons (pe_lc (own := [("sign", 1)]) (g := gName 1) (tt := tYes) (by rfl) sc_row_of.nd (pi_str (pv 0)) (blkOk_by (own := [("sign", 1)]) (N := N_row_of) (sc := defScope s_row_of) (by decide +kernel)) (fun _ _ _ _ _ => pg_name (i := 1) sc_row_of.nd rfl (by first | exact Or.inl rfl | exact Or.inr rfl)) (fun _ _ _ _ _ => pts_nil) (fun _ _ _ _ _ => (pe_callTy (T := "int") call_int_str (by rfl) T.z_int (by decide +kernel) (pa_cons (pv 1) pa_nil)))) pa_nil))))), ?_⟩
  obtain ⟨a, v0, ll, rfl, i0, hq, he⟩ : ∃ (a : List Nat) (v0 : V), a.length ≤ 300 ∧ vs = [v0] ∧ Im H v0 (strD a) ∧ (Figs a → ∀ v H', Same H H' → Im H' v (rowD (nums a)) → Q v H') ∧ (¬ Figs a → ∀ H', Same H H' → E (.ref (adr mg "BadNote")) none H') := by
    obtain ⟨ds, im, ⟨d, ⟨a, l1, fa, rfl, rfl⟩, q⟩ | ⟨c, ⟨a, l1, na, rfl, rfl⟩, q⟩⟩ := hsp
    · obtain ⟨v0, rfl, i0⟩ := imAll1 im
      exact ⟨a, v0, l1, rfl, i0, fun _ => q, fun n => absurd fa n⟩
    · obtain ⟨v0, rfl, i0⟩ := imAll1 im
      exact ⟨a, v0, l1, rfl, i0, fun y => absurd y na, fun _ => q⟩
  refine s_seq (s_forS (a := a) (evd_var rfl i0) (fun i σ H' => Same H H' ∧ Figs (a.take i) ∧ ∃ cv, σ = [some v0, cv]) (fun H4 s4 => ⟨s4, fun c h => (nomatch h), _, rfl⟩) ?_ ?_)
  · rintro i c σ2 H2 hc ⟨s2, fi, cv, rfl⟩
    refine s_gn ?_
    refine s_if (evt_test (evd_notInSign (b := [48, 49, 50, 51, 52, 53, 54, 55, 56, 57]) (c := c) (evd_var rfl (.str _)) (evd_lit rfl))) (fun z H3 s3 => ?_) fun z H3 s3 => ?_
    · refine he (fun y => ?_) H3 (s2.trans s3)
      rw [decide_eq_true (mem_figs.mpr (y c (List.mem_of_getElem? hc)))] at z
      exact Bool.noConfusion z
    · have z' : c ∈ [48, 49, 50, 51, 52, 53, 54, 55, 56, 57] := by
        by_cases h : c ∈ [48, 49, 50, 51, 52, 53, 54, 55, 56, 57]
        · exact h
        · rw [decide_eq_false h] at z
          exact Bool.noConfusion z
      refine s_nx ⟨s2.trans s3, fun x hx => ?_, _, rfl⟩
      rw [take_next hc] at hx
      rcases List.mem_append.mp hx with m | m
      · exact fi x m
      · rw [List.mem_singleton.mp m]
        exact mem_figs.mp z'
  · rintro σ2 H2 ⟨s2, fa, cv, rfl⟩
    rw [List.take_length] at fa
    have h := evn_lcM (te := tCB rIntS (tCons (tVar 1) tNil)) (k := 1) (β := Nat) (g := fun c => strD [c]) (bs := a) (σ := [some v0, cv]) (H := H2) (evi_str (evd_var (i := 0) rfl (i0.sm s2))) (fun c : Nat => .int ((c : Int) - 48)) (fun c v' H2 hc s2 ic => evd_intS (evd_var rfl ic) (fa c hc).1 (fa c hc).2) (by omega)
    have e : a.map (fun c : Nat => PyData.int ((c : Int) - 48)) = (nums a).map .int := by
      unfold nums
      rw [List.map_map]
      rfl
    rw [e] at h
    exact s_ret (evd_tupN h) fun v H3 s3 iv => hq fa v H3 (s2.trans s3) iv
theorem ok_readx (T : Txt K mg) : DfOk P w K mg base (L2.CX P w) 2 "read" ps_read (spR (X_readx mg)) := by
  have D_row_of : DfOk P w K mg base (L2.CX P w) 1 "row_of" ps_row_of (spX R_rowx (X_rowx mg)) := ok_rowx T
  have D_looked : DfOk P w K mg base (L2N.CX P w) 1 "looked" ps_looked (spX R_looked (X_looked mg)) := ok_looked T
  refine dokX T.d_read sc_read (spR_len (n := 1) fun ds c ⟨a, _, _, z, _⟩ => by rw [z]; rfl) (fun f cdv A outer s H vs Q E hr hsp => ?_)
  refine ⟨_, (pss_cons (ps_set (i := 1) sc_read.nd rfl (.inl rfl) (pe_split (pv 0) pe_str))
 (pss_cons (ps_if (pt_cmpR op_ne (pe_ix (ixq K) (pv 1) (pe_un un_neg pe_int) (fun _ _ => rfl)) pe_str (nomark _))
 (pss_one (ps_raise rfl (takes_of rfl rfl rfl rfl) (pmk_own PySem.F.excBase_ValueError T.e_BadNote.x T.e_BadNote.g T.e_BadNote.k (raises_own T.e_BadNote.b T.e_BadNote.t) rfl)))
 pss_nil)
 (pss_cons (ps_set (i := 2) sc_read.nd rfl (.inl rfl) (pe_callTy (T := "tuple") (cb_tuple K) (by rfl) T.z_tuple (by decide +kernel) (pa_cons (pe_lcX (own := [("line", 3)]) rfl rfl (takes_of rfl rfl rfl rfl) (g := gName 3) (tt := tYes) (by rfl) sc_read.nd (pil K (pe_slice (slL K) (pv 1) po_none (po_some (pe_un un_neg pe_int)))) (blkOk_by (own := [("line", 3)]) (N := N_read) (sc := defScope s_read) (by decide +kernel)) (fun _ _ _ _ _ => pg_name (i := 3) sc_read.nd rfl (by first | exact Or.inl rfl | exact Or.inr rfl)) (fun _ _ _ _ _ => pts_nil) (fun _ _ _ _ _ _ _ hxs => (pe_cdS D_row_of (hr.mono (by decide)) (by rfl) hxs (pa_cons (pv 3) pa_nil)))) pa_nil)))
 (pss_cons (L2H.ps_try_onlyX rfl rfl ⟨rfl, by decide, .inl T.e_NoBoard.g⟩ (fun hd => L2H.passesAt_of rfl hd) (takes_of rfl rfl rfl rfl) (fun W pn xe htk htk2 hpo => (pss_one (ps_expr (pe_cdN D_looked (hr.mono (by decide)) (by rfl) htk (pa_cons (pv 2) pa_nil)))))
 (fun ea oe cls ed pn hz hf tkS hot => pss_cls K hz.zc (fun EC hEC hz => (pss_one (L2H.ps_raiseH hot tkS (L2N.pmk_own PySem.F.excBase_ValueError T.e_BadNote.x T.e_BadNote.g T.e_BadNote.k (raises_own T.e_BadNote.b T.e_BadNote.t) rfl))))))
 (pss_one (ps_ret (pv 2))))))), ?_⟩
  obtain ⟨ds, c, im, ⟨a, al, ng, rfl, rfl⟩, he⟩ := hsp
  obtain ⟨v0, rfl, i0⟩ := imAll1 im
  refine s_seq (s_asgLs (evn_split (a := a) (b := [10]) (evd_var rfl i0) (evd_lit rfl) (by simp) (by decide) (by omega) (spl_lns a)) fun l H1 s1 nl ls => ?_)
  have ea := lns_join a
  have lm := lns_len a
  have ly := lns_many a
  obtain ⟨init, last, el⟩ : ∃ init last, lns a = init ++ [last] := ⟨_, _, (List.dropLast_concat_getLast (lns_ne a)).symm⟩
  rw [el] at ls ea lm ly
  have em : (init ++ [last]).map strD = init.map strD ++ [strD last] := by rw [List.map_append]; rfl
  have hlast : atI ((init ++ [last]).map strD) (-1) = some (strD last) := by
    rw [em]
    exact atI_last _ _
  refine s_nx ?_
  refine s_seq (s_if (evt_test (evd_neS (a := last) (b := []) (evd_ixLs (evv_var rfl) evd_neg1 ls hlast) (evd_lit rfl))) (fun _ H2 s2 => he H2 (s1.trans s2)) fun z H2 s2 => ?_)
  have z0 : last = [] := by
    by_cases h : last = []
    · exact h
    · rw [decide_eq_false h] at z
      exact Bool.noConfusion z
  subst z0
  refine s_nx ?_
  have s02 := s1.trans s2
  have hinit := evn_init (K := K) (te := tVar 1) (σ := [some v0, some (.ref l), none, none]) (evv_var rfl) (ls.sm s2) (by rw [em]; simp)
  rw [em, List.dropLast_concat] at hinit
  have lin : init.length ≤ 100000 := by
    rw [List.length_append] at ly
    omega
  have l3 : ∀ p, p ∈ init → p.length ≤ 300 := fun p hp => Nat.le_trans (lm p (List.mem_append_left _ hp)) al
  rcases first_bad Figs init with hall | ⟨j, bj, hj, nf, hfs⟩
  · have hrows := evn_lcX (te := fun W => tCallS (spX R_rowx (X_rowx mg)) (WE W) (tCons (tVar 3) tNil)) (Wo := fun cls d _ H => E cls d H) (k := 3) (g := strD) (bs := init) (f := fun l => rowD (nums l)) (evi_new (K := K) hinit) (fun p v H' hm s' ir => evd_callX (eva_cons (evd_var rfl ir) eva_nil) ⟨p, l3 p hm, hall p hm, rfl, rfl⟩) lin
    have eb : init.map (fun l => rowD (nums l)) = (init.map nums).map rowD := by rw [List.map_map]; rfl
    rw [eb] at hrows
    refine s_seq (s_asg (d := bdD (init.map nums)) (evd_tupN hrows) fun v2 H3 s3 i2 => ?_)
    have nb : ¬ GoodB (init.map nums) := fun ⟨w', h', dm, ib, fb⟩ => ng ⟨_, w', h', dm, ib, fb, by
      rw [← joinL_text]
      have e2 : (init.map nums).map rowT = init := by
        rw [List.map_map]
        exact Eq.trans (List.map_congr_left fun p hp => dig_row (hall p hp)) (List.map_id init)
      rw [e2]
      exact ea.symm⟩
    refine s_seq (s_dropX (evx_call (eva_cons (evd_var rfl i2) eva_nil) ⟨init.map nums, nb, rfl, rfl⟩ fun H4 s4 => ?_))
    exact ⟨true, exm_own T.e_NoBoard T.u_NoBoard_NoBoard, fun _ a na => ⟨adr mg "NoBoard", rfl, rfl, T.e_NoBoard.c, he H4 ((s02.trans s3).trans s4)⟩, fun z => Bool.noConfusion z⟩
  · refine s_seq (s_asgX (evx_arg (evx_lcX (te := fun W => tCallS (spX R_rowx (X_rowx mg)) (WE W) (tCons (tVar 3) tNil)) (g := strD) (bs := init) (f := fun l => rowD (nums l)) (evi_new (K := K) hinit) hj
      (fun p v H' hm s' ir => evd_callX (eva_cons (evd_var rfl ir) eva_nil) ⟨p, l3 p (List.mem_of_mem_take hm), hfs p hm, rfl, rfl⟩)
      (fun v H' s' ir => evx_call (eva_cons (evd_var rfl ir) eva_nil) ⟨bj, l3 bj (List.mem_of_getElem? hj), nf, rfl, rfl⟩ fun H4 s4 => he H4 ((s02.trans s').trans s4)) lin)))
end
end Bk

namespace Bk
open PySem PySem.Spec PyProof.Rows L2
open SX
def R_law_refused : List PyData → PyData → Prop := fun ds d => ∃ a : List Nat, a.length ≤ 300 ∧ ¬ GoodT a ∧ ds = [strD a] ∧ d = .bool true
section
variable {P : Program} {w : World} {K : PySem.W.Frag} {mg : Str → Option Value} {base : Heap}
theorem ok_law_refused (T : Txt K mg) : DfOk P w K mg base CX0 3 "_law_refused" ps_law_refused (spD R_law_refused) := by
  have D_read : DfOk P w K mg base (L2.CX P w) 2 "read" ps_read (spR (X_readx mg)) := ok_readx T
  refine dok T.d_law_refused sc_law_refused (spD_len (n := 1) fun ds d ⟨a, _, _, z, _⟩ => by rw [z]; rfl) (fun f cdv A outer s H vs Q E hr hsp => ?_)
  refine ⟨_, (pss_cons (ps_set (i := 1) sc_law_refused.nd rfl (.inl rfl) (pe_lst pa_nil))
 (pss_cons (ps_try_as (i := 2) rfl rfl sc_law_refused.nd rfl rfl ⟨rfl, by decide, .inl T.e_KinError.g⟩ takes0
 (fun W pn xe htk hpo => (pss_one (ps_expr (pe_cdX D_read (hr.mono (by decide)) (by rfl) htk (pa_cons (pv 0) pa_nil)))))
 (fun ea oe cls ed pn hz hf => pss_cls K hz (fun EC hEC hz => (pss_one (ps_set (i := 1) sc_law_refused.nd rfl (.inl rfl) (pe_lst (pa_cons (pe_callB (id := "isinstance") (ca_isE K hEC hz hf) (by rfl) T.z_isinstance (by decide +kernel) (pa_cons (pv 2) (pa_cons (pe_glob (v := .ref (adr mg "BadNote")) rfl T.e_BadNote.g rfl) pa_nil))) (pa_cons (pe_callB (id := "isinstance") (ca_isE K hEC hz hf) (by rfl) T.z_isinstance (by decide +kernel) (pa_cons (pv 2) (pa_cons (pe_bltn (v := .ty "ValueError") (by rfl) T.z_ValueError (by decide +kernel) rfl) pa_nil))) (pa_cons (pe_callB (id := "isinstance") (ca_isE K hEC hz hf) (by rfl) T.z_isinstance (by decide +kernel) (pa_cons (pv 2) (pa_cons (pe_glob (v := .ref (adr mg "NoBoard")) rfl T.e_NoBoard.g rfl) pa_nil))) pa_nil)))))))))
 (pss_one (ps_ret (pe_cmpR (eqD K hr.units) (pv 1) (pe_lst (pa_cons pe_bl (pa_cons pe_bl (pa_cons pe_bl pa_nil)))) (nomark _)))))), ?_⟩
  obtain ⟨ds, d, ⟨a, al, ng, rfl, rfl⟩, im, q⟩ := hsp
  obtain ⟨v0, rfl, i0⟩ := imAll1 im
  refine s_seq (s_asgLs (evn_lst eva_nil (Nat.zero_le _)) fun lm H1 s1 n1 l1 => ?_)
  refine s_nx ?_
  refine s_seq (s_dropX (evx_callR (eva_cons (evd_var rfl (i0.sm s1)) eva_nil) ⟨a, al, ng, rfl, rfl⟩ fun H2 s2 => ?_))
  have s12 := s1.trans s2
  refine ⟨true, exm_own T.e_KinError T.u_BadNote_KinError, fun _ ad na => ?_, fun z => Bool.noConfusion z⟩
  refine ⟨adr mg "BadNote", rfl, rfl, T.e_BadNote.c, ?_⟩
  refine s_asgN (evn_lst (eva_cons (evd_isEo rfl T.e_BadNote T.u_BadNote_BadNote T.u_BadNote_BadNote) (eva_cons (evd_isEv rfl T.e_BadNote) (eva_cons (evd_isEo rfl T.e_NoBoard T.u_BadNote_NoBoard T.u_NoBoard_NoBoard) eva_nil))) (Nat.le_add_left 3 997)) fun p xs H3 s3 n3 e3 im3 => ?_
  refine s_ret ((evd_eqLs (ds := [.bool true, .bool true, .bool false]) (es := [.bool true, .bool true, .bool false]) (evs_var rfl ⟨xs, e3, im3⟩) (EvN.s (evn_lst (eva_cons evd_bl (eva_cons evd_bl (eva_cons evd_bl eva_nil))) (Nat.le_add_left 3 997))) (shaped_marks _ _ _) (shaped_marks _ _ _)).cast (by rw [eqv_marks]; rfl)) fun v H4 s4 iv => q v H4 ((s12.trans s3).trans s4) iv
end
end Bk

namespace Bk
open PySem PySem.Spec PyProof.Rows L2
open SX
/-! ### texts spoiled -/
def okRows (rs : List (List Nat)) : Prop := ∃ w, 1 ≤ w ∧ w ≤ 8 ∧ 1 ≤ rs.length ∧ rs.length ≤ 8 ∧ ∀ r, r ∈ rs → r.length = w ∧ Figs r
theorem good_rows {a : List Nat} {rs : List (List Nat)} (e : lns a = rs ++ [[]]) (g : GoodT a) : okRows rs := by
  obtain ⟨b, w, h, dm, ib, fb, e2⟩ := good_lns g
  have e3 : rs = b.map rowT := List.append_cancel_right (e.symm.trans e2)
  subst e3
  have hb : (b.map rowT).length = h := by rw [List.length_map, ib.high]
  refine ⟨w, dm.w1, dm.w8, by rw [hb]; exact dm.h1, by rw [hb]; exact dm.h8, fun r hr => ?_⟩
  obtain ⟨r0, h0, rfl⟩ := List.mem_map.mp hr
  exact ⟨by unfold rowT; rw [List.length_map]; exact ib.wide r0 h0, fun c hc => rowT_dig fb h0 hc⟩
theorem good_last {a : List Nat} (g : GoodT a) : ∃ rs, lns a = rs ++ [[]] := by
  obtain ⟨b, w, h, dm, ib, fb, e2⟩ := good_lns g
  exact ⟨_, e2⟩
def linesT (rs : List (List Nat)) : List Nat := (rs.map fun r => r ++ [10]).flatten
theorem joinL_lines : ∀ rs : List (List Nat), TL.joinL [10] (rs ++ [[]]) = linesT rs
  | [] => rfl
  | [r] => by
    show r ++ ([10] ++ []) = (r ++ [10]) ++ []
    simp
  | r :: s :: b => by
    show r ++ ([10] ++ TL.joinL [10] ((s :: b) ++ [[]])) = (r ++ [10]) ++ linesT (s :: b)
    rw [joinL_lines (s :: b), List.append_assoc]
theorem lns_lines {rs : List (List Nat)} (h : ∀ r, r ∈ rs → 10 ∉ r) : lns (linesT rs) = rs ++ [[]] := by
  rw [← joinL_lines]
  refine lns_of (by simp) fun p hp => ?_
  rcases List.mem_append.mp hp with m | m
  · exact h p m
  · rw [List.mem_singleton.mp m]
    exact List.not_mem_nil
theorem bad_lines {rs : List (List Nat)} (h : ∀ r, r ∈ rs → 10 ∉ r) (n : ¬ okRows rs) : ¬ GoodT (linesT rs) := fun g => n (good_rows (lns_lines h) g)
theorem lines_len : ∀ rs : List (List Nat), (∀ r, r ∈ rs → r.length ≤ 12) → (linesT rs).length ≤ rs.length * 13
  | [], _ => Nat.zero_le _
  | r :: rs, h => by
    have ih := lines_len rs fun s m => h s (.tail _ m)
    have h0 := h r (.head _)
    show ((r ++ [10]) ++ linesT rs).length ≤ (rs.length + 1) * 13
    rw [List.length_append, List.length_append]
    show r.length + 1 + _ ≤ _
    omega
theorem figs_no {l : List Nat} (h : Figs l) : 10 ∉ l := fun z => by
  have := h 10 z
  omega
/-- what a spoiling leaves -/
structure Spoilt (bad : List (List Nat)) : Prop where
  no : ∀ r, r ∈ bad → 10 ∉ r
  len : ∀ r, r ∈ bad → r.length ≤ 12
  many : bad.length ≤ 12
  not : ¬ okRows bad
section
variable {σ : L2.St} {H : Hp} {K : PySem.W.Frag} {te ts : TE} {a : List Nat}
theorem evd_lenS (h : EvD te σ H (strD a)) (hz : a.length ≤ 100000) : EvD (tCB (fun xs H Q => ∃ z : Str, xs = [V.str z] ∧ z.length ≤ sizeLine ∧ Q (.int z.length) H) (tCons te tNil)) σ H (.int (a.length : Int)) := fun H1 s Q q =>
  h H1 s _ fun x H2 s2 i2 => ⟨S a, by rw [i2.strv], by rw [S_len]; exact Nat.le_trans hz (by decide), by
    rw [S_len]
    exact q _ H2 s2 (.int _)⟩
theorem evd_joinS {ys : List (List Nat)} (hs : EvD ts σ H (strD a)) (h : EvS te σ H (ys.map strD)) (hz : (ys.map (·.length)).sum + ys.length * a.length ≤ 16777216) : EvD (tM1 (rJoin K) ts te) σ H (strD (TL.joinL a ys)) := fun H1 s Q q =>
  hs H1 s _ fun x H2 s2 i2 => ⟨⟨S a, i2.strv⟩, h H2 (s.trans s2) _ fun p xs H3 s3 ep im => by
    have e : ys.map strD = (ys.map S).map .str := by rw [List.map_map]; rfl
    rw [e] at im
    have ex := im.strs
    subst ex
    refine ⟨S a, p, ys.map S, i2.strv, rfl, .inl (SqL.of ep), by rw [lens_sum, List.length_map, S_len]; exact hz, ?_⟩
    rw [join_S]
    exact q _ H3 (s2.trans s3) (.str _)⟩
end
theorem sum_len : ∀ rs : List (List Nat), (∀ r, r ∈ rs → r.length ≤ 13) → (rs.map (·.length)).sum ≤ rs.length * 13
  | [], _ => Nat.zero_le _
  | r :: rs, h => by
    have ih := sum_len rs fun s m => h s (.tail _ m)
    have h0 := h r (.head _)
    show r.length + (rs.map (·.length)).sum ≤ (rs.length + 1) * 13
    omega
theorem joinL_le : ∀ rs : List (List Nat), (∀ r, r ∈ rs → r.length ≤ 12) → (TL.joinL [10] rs).length ≤ rs.length * 13
  | [], _ => Nat.zero_le _
  | [p], h => by
    have := h p (.head _)
    show p.length ≤ 1 * 13
    omega
  | p :: q :: r, h => by
    have ih := joinL_le (q :: r) fun s m => h s (.tail _ m)
    have h0 := h p (.head _)
    show (p ++ ([10] ++ TL.joinL [10] (q :: r))).length ≤ ((q :: r).length + 1) * 13
    rw [List.length_append, List.length_append]
    show p.length + (1 + _) ≤ _
    omega
theorem mem_ins3 {α : Type} {l : List α} {y : Nat} {x z : α} (h : z ∈ l.take y ++ [x] ++ l.drop y) : z = x ∨ z ∈ l := by
  rcases List.mem_append.mp h with m | m
  · rcases List.mem_append.mp m with m | m
    · exact .inr (List.mem_of_mem_take m)
    · exact .inl (List.mem_singleton.mp m)
  · exact .inr (List.mem_of_mem_drop m)
theorem len_ins3 {α : Type} {l : List α} {y : Nat} {x : α} : (l.take y ++ [x] ++ l.drop y).length = l.length + 1 := by
  rw [List.length_append, List.length_append, List.length_take, List.length_drop]
  show _ + 1 + _ = _
  omega
theorem mem_ins_self {α : Type} {l : List α} {y : Nat} {x : α} : x ∈ l.take y ++ [x] ++ l.drop y := List.mem_append_left _ (List.mem_append_right _ (List.mem_singleton.mpr rfl))
theorem mem_ins_old {α : Type} {l : List α} {y : Nat} {x z : α} (h : z ∈ l) : z ∈ l.take y ++ [x] ++ l.drop y := by
  rw [← List.take_append_drop y l] at h
  rcases List.mem_append.mp h with m | m
  · exact List.mem_append_left _ (List.mem_append_left _ m)
  · exact List.mem_append_right _ m
theorem map_ins3 (l : List (List Nat)) (y : Nat) (x : List Nat) : (l.take y ++ [x] ++ l.drop y).map strD = (l.map strD).take y ++ [strD x] ++ (l.map strD).drop y := by
  rw [List.map_append, List.map_append, List.map_take, List.map_drop]
  rfl
section
variable {P : Program} {w : World} {K : PySem.W.Frag} {mg : Str → Option Value} {base : Heap}
theorem ok_law_spoiled (T : Txt K mg) : DfOk P w K mg base CX0 1 "_law_spoiled" ps_law_spoiled (fun vs H Q _ => ∃ (l : Addr) (c : Int) (rs : List (List Nat)), okRows rs ∧ vs = [.ref l, .int c] ∧ Ls H l (rs.map strD) ∧
    ∀ a v H', ¬ GoodT a → a.length ≤ 300 → Same H H' → Im H' v (strD a) → Q v H') := by
  refine dok T.d_law_spoiled sc_law_spoiled (fun vs H Q E ⟨l, c, rs, _, z, _⟩ => by rw [z]; rfl) (fun f cdv A outer s H vs Q E hr hsp => ?_)
  refine ⟨_, (pss_cons (ps_set (i := 2) sc_law_spoiled.nd rfl (.inl rfl) (pe_op op_mod (pv 1) pe_int))
 (pss_cons (ps_set (i := 3) sc_law_spoiled.nd rfl (.inl rfl) (pe_op op_mod (pe_op op_fdiv (pv 1) pe_int) (pe_callB (id := "len") (cb_len K) (by rfl) T.z_len (by decide +kernel) (pa_cons (pv 0) pa_nil))))
 (pss_cons (ps_set (i := 4) sc_law_spoiled.nd rfl (.inl rfl) (pe_op op_mod (pe_op op_fdiv (pv 1) pe_int) (pe_callB (id := "len") cb_lenS (by rfl) T.z_len (by decide +kernel) (pa_cons (pe_ix (ixq K) (pv 0) (pv 3) (fun _ _ => rfl)) pa_nil))))
 (pss_cons (ps_set (i := 5) sc_law_spoiled.nd rfl (.inr rfl) (pe_callTy (T := "list") (cb_list K) (by rfl) T.z_list (by decide +kernel) (pa_cons (pv 0) pa_nil)))
 (pss_cons (ps_set (i := 6) sc_law_spoiled.nd rfl (.inl rfl) (pe_ix (ixq K) pe_str (pe_op op_mod (pe_op op_fdiv (pv 1) pe_int) pe_int) (fun _ _ => rfl)))
 (C8.pss_cut (ps_if (pt_cmpR op_eq (pv 2) pe_int (nomark _))
 (pss_one (ps_asg (pe_op op_add_str (pe_op op_add_str (pe_slice slS (pe_ix (ixq K) (pv 5) (pv 3) (fun _ _ => rfl)) po_none (po_some (pv 4))) (pv 6)) (pe_slice slS (pe_ix (ixq K) (pv 5) (pv 3) (fun _ _ => rfl)) (po_some (pv 4)) po_none)) (pg_sub (pv 5) (pv 3) set_list)))
 (pss_one (ps_if (pt_cmpR op_eq (pv 2) pe_int (nomark _))
 (pss_one (ps_asg (pe_op op_add_str (pe_op op_add_str (pe_slice slS (pe_ix (ixq K) (pv 5) (pv 3) (fun _ _ => rfl)) po_none (po_some (pv 4))) (pv 6)) (pe_slice slS (pe_ix (ixq K) (pv 5) (pv 3) (fun _ _ => rfl)) (po_some (pe_op op_add (pv 4) pe_int)) po_none)) (pg_sub (pv 5) (pv 3) set_list)))
 (pss_one (ps_if (pt_cmpR op_eq (pv 2) pe_int (nomark _))
 (pss_one (ps_expr (pe_bm PySem.F.plainAttrs_list PySem.F.slot_list_insert PySem.F.type_list_insert mt_insert (pv 5) (pa_cons (pv 3) (pa_cons (pe_op op_add_str (pe_ix (ixq K) (pv 5) (pv 3) (fun _ _ => rfl)) pe_str) pa_nil)))))
 (pss_one (ps_if (pt_cmpR op_eq (pv 2) pe_int (nomark _))
 (pss_one (ps_expr (pe_bm PySem.F.plainAttrs_list PySem.F.slot_list_insert PySem.F.type_list_insert mt_insert (pv 5) (pa_cons (pv 3) (pa_cons (pe_slice slS (pe_ix (ixq K) (pv 5) (pv 3) (fun _ _ => rfl)) po_none (po_some (pe_un un_neg pe_int))) pa_nil)))))
 (pss_one (ps_if (pt_cmpR op_eq (pv 2) pe_int (nomark _))
 (pss_one (ps_set (i := 5) sc_law_spoiled.nd rfl (.inr rfl) (pe_lc (own := [("k", 8)]) (g := gName 8) (tt := tYes) (by rfl) sc_law_spoiled.nd (pi_range1 (by rfl) T.z_range (pa_cons pe_int pa_nil)) (blkOk_by (own := [("k", 8)]) (N := N_law_spoiled) (sc := defScope s_law_spoiled) (by decide +kernel)) (fun _ _ _ _ _ => pg_name (i := 8) sc_law_spoiled.nd rfl (by first | exact Or.inl rfl | exact Or.inr rfl)) (fun _ _ _ _ _ => pts_nil) (fun _ _ _ _ _ => (pe_ix (ixq K) (pv 5) pe_int (fun _ _ => rfl))))))
 (pss_one (ps_if (pt_cmpR op_eq (pv 2) pe_int (nomark _))
 (pss_one (ps_set (i := 5) sc_law_spoiled.nd rfl (.inr rfl) (pe_lc (own := [("row", 7)]) (g := gName 7) (tt := tYes) (by rfl) sc_law_spoiled.nd (pil K (pv 5)) (blkOk_by (own := [("row", 7)]) (N := N_law_spoiled) (sc := defScope s_law_spoiled) (by decide +kernel)) (fun _ _ _ _ _ => pg_name (i := 7) sc_law_spoiled.nd rfl (by first | exact Or.inl rfl | exact Or.inr rfl)) (fun _ _ _ _ _ => pts_nil) (fun _ _ _ _ _ => pe_str))))
 (pss_one (ps_if (pt_cmpR op_eq (pv 2) pe_int (nomark _))
 (pss_one (ps_ret (pe_joinK K pe_str (pv 5))))
 (pss_one (ps_if (pt_cmpR op_eq (pv 2) pe_int (nomark _))
 (pss_one (ps_expr (pe_bm PySem.F.plainAttrs_list PySem.F.slot_list_insert PySem.F.type_list_insert mt_insert (pv 5) (pa_cons (pe_op op_mod (pe_op op_fdiv (pv 1) pe_int) (pe_op op_add (pe_callB (id := "len") (cb_len K) (by rfl) T.z_len (by decide +kernel) (pa_cons (pv 0) pa_nil)) pe_int)) (pa_cons pe_str pa_nil)))))
 (pss_one (ps_ret (pe_ix (ixq K) (pe_lst (pa_cons pe_str (pa_cons pe_str (pa_cons pe_str (pa_cons pe_str (pa_cons pe_str (pa_cons pe_str (pa_cons pe_str (pa_cons pe_str pa_nil))))))))) (pe_op op_mod (pe_op op_fdiv (pv 1) pe_int) pe_int) (fun _ _ => rfl)))))))))))))))))))
 (pss_one (ps_ret (pe_joinK K pe_str (pe_lc (own := [("row", 7)]) (g := gName 7) (tt := tYes) (by rfl) sc_law_spoiled.nd (pil K (pv 5)) (blkOk_by (own := [("row", 7)]) (N := N_law_spoiled) (sc := defScope s_law_spoiled) (by decide +kernel)) (fun _ _ _ _ _ => pg_name (i := 7) sc_law_spoiled.nd rfl (by first | exact Or.inl rfl | exact Or.inr rfl)) (fun _ _ _ _ _ => pts_nil) (fun _ _ _ _ _ => (pe_op op_add_str (pv 7) pe_str)))))))))))), ?_⟩
  obtain ⟨l, c, rs, ⟨wd, w1, w8, h1, h8, hrs⟩, rfl, ls, q⟩ := hsp
  have lm : (rs.map strD).length = rs.length := List.length_map _
  have gs : ∀ {y : Nat} {r : List Nat}, rs[y]? = some r → (rs.map strD)[y]? = some (strD r) := fun e => by rw [List.getElem?_map, e]; rfl
  refine s_seq (s_asgI (n := c % 9) (evd_mod (evd_var rfl (.int _)) evd_int (by decide)) fun H1 s1 => ?_)
  obtain ⟨y, ey, by_⟩ := mod_nat (c / 9) (m := rs.length) (by omega)
  have by_ : y < rs.length := by omega
  refine s_nx ?_
  refine s_seq (s_asgI (n := ((y : Nat) : Int)) ((evd_mod (evd_fdiv (evd_var rfl (.int _)) evd_int ⟨by decide, by decide⟩) (evd_lenLs (evv_var rfl) (ls.sm s1)) (by rw [lm]; omega)).cast (by rw [lm]; exact congrArg PyData.int ey)) fun H2 s2 => ?_)
  refine s_nx ?_
  have s02 := s1.trans s2
  obtain ⟨ry, hry⟩ : ∃ r, rs[y]? = some r := ⟨_, List.getElem?_eq_getElem by_⟩
  have myr := List.mem_of_getElem? hry
  obtain ⟨lry, fry⟩ := hrs ry myr
  obtain ⟨x, ex, bx⟩ := mod_nat (c / 72) (m := wd) (by omega)
  have bx : x < wd := by omega
  refine s_seq (s_asgI (n := ((x : Nat) : Int)) ((evd_mod (evd_fdiv (evd_var rfl (.int _)) evd_int ⟨by decide, by decide⟩) (evd_lenS (a := ry) (evd_ixLs (evv_var rfl) (evd_var rfl (.int _)) (ls.sm s02) (atI_ofNat rfl (gs hry))) (by omega)) (by omega)).cast (by rw [lry]; exact congrArg PyData.int ex)) fun H3 s3 => ?_)
  refine s_nx ?_
  have s03 := s02.trans s3
  obtain ⟨xs0, e0, im0⟩ := id (ls.sm s03)
  refine s_seq (s_asgLs (evn_lstL (evv_var rfl) (SqL.of e0) im0) fun p H4 s4 np lb => ?_)
  refine s_nx ?_
  have s04 := s03.trans s4
  obtain ⟨sg, hsg, bsg⟩ : ∃ sg : Nat, atI [32, 45, 43, 95, 46, 44, 97, 120, 58, 126] (c / 700 % 10) = some sg ∧ (sg < 48 ∨ 57 < sg) ∧ sg ≠ 10 := by
    obtain ⟨j, ej, bj⟩ := mod_nat (c / 700) (m := 10) (by decide)
    rw [ej]
    have : j = 0 ∨ j = 1 ∨ j = 2 ∨ j = 3 ∨ j = 4 ∨ j = 5 ∨ j = 6 ∨ j = 7 ∨ j = 8 ∨ j = 9 := by omega
    rcases this with rfl | rfl | rfl | rfl | rfl | rfl | rfl | rfl | rfl | rfl <;> exact ⟨_, rfl, by decide, by decide⟩
  refine s_seq (s_asg (evd_ixS (K := K) (a := [32, 45, 43, 95, 46, 44, 97, 120, 58, 126]) (evd_lit rfl) (evd_mod (evd_fdiv (evd_var rfl (.int _)) evd_int ⟨by decide, by decide⟩) evd_int (by decide)) (by decide) hsg) fun vg H5 s5 ig => ?_)
  have lb5 := lb.sm s5
  have s05 := s04.trans s5
  have npH : H p = none := s03.free np
  have ne10 : ∀ r, r ∈ rs → 10 ∉ r := fun r m => figs_no (hrs r m).2
  have l12 : ∀ r, r ∈ rs → r.length ≤ 12 := fun r m => by rw [(hrs r m).1]; omega
  clear lb
  -- one row is another one
  have setOk : ∀ r', ¬ Figs r' → 10 ∉ r' → r'.length ≤ 12 → Spoilt (rs.set y r') := fun r' nf n10 l' => by
    refine ⟨fun r m => ?_, fun r m => ?_, by rw [List.length_set]; omega, fun ⟨w', _, _, _, _, z⟩ => nf (z r' (List.mem_set by_ r')).2⟩
    · rcases List.mem_or_eq_of_mem_set m with m | m
      · exact ne10 r m
      · rw [m]; exact n10
    · rcases List.mem_or_eq_of_mem_set m with m | m
      · exact l12 r m
      · rw [m]; exact l'
  have insOk : ∀ (j : Nat) r', r'.length ≠ wd → 10 ∉ r' → r'.length ≤ 12 → Spoilt (rs.take j ++ [r'] ++ rs.drop j) := fun j r' nl n10 l' => by
    refine ⟨fun r m => ?_, fun r m => ?_, by rw [len_ins3]; omega, fun ⟨w', _, _, _, _, z⟩ => ?_⟩
    · rcases mem_ins3 m with m | m
      · rw [m]; exact n10
      · exact ne10 r m
    · rcases mem_ins3 m with m | m
      · rw [m]; exact l'
      · exact l12 r m
    · have z1 := (z r' mem_ins_self).1
      have z2 := (z ry (mem_ins_old myr)).1
      omega
  have sgl : ∀ {u v : List Nat}, (∀ z, z ∈ u → 10 ≠ z) → (∀ z, z ∈ v → 10 ≠ z) → 10 ∉ u ++ [sg] ++ v := fun h1 h2 z => by
    rcases List.mem_append.mp z with m | m
    · rcases List.mem_append.mp m with m | m
      · exact h1 _ m rfl
      · exact bsg.2 (List.mem_singleton.mp m).symm
    · exact h2 _ m rfl
  have nfig : ∀ {u v : List Nat}, ¬ Figs (u ++ [sg] ++ v) := fun z => by
    have := z sg (List.mem_append_left _ (List.mem_append_right _ (List.mem_singleton.mpr rfl)))
    omega
  have ry10 : ∀ z, z ∈ ry → 10 ≠ z := fun z m e => by
    have := fry z m
    omega
  refine s_cut (fun σ H' => Same H H' ∧ ∃ (p' : Addr) (bad : List (List Nat)) (v7 v8 : Option V), Ls H' p' (bad.map strD) ∧ Spoilt bad ∧ σ = [some (.ref l), some (.int c), some (.int (c % 9)), some (.int ((y : Nat) : Int)), some (.int ((x : Nat) : Int)), some (.ref p'), some vg, v7, v8]) ?_ ?_
  · refine s_if (evt_test (evd_eqI (evd_var rfl (.int _)) evd_int)) (fun _ H6 s6 => ?_) fun n0 H6 s6 => ?_
    · -- way 0
      have lb6 := lb5.sm s6
      refine s_setLs (j := y) (d := strD (ry.take x ++ [sg] ++ ry.drop x)) lb6 (evv_var rfl) (evd_var rfl (.int _)) (evd_addS (evd_addS (evd_slTo (j := x) (evd_ixLs (evv_var rfl) (evd_var rfl (.int _)) lb6 (atI_ofNat rfl (gs hry))) (evd_var rfl (.int _)) rfl (by omega) (by omega)) (evd_var rfl (ig.sm s6)) (by rw [List.length_take]; show _ + 1 ≤ _; omega)) (evd_slFrom (j := x) (evd_ixLs (evv_var rfl) (evd_var rfl (.int _)) lb6 (atI_ofNat rfl (gs hry))) (evd_var rfl (.int _)) rfl (by omega) (by omega)) (by rw [List.length_append, List.length_take, List.length_drop]; show _ + 1 + _ ≤ _; omega)) rfl (by rw [lm]; exact by_) fun H7 b7 t7 lb7 => ?_
      refine ⟨same_but (s05.trans s6) npH b7, p, rs.set y (ry.take x ++ [sg] ++ ry.drop x), _, _, by rw [List.map_set]; exact lb7, setOk _ nfig (sgl (fun z m => ry10 z (List.mem_of_mem_take m)) fun z m => ry10 z (List.mem_of_mem_drop m)) (by rw [List.length_append, List.length_append, List.length_take, List.length_drop]; show _ + 1 + _ ≤ _; omega), rfl⟩
    refine s_if (evt_test (evd_eqI (evd_var rfl (.int _)) evd_int)) (fun _ H7 s7 => ?_) fun n1 H7 s7 => ?_
    · -- way 1
      have lb7 := lb5.sm (s6.trans s7)
      refine s_setLs (j := y) (d := strD (ry.take x ++ [sg] ++ ry.drop (x + 1))) lb7 (evv_var rfl) (evd_var rfl (.int _)) (evd_addS (evd_addS (evd_slTo (j := x) (evd_ixLs (evv_var rfl) (evd_var rfl (.int _)) lb7 (atI_ofNat rfl (gs hry))) (evd_var rfl (.int _)) rfl (by omega) (by omega)) (evd_var rfl (ig.sm (s6.trans s7))) (by rw [List.length_take]; show _ + 1 ≤ _; omega)) (evd_slFrom (j := x + 1) (evd_ixLs (evv_var rfl) (evd_var rfl (.int _)) lb7 (atI_ofNat rfl (gs hry))) (evd_add (evd_var rfl (.int _)) evd_int) rfl (by omega) (by omega)) (by rw [List.length_append, List.length_take, List.length_drop]; show _ + 1 + _ ≤ _; omega)) rfl (by rw [lm]; exact by_) fun H8 b8 t8 lb8 => ?_
      refine ⟨same_but ((s05.trans s6).trans s7) npH b8, p, rs.set y (ry.take x ++ [sg] ++ ry.drop (x + 1)), _, _, by rw [List.map_set]; exact lb8, setOk _ nfig (sgl (fun z m => ry10 z (List.mem_of_mem_take m)) fun z m => ry10 z (List.mem_of_mem_drop m)) (by rw [List.length_append, List.length_append, List.length_take, List.length_drop]; show _ + 1 + _ ≤ _; omega), rfl⟩
    have s67 := s6.trans s7
    refine s_if (evt_test (evd_eqI (evd_var rfl (.int _)) evd_int)) (fun _ H8 s8 => ?_) fun n2 H8 s8 => ?_
    · -- way 2
      have lb8 := lb5.sm (s67.trans s8)
      refine s_insLs (j := y) (d := strD (ry ++ [48])) lb8 (evv_var rfl) (evd_var rfl (.int _)) (evd_addS (evd_ixLs (evv_var rfl) (evd_var rfl (.int _)) lb8 (atI_ofNat rfl (gs hry))) (evd_lit rfl) (by show _ + 1 ≤ _; omega)) rfl (by omega) (by rw [lm]; omega) fun H9 b9 t9 lb9 => ?_
      refine ⟨same_but ((s05.trans s67).trans s8) npH b9, p, rs.take y ++ [ry ++ [48]] ++ rs.drop y, _, _, by rw [map_ins3]; exact lb9, insOk y _ (by rw [List.length_append]; show _ + 1 ≠ _; omega) (fun z => by
        rcases List.mem_append.mp z with m | m
        · exact ry10 _ m rfl
        · simp at m) (by rw [List.length_append]; show _ + 1 ≤ _; omega), rfl⟩
    have s68 := s67.trans s8
    refine s_if (evt_test (evd_eqI (evd_var rfl (.int _)) evd_int)) (fun _ H9 s9 => ?_) fun n3 H9 s9 => ?_
    · -- way 3
      have lb9 := lb5.sm (s68.trans s9)
      refine s_insLs (j := y) (d := strD ry.dropLast) lb9 (evv_var rfl) (evd_var rfl (.int _)) (evd_slInit (evd_ixLs (evv_var rfl) (evd_var rfl (.int _)) lb9 (atI_ofNat rfl (gs hry))) (by omega)) rfl (by omega) (by rw [lm]; omega) fun H10 b10 t10 lb10 => ?_
      refine ⟨same_but ((s05.trans s68).trans s9) npH b10, p, rs.take y ++ [ry.dropLast] ++ rs.drop y, _, _, by rw [map_ins3]; exact lb10, insOk y _ (by rw [List.length_dropLast]; omega) (fun z => ry10 _ ((List.dropLast_sublist ry).subset z) rfl) (by rw [List.length_dropLast]; omega), rfl⟩
    have s69 := s68.trans s9
    refine s_if (evt_test (evd_eqI (evd_var rfl (.int _)) evd_int)) (fun _ H10 s10 => ?_) fun n4 H10 s10 => ?_
    · -- way 4
      have lb10 := lb5.sm (s69.trans s10)
      obtain ⟨r0, hr0⟩ : ∃ r, rs[0]? = some r := ⟨_, List.getElem?_eq_getElem (by omega)⟩
      have m0 := List.mem_of_getElem? hr0
      have h := evn_lcN (n := 9) (k := 8) (te := tOp (rIx K) (tVar 5) (tC (.int 0))) (σ := [some (.ref l), some (.int c), some (.int (c % 9)), some (.int ((y : Nat) : Int)), some (.int ((x : Nat) : Int)), some (.ref p), some vg, none, none]) (evi_rangeN (n := 9) evd_int (by decide)) (fun _ => strD r0) (fun i H2 hi s2 => evd_ixLs (evv_var rfl) evd_int (lb10.sm s2) (atI_ofNat rfl (gs hr0))) (by decide)
      have e9 : (List.range 9).map (fun _ => strD r0) = (List.replicate 9 r0).map strD := rfl
      rw [e9] at h
      refine s_asgLs h fun p' H11 s11 n11 lb11 => ?_
      refine ⟨((s05.trans s69).trans s10).trans s11, p', List.replicate 9 r0, _, _, lb11, ⟨fun r m => by rw [List.eq_of_mem_replicate m]; exact ne10 _ m0, fun r m => by rw [List.eq_of_mem_replicate m]; exact l12 _ m0, by rw [List.length_replicate]; decide, fun ⟨_, _, _, _, z, _⟩ => by rw [List.length_replicate] at z; exact absurd z (by decide)⟩, rfl⟩
    have s610 := s69.trans s10
    refine s_if (evt_test (evd_eqI (evd_var rfl (.int _)) evd_int)) (fun _ H11 s11 => ?_) fun n5 H11 s11 => ?_
    · -- way 5
      have lb11 := lb5.sm (s610.trans s11)
      have h := evn_lcM (k := 7) (te := tC (.str (Str.ofString "123456789"))) (g := strD) (bs := rs) (σ := [some (.ref l), some (.int c), some (.int (c % 9)), some (.int ((y : Nat) : Int)), some (.int ((x : Nat) : Int)), some (.ref p), some vg, none, none]) (evi_Ls (K := K) (te := tVar 5) (evv_var rfl) lb11) (fun _ => strD [49, 50, 51, 52, 53, 54, 55, 56, 57]) (fun r v H2 hi s2 _ => evd_lit rfl) (by omega)
      have e9 : rs.map (fun _ => strD [49, 50, 51, 52, 53, 54, 55, 56, 57]) = (rs.map fun _ => [49, 50, 51, 52, 53, 54, 55, 56, 57]).map strD := by rw [List.map_map]; rfl
      rw [e9] at h
      refine s_asgLs h fun p' H12 s12 n12 lb12 => ?_
      refine ⟨((s05.trans s610).trans s11).trans s12, p', _, _, _, lb12, ⟨fun r m => ?_, fun r m => ?_, by rw [List.length_map]; omega, fun ⟨w', _, z8, _, _, z⟩ => ?_⟩, rfl⟩
      · obtain ⟨_, _, rfl⟩ := List.mem_map.mp m
        decide
      · obtain ⟨_, _, rfl⟩ := List.mem_map.mp m
        decide
      · have z9 := (z _ (List.mem_map.mpr ⟨ry, myr, rfl⟩)).1
        have : (9 : Nat) = w' := z9
        omega
    have s611 := s610.trans s11
    refine s_if (evt_test (evd_eqI (evd_var rfl (.int _)) evd_int)) (fun _ H12 s12 => ?_) fun n6 H12 s12 => ?_
    · -- way 6
      have lb12 := lb5.sm (s611.trans s12)
      refine s_ret (evd_joinS (K := K) (a := [10]) (ys := rs) (evd_lit rfl) (evs_var rfl lb12) (by
        have := sum_len rs fun r m => Nat.le_succ_of_le (l12 r m)
        show _ + rs.length * 1 ≤ _
        omega)) fun v H13 s13 iv => q _ v H13 (fun g => ?_) ?_ (((s05.trans s611).trans s12).trans s13) iv
      · obtain ⟨rs', e'⟩ := good_last g
        have e2 : lns (TL.joinL [10] rs) = rs := lns_of (fun z => by rw [z] at h1; exact absurd h1 (by decide)) ne10
        rw [e2] at e'
        have m : ([] : List Nat) ∈ rs := by rw [e']; simp
        have z := (hrs _ m).1
        have z : 0 = wd := z
        omega
      · have := joinL_le rs l12
        omega
    refine s_if (evt_test (evd_eqI (evd_var rfl (.int _)) evd_int)) (fun _ H13 s13 => ?_) fun n7 H13 s13 => ?_
    · -- way 7
      have s613 := (s611.trans s12).trans s13
      have lb13 := lb5.sm s613
      obtain ⟨j, ej, bj⟩ := mod_nat (c / 9) (m := (rs.length : Int) + 1) (by omega)
      refine s_insLs (j := j) (d := strD []) lb13 (evv_var rfl) (evd_mod (evd_fdiv (evd_var rfl (.int _)) evd_int ⟨by decide, by decide⟩) (evd_add (evd_lenLs (evv_var rfl) (ls.sm (s05.trans s613))) evd_int) (by rw [lm]; omega)) (evd_lit rfl) (by rw [lm]; exact ej) (by omega) (by rw [lm]; omega) fun H14 b14 t14 lb14 => ?_
      exact ⟨same_but (s05.trans s613) npH b14, p, rs.take j ++ [[]] ++ rs.drop j, _, _, by rw [map_ins3]; exact lb14, insOk j _ (by show 0 ≠ wd; omega) List.not_mem_nil (Nat.zero_le _), rfl⟩
    · -- the texts as they stand
      obtain ⟨j, ej, bj⟩ := mod_nat (c / 9) (m := 8) (by decide)
      obtain ⟨a, ha, na, la⟩ : ∃ a : List Nat, atI [strD [], strD [10], strD [10, 10], strD [48], strD [32, 10], strD [120, 10], strD [48, 10, 10], strD [48, 9, 10]] (c / 9 % 8) = some (strD a) ∧ ¬ GoodT a ∧ a.length ≤ 300 := by
        rw [ej]
        have one : ∀ {a : List Nat} {rs : List (List Nat)}, lns a = rs ++ [[]] → ¬ okRows rs → ¬ GoodT a := fun e n g => n (good_rows e g)
        have : j = 0 ∨ j = 1 ∨ j = 2 ∨ j = 3 ∨ j = 4 ∨ j = 5 ∨ j = 6 ∨ j = 7 := by omega
        rcases this with rfl | rfl | rfl | rfl | rfl | rfl | rfl | rfl
        · exact ⟨_, rfl, one (rs := []) rfl fun ⟨_, _, _, z, _⟩ => absurd z (by decide), by decide⟩
        · exact ⟨_, rfl, one (rs := [[]]) rfl fun ⟨w', z1, _, _, _, z⟩ => by
            have := (z [] (by simp)).1
            have : 0 = w' := this
            omega, by decide⟩
        · exact ⟨_, rfl, one (rs := [[], []]) rfl fun ⟨w', z1, _, _, _, z⟩ => by
            have := (z [] (by simp)).1
            have : 0 = w' := this
            omega, by decide⟩
        · refine ⟨_, rfl, fun g => ?_, by decide⟩
          obtain ⟨rs', e'⟩ := good_last g
          have m : ([] : List Nat) ∈ lns [48] := by rw [e']; simp
          have e2 : lns [48] = [[48]] := rfl
          rw [e2] at m
          simp at m
        · exact ⟨_, rfl, one (rs := [[32]]) rfl fun ⟨w', _, _, _, _, z⟩ => by
            have := (z [32] (by simp)).2 32 (by simp)
            omega, by decide⟩
        · exact ⟨_, rfl, one (rs := [[120]]) rfl fun ⟨w', _, _, _, _, z⟩ => by
            have := (z [120] (by simp)).2 120 (by simp)
            omega, by decide⟩
        · exact ⟨_, rfl, one (rs := [[48], []]) rfl fun ⟨w', z1, _, _, _, z⟩ => by
            have := (z [] (by simp)).1
            have : 0 = w' := this
            omega, by decide⟩
        · exact ⟨_, rfl, one (rs := [[48, 9]]) rfl fun ⟨w', _, _, _, _, z⟩ => by
            have := (z [48, 9] (by simp)).2 9 (by simp)
            omega, by decide⟩
      refine s_ret (evd_ixN (K := K) (evn_lst (eva_cons (evd_lit rfl) (eva_cons (evd_lit rfl) (eva_cons (evd_lit rfl) (eva_cons (evd_lit rfl) (eva_cons (evd_lit rfl) (eva_cons (evd_lit rfl) (eva_cons (evd_lit rfl) (eva_cons (evd_lit rfl) eva_nil)))))))) (Nat.le_add_left 8 992)) (evd_mod (evd_fdiv (evd_var rfl (.int _)) evd_int ⟨by decide, by decide⟩) evd_int (by decide)) ha) fun v H14 s14 iv => q a v H14 na la ((((s05.trans s611).trans s12).trans s13).trans s14) iv
  · rintro σ H6 ⟨s6, p', bad, v7, v8, lb6, sp, rfl⟩
    have h := evn_lcM (k := 7) (te := tOp rAddS (tVar 7) (tC (.str (Str.ofString "\n")))) (g := strD) (bs := bad) (σ := [some (.ref l), some (.int c), some (.int (c % 9)), some (.int ((y : Nat) : Int)), some (.int ((x : Nat) : Int)), some (.ref p'), some vg, v7, v8]) (evi_Ls (K := K) (te := tVar 5) (evv_var rfl) lb6) (fun r => strD (r ++ [10])) (fun r v H2 hm s2 ir => evd_addS (evd_var rfl ir) (evd_lit rfl) (by have := sp.len r hm; show _ + 1 ≤ _; omega)) (by have := sp.many; omega)
    have e9 : bad.map (fun r => strD (r ++ [10])) = (bad.map fun r => r ++ [10]).map strD := by rw [List.map_map]; rfl
    rw [e9] at h
    have lmax := sp.many
    refine s_ret (evd_joinS (K := K) (a := []) (ys := bad.map fun r => r ++ [10]) (evd_lit rfl) h.s (by
      have := sum_len (bad.map fun r => r ++ [10]) fun r m => by
        obtain ⟨r0, m0, rfl⟩ := List.mem_map.mp m
        have := sp.len r0 m0
        rw [List.length_append]
        show _ + 1 ≤ _
        omega
      rw [List.length_map] at this ⊢
      show _ + bad.length * 0 ≤ _
      omega)) fun v H7 s7 iv => ?_
    rw [joinL_nil] at iv
    refine q (linesT bad) v H7 (bad_lines sp.no sp.not) ?_ (s6.trans s7) iv
    have := lines_len bad sp.len
    omega
end
end Bk

namespace Bk
open PySem PySem.Spec PyProof.Rows L2
/-! ### the law's own small defs -/
def spCellAt (K : PySem.W.Frag) : Sp := fun vs H Q _ => ∃ (l : Addr) (ns : List Int) (k : Nat), vs = [.ref l, .int (k : Nat)] ∧ SqL K H l (ns.map V.int) ∧ ∀ H', Same H H' → Q (.int (cellAt ns k)) H'
section
variable {P : Program} {w : World} {K : PySem.W.Frag} {mg : Str → Option Value} {base : Heap}
theorem ok_law_cell_at (T : Txt K mg) : DfOk P w K mg base CX0 1 "_law_cell_at" ps_law_cell_at (spCellAt K) := by
  refine dok T.d_law_cell_at sc_law_cell_at (fun vs H Q E ⟨l, ns, k, z, _⟩ => by rw [z]; rfl) (fun f cdv A outer s H vs Q E hr hsp => ?_)
  refine ⟨_, (pss_cons (ps_if (pt_cmpR op_lt (pv 1) (pe_callB (id := "len") (cb_len K) (by rfl) T.z_len (by decide +kernel) (pa_cons (pv 0) pa_nil)) (nomark _))
 (pss_one (ps_ret (pe_ix (ixq K) (pv 0) (pv 1) (fun _ _ => rfl))))
 pss_nil)
 (pss_one (ps_ret pe_int))), ?_⟩
  obtain ⟨l, ns, k, rfl, hl, q⟩ := hsp
  refine s_seq (s_if (evt_test (evd_lt (evd_var rfl (.int _)) (evd_lenL (evv_var rfl) hl))) (fun h H1 s1 => ?_) fun h H1 s1 => ?_)
  · have hk : k < ns.length := by
      have z := of_decide_eq_true h
      rw [List.length_map] at z
      omega
    refine s_ret (evd_ixL (evv_var rfl) (evd_var rfl (.int _)) (s1.seq hl) (imAll_ints ns) (atI_ofNat (v := .int (cellAt ns k)) rfl ?_)) fun v H2 s2 i2 => ?_
    · rw [List.getElem?_map, List.getElem?_eq_getElem hk]
      unfold cellAt
      rw [List.getElem?_eq_getElem hk]
      rfl
    · cases i2.intv
      exact q _ (s1.trans s2)
  · have hk : ¬ k < ns.length := by
      have z := of_decide_eq_false h
      rw [List.length_map] at z
      omega
    refine s_nx ?_
    refine s_ret evd_int fun v H2 s2 i2 => ?_
    cases i2.intv
    have e : cellAt ns k = 0 := by
      unfold cellAt
      rw [List.getElem?_eq_none (by omega)]
      rfl
    rw [e] at q
    exact q _ (s1.trans s2)
theorem evd_cellAt {σ : L2.St} {H : Hp} {t1 t2 : TE} {l : Addr} {ns : List Int} {k : Nat} (h1 : EvV t1 σ H (.ref l)) (h2 : EvD t2 σ H (.int ((k : Nat) : Int))) (hl : SqL K H l (ns.map V.int)) : EvD (tCall (spCellAt K) [] E0 (tCons t1 (tCons t2 tNil))) σ H (.int (cellAt ns k)) := fun H1 s Q q =>
  h1 H1 s _ fun H2 s2 => h2 H2 (s.trans s2) _ fun v H3 s3 i3 => by
    rw [i3.intv]
    exact ⟨l, ns, k, rfl, ((s.trans s2).trans s3).seq hl, fun H4 s4 => q _ H4 ((s2.trans s3).trans s4) (.int _)⟩
end
end Bk

namespace Bk
open PySem PySem.Spec PyProof.Rows L2
def R_law_board_by : List PyData → PyData → Prop := fun ds d => ∃ (c col : Int) (w h : Nat), Dim w h ∧ 0 < col ∧ ds = [.int c, .int (w : Int), .int (h : Int), .int col] ∧ d = bdD (byB c w h col)
theorem byB_row {c col : Int} {w h y : Nat} (hy : y < h) : (byB c w h col)[y]? = some ((List.range w).map fun x => lcg c (y * w + x + 1) / 7 % col) := mkB_row hy
section
variable {P : Program} {w : World} {K : PySem.W.Frag} {mg : Str → Option Value} {base : Heap}
theorem ok_law_board_by (T : Txt K mg) : DfOk P w K mg base CX0 1 "_law_board_by" ps_law_board_by (spD R_law_board_by) := by
  refine dok T.d_law_board_by sc_law_board_by (spD_len (n := 4) fun ds d ⟨c, col, w, h, _, _, z, _⟩ => by rw [z]; rfl) (fun f cdv A outer s H vs Q E hr hsp => ?_)
  refine ⟨_, (pss_cons (ps_set (i := 4) sc_law_board_by.nd rfl (.inl rfl) (pe_lst pa_nil))
 (pss_cons (ps_for PassesOwn.never rfl (pi_range1 (by rfl) T.z_range (pa_cons (pv 2) pa_nil)) (pg_name (i := 5) sc_law_board_by.nd rfl (.inl rfl))
 (pss_cons (ps_set (i := 6) sc_law_board_by.nd rfl (.inl rfl) (pe_lst pa_nil))
 (pss_cons (ps_for PassesOwn.never rfl (pi_range1 (by rfl) T.z_range (pa_cons (pv 1) pa_nil)) (pg_name (i := 7) sc_law_board_by.nd rfl (.inl rfl))
 (pss_cons (ps_set (i := 0) sc_law_board_by.nd rfl (.inl rfl) (pe_op op_mod (pe_op op_add (pe_op op_mul (pv 0) pe_int) pe_int) pe_int))
 (pss_one (ps_expr (pe_bm PySem.F.plainAttrs_list PySem.F.slot_list_append PySem.F.type_list_append mt_append (pv 6) (pa_cons (pe_op op_mod (pe_op op_fdiv (pv 0) pe_int) (pv 3)) pa_nil))))))
 (pss_one (ps_expr (pe_bm PySem.F.plainAttrs_list PySem.F.slot_list_append PySem.F.type_list_append mt_append (pv 4) (pa_cons (pe_callTy (T := "tuple") (cb_tuple K) (by rfl) T.z_tuple (by decide +kernel) (pa_cons (pv 6) pa_nil)) pa_nil)))))))
 (pss_one (ps_ret (pe_callTy (T := "tuple") (cb_tuple K) (by rfl) T.z_tuple (by decide +kernel) (pa_cons (pv 4) pa_nil)))))), ?_⟩
  obtain ⟨ds, d, ⟨c, col, wd, ht, dm, hcol, rfl, rfl⟩, im, q⟩ := hsp
  obtain ⟨v0, v1, v2, v3, rfl, i0, i1, i2, i3⟩ := imAll4 im
  cases i0.intv
  cases i1.intv
  cases i2.intv
  cases i3.intv
  have w1 := dm.w1
  have w8 := dm.w8
  have h1 := dm.h1
  have h8 := dm.h8
  refine s_seq (s_asgLs (evn_lst eva_nil (Nat.zero_le _)) fun l H1 s1 nl ls => ?_)
  refine s_seq (s_forRn (evd_var rfl (.int _)) (by omega) (fun y σ H' => Same H H' ∧ ∃ (v5 v6 v7 : Option V), σ = [some (.int (lcg c (y * wd))), some (.int wd), some (.int ht), some (.int col), some (.ref l), v5, v6, v7] ∧ Ls H' l (((byB c wd ht col).take y).map rowD)) ?_ ?_ ?_)
  · refine fun H2 s2 => ⟨s1.trans s2, none, none, none, ?_, ls.sm s2⟩
    rw [Nat.zero_mul]
    rfl
  · rintro y σ H2 hy ⟨s2, v5, v6, v7, rfl, ls⟩
    refine s_seq (s_asgLs (evn_lst eva_nil (Nat.zero_le _)) fun r H3 s3 nr lr => ?_)
    have nlr : l ≠ r := ls.ne nr
    have nrH : H r = none := s2.free nr
    refine s_seq (s_forRn (evd_var rfl (.int _)) (by omega) (fun x σ H' => Same H H' ∧ ∃ (v7 : Option V), σ = [some (.int (lcg c (y * wd + x))), some (.int wd), some (.int ht), some (.int col), some (.ref l), some (.int ((y : Nat) : Int)), some (.ref r), v7] ∧ Ls H' l (((byB c wd ht col).take y).map rowD) ∧
      Ls H' r ((List.range x).map fun x => .int (lcg c (y * wd + x + 1) / 7 % col))) ?_ ?_ ?_)
    · exact fun H4 s4 => ⟨(s2.trans s3).trans s4, v7, rfl, (ls.sm s3).sm s4, lr.sm s4⟩
    · clear ls lr s3
      rintro x σ H4 hx ⟨s4, v7, rfl, ls, lr⟩
      refine s_seq (s_asgI (evd_mod (evd_add (evd_mul (evd_var rfl (.int _)) evd_int (.inr ⟨by decide, by decide⟩)) evd_int) evd_int (by decide)) fun H5 s5 => ?_)
      refine s_appLs (lr.sm s5) (evv_var rfl) (evd_mod (evd_fdiv (evd_var rfl (.int _)) evd_int ⟨by decide, by decide⟩) (evd_var rfl (.int _)) hcol) (by rw [List.length_map, List.length_range]; omega) fun H6 b6 t6 lr6 => ?_
      refine ⟨same_but (s4.trans s5) nrH b6, some (.int ((x : Nat) : Int)), rfl, (ls.sm s5).but nlr b6 t6, ?_⟩
      rw [List.range_succ, List.map_append]
      exact lr6
    · clear ls lr s3
      rintro σ H4 ⟨s4, v7, rfl, ls, lr⟩
      refine s_appLs ls (evv_var rfl) (evd_tupLs (evv_var rfl) lr) (by rw [List.length_map, List.length_take]; omega) fun H5 b5 t5 ls5 => ?_
      refine ⟨same_but s4 nl b5, some (.int ((y : Nat) : Int)), some (.ref r), v7, ?_, ?_⟩
      · rw [Nat.add_mul, Nat.one_mul]
      · rw [take_next (byB_row hy), List.map_append]
        have e : rowD ((List.range wd).map fun x => lcg c (y * wd + x + 1) / 7 % col) = .tuple ((List.range wd).map fun x => .int (lcg c (y * wd + x + 1) / 7 % col)) := by
          unfold rowD
          rw [List.map_map]
          rfl
        show Ls H5 l (_ ++ [rowD _])
        rw [e]
        exact ls5
  · rintro σ H2 ⟨s2, v5, v6, v7, rfl, ls⟩
    refine s_ret (evd_tupLs (evv_var rfl) ls) fun v H3 s3 i3 => q v H3 (s2.trans s3) ?_
    have e : (byB c wd ht col).take ht = byB c wd ht col := List.take_of_length_le (by have z : (byB c wd ht col).length = ht := (isB_mk _ _ _).high; omega)
    rw [e] at i3
    exact i3
end
end Bk

namespace Bk
open PySem PySem.Spec PyProof.Rows L2
open SX
/-! ### the law -/
theorem atI_fig {c : Int} (h0 : 0 ≤ c) (h9 : c ≤ 9) : atI [48, 49, 50, 51, 52, 53, 54, 55, 56, 57] c = some (48 + c.toNat) := by
  obtain ⟨n, rfl⟩ := Int.eq_ofNat_of_zero_le h0
  have : n = 0 ∨ n = 1 ∨ n = 2 ∨ n = 3 ∨ n = 4 ∨ n = 5 ∨ n = 6 ∨ n = 7 ∨ n = 8 ∨ n = 9 := by omega
  rcases this with rfl | rfl | rfl | rfl | rfl | rfl | rfl | rfl | rfl | rfl <;> rfl
theorem one_sum : ∀ l : List Nat, ((l.map fun c => [c]).map (·.length)).sum = l.length
  | [] => rfl
  | c :: l => by
    have ih := one_sum l
    show 1 + ((l.map fun c => [c]).map (·.length)).sum = l.length + 1
    omega
theorem flat_one : ∀ l : List Nat, (l.map fun c => [c]).flatten = l
  | [] => rfl
  | c :: l => by
    show c :: (l.map fun c => [c]).flatten = c :: l
    rw [flat_one l]
section
variable {P : Program} {w : World} {K : PySem.W.Frag} {mg : Str → Option Value} {base : Heap}
theorem ok_law (T : Txt K mg) {f : Addr} {fd : FuncData} (F : Fun K "law" "law" s_law f fd) : FnOk P w K mg base CX0 4 f fd ["script"] (spLaw K) := by
  have D_law_cell_at : DfOk P w K mg base CX0 1 "_law_cell_at" ps_law_cell_at (spCellAt K) := ok_law_cell_at T
  have D_law_board_by : DfOk P w K mg base CX0 1 "_law_board_by" ps_law_board_by (spD R_law_board_by) := ok_law_board_by T
  have D_law_spoiled := ok_law_spoiled (P := P) (w := w) (base := base) T
  have D_law_refused : DfOk P w K mg base CX0 3 "_law_refused" ps_law_refused (spD R_law_refused) := ok_law_refused T
  refine F.ok sc_law (fun vs H Q E ⟨a, ns, z, _⟩ => by rw [z]; rfl) (fun cdv A outer s H vs Q E hr hsp => ?_)
  refine ⟨_, (pss_cons (ps_set (i := 1) sc_law.nd rfl (.inl rfl) (pe_op op_add pe_int (pe_op op_mod (pe_cd D_law_cell_at (hr.mono (by decide)) (by rfl) (pa_cons (pv 0) (pa_cons pe_int pa_nil))) pe_int)))
 (pss_cons (ps_set (i := 2) sc_law.nd rfl (.inl rfl) (pe_op op_add pe_int (pe_op op_mod (pe_cd D_law_cell_at (hr.mono (by decide)) (by rfl) (pa_cons (pv 0) (pa_cons pe_int pa_nil))) pe_int)))
 (pss_cons (ps_set (i := 3) sc_law.nd rfl (.inl rfl) (pe_cd D_law_board_by (hr.mono (by decide)) (by rfl) (pa_cons (pe_cd D_law_cell_at (hr.mono (by decide)) (by rfl) (pa_cons (pv 0) (pa_cons pe_int pa_nil))) (pa_cons (pv 1) (pa_cons (pv 2) (pa_cons pe_int pa_nil))))))
 (pss_cons (ps_setLc (i := 4) (own := [("row", 6)]) (g := gName 6) (tt := tYes) (by rfl) sc_law.nd rfl rfl (sw_true rfl rfl rfl (by decide +kernel)) (pit K (pv 3)) (blkOk_by (own := [("row", 6)]) (N := N_law) (sc := defScope s_law) (by decide +kernel)) (fun _ _ _ _ _ => pg_name (i := 6) sc_law.nd rfl (by first | exact Or.inl rfl | exact Or.inr rfl)) (fun _ _ _ _ _ => pts_nil) (fun _ _ _ _ _ => (pe_joinK K pe_str (pe_lc (own := [("colour", 7)]) (g := gName 7) (tt := tYes) (by rfl) sc_law.nd (pit K (pv 6)) (blkOk_by (own := [("colour", 7)]) (N := N_law) (by rfl)) (fun _ _ _ _ _ => pg_name (i := 7) sc_law.nd rfl (by first | exact Or.inl rfl | exact Or.inr rfl)) (fun _ _ _ _ _ => pts_nil) (fun _ _ _ _ _ => (pe_ix (ixq K) pe_str (pv 7) (fun _ _ => rfl)))))))
 (pss_cons (ps_for PassesOwn.never rfl (pi_range1 (by rfl) T.z_range (pa_cons pe_int pa_nil)) (pg_name (i := 5) sc_law.nd rfl (.inl rfl))
 (pss_one (ps_if (pt_not (pt_val (pe_cd D_law_refused (hr.mono (by decide)) (by rfl) (pa_cons (pe_cd D_law_spoiled (hr.mono (by decide)) (by rfl) (pa_cons (pv 4) (pa_cons (pe_cd D_law_cell_at (hr.mono (by decide)) (by rfl) (pa_cons (pv 0) (pa_cons (pe_op op_add pe_int (pv 5)) pa_nil))) pa_nil))) pa_nil))))
 (pss_one (ps_ret pe_bl))
 pss_nil)))
 (pss_one (ps_ret pe_bl))))))), ?_⟩
  obtain ⟨l, ns, rfl, hl, _, q⟩ := hsp
  have cell : ∀ {σ : L2.St} {H1 : Hp} (k : Nat), σ[0]? = some (some (.ref l)) → Same H H1 → EvD (tCall (spCellAt K) [] E0 (tCons (tVar 0) (tCons (tC (.int ((k : Nat) : Int))) tNil))) σ H1 (.int (cellAt ns k)) := fun k h0 s1 => evd_cellAt (evv_var h0) evd_int (s1.seq hl)
  obtain ⟨wd0, ew, bw⟩ := mod_nat (cellAt ns 0) (m := 8) (by decide)
  have hw : 1 + cellAt ns 0 % 8 = ((wd0 + 1 : Nat) : Int) := by omega
  refine s_seq (s_asgI (evd_add evd_int (evd_mod (cell 0 rfl (Same.refl H)) evd_int (by decide))) fun H1 s1 => ?_)
  rw [hw]
  generalize hwd : wd0 + 1 = wd
  have w1 : 1 ≤ wd := by omega
  have w8 : wd ≤ 8 := by omega
  obtain ⟨ht0, eh, bh⟩ := mod_nat (cellAt ns 1) (m := 8) (by decide)
  have hh : 1 + cellAt ns 1 % 8 = ((ht0 + 1 : Nat) : Int) := by omega
  refine s_seq (s_asgI (evd_add evd_int (evd_mod (cell 1 rfl s1) evd_int (by decide))) fun H2 s2 => ?_)
  rw [hh]
  generalize hht : ht0 + 1 = ht
  have h1 : 1 ≤ ht := by omega
  have h8 : ht ≤ 8 := by omega
  have dm : Dim wd ht := ⟨w1, w8, h1, h8⟩
  have s3 := s1.trans s2
  refine s_seq (s_asg (evd_call (eva_cons (cell 2 rfl s3) (eva_cons (evd_var rfl (.int _)) (eva_cons (evd_var rfl (.int _)) (eva_cons evd_int eva_nil)))) (spD_gives ⟨_, 10, wd, ht, dm, (by decide), rfl, rfl⟩)) fun vb H4 s4 ib => ?_)
  have ibb : IsB (byB (cellAt ns 2) wd ht 10) wd ht := isB_mk _ _ _
  have fb : Fig (byB (cellAt ns 2) wd ht 10) := fig_by (by decide) (by decide)
  generalize byB (cellAt ns 2) wd ht 10 = b at ib ibb fb
  have s34 := s3.trans s4
  refine s_nx ?_
  have hrows := evn_lcM (k := 6) (te := tM1 (rJoin K) (tC (.str (Str.ofString ""))) (tLc (iTup K (tVar 6)) (gName 7) tYes (tOp (rIx K) (tC (.str (Str.ofString "0123456789"))) (tVar 7)) [7])) (g := rowD) (bs := b) (σ := [some (.ref l), some (.int (wd : Int)), some (.int (ht : Int)), some vb, none, none, none, none]) (H := H4)
    (evi_tup (K := K) (te := tVar 3) (evd_var rfl (show Im H4 vb (.tuple (b.map rowD)) from ib))) (fun r => strD (rowT r)) (fun r v H' hm s' ir => by
      have hin := evn_lcM (k := 7) (te := tOp (rIx K) (tC (.str (Str.ofString "0123456789"))) (tVar 7)) (g := PyData.int) (bs := r) (σ := [some (.ref l), some (.int (wd : Int)), some (.int (ht : Int)), some vb, none, none, some v, none]) (H := H') (evi_tup (K := K) (te := tVar 6) (evd_var rfl (show Im H' v (.tuple (r.map .int)) from ir))) (fun c => strD [48 + c.toNat])
        (fun c v' H'' hc s'' ic => by
          have f := fb r hm c hc
          exact evd_ixS (K := K) (evd_lit figs_eq) (evd_var rfl ic) (by decide) (atI_fig f.1 f.2)) (by rw [ibb.wide r hm]; omega)
      have e2 : r.map (fun c : Int => strD [48 + c.toNat]) = ((rowT r).map fun c => [c]).map strD := by
        unfold rowT
        rw [List.map_map, List.map_map]
        rfl
      rw [e2] at hin
      have hj := evd_join (K := K) (ts := tC (.str (Str.ofString ""))) (a := []) (ys := (rowT r).map fun c => [c]) (evd_lit rfl) hin (by
        have e3 : (rowT r).length = wd := by unfold rowT; rw [List.length_map]; exact ibb.wide r hm
        rw [one_sum, List.length_map, e3]
        show wd + wd * 0 ≤ _
        omega)
      rw [joinL_nil, flat_one] at hj
      exact hj) (by rw [ibb.high]; omega)
  have er : b.map (fun r => strD (rowT r)) = (b.map rowT).map strD := by rw [List.map_map]; rfl
  rw [er] at hrows
  have okr : okRows (b.map rowT) := ⟨wd, w1, w8, by rw [List.length_map, ibb.high]; exact h1, by rw [List.length_map, ibb.high]; exact h8, fun r hr' => by
    obtain ⟨r0, h0, rfl⟩ := List.mem_map.mp hr'
    exact ⟨by unfold rowT; rw [List.length_map]; exact ibb.wide r0 h0, fun c hc => rowT_dig fb h0 hc⟩⟩
  refine s_seq (s_asgLs hrows fun p H5 s5 np lp => ?_)
  have s35 := s34.trans s5
  refine s_nx ?_
  refine s_seq (s_forRn (n := 6) evd_int (by decide) (fun i σ H' => Same H5 H' ∧ ∃ kv, σ = [some (.ref l), some (.int (wd : Int)), some (.int (ht : Int)), some vb, some (.ref p), kv, none, none]) (fun H6 s6 => ⟨s6, _, rfl⟩) ?_ ?_)
  · rintro i σ H6 hi ⟨s6, kv, rfl⟩
    refine s_gn ?_
    refine s_if (b := false) ((evt_not (evt_B (b := true) ?_)).cast rfl) (fun z => absurd z Bool.false_ne_true) fun _ H7 s7 => s_nx ⟨s6.trans s7, _, rfl⟩
    have hc : EvD (tCall (spCellAt K) [] E0 (tCons (tVar 0) (tCons (tOp (rI0 fun i j => .int (i + j)) (tC (.int 3)) (tVar 5)) tNil))) [some (.ref l), some (.int (wd : Int)), some (.int (ht : Int)), some vb, some (.ref p), some (.int ((i : Nat) : Int)), none, none] H6 (.int (cellAt ns (3 + i))) :=
      evd_cellAt (evv_var rfl) ((evd_add evd_int (evd_var rfl (.int _))).cast (by
        show PyData.int (3 + (i : Int)) = PyData.int ((3 + i : Nat) : Int)
        congr 1)) ((s35.trans s6).seq hl)
    intro H7 s7 Q' q'
    refine ⟨.ref p, rfl, ?_⟩
    refine hc H7 s7 _ fun vc H8 s8 ic => ?_
    rw [ic.intv]
    exact ⟨p, _, b.map rowT, okr, rfl, lp.sm ((s6.trans s7).trans s8), fun a v H9 na la s9 iv => ⟨[strD a], .bool true, ⟨a, la, na, rfl, rfl⟩, .cons iv .nil, fun v2 H10 s10 i10 => q' v2 H10 ((s8.trans s9).trans s10) i10⟩⟩
  · rintro σ H6 ⟨s6, kv, rfl⟩
    refine s_nx ?_
    refine s_ret evd_bl fun v H7 s7 iv => ?_
    rw [iv.blv]
    exact q H7
theorem law_ends {l : PySem.W.OpenLaw} {fa : Addr} (T : Txt K mg) (L : Ltx K mg s_law) (hfa : mg "law" = some (.ref fa)) :
    ∃ fd : FuncData, (∀ (s : Shared) (u : Value), BindsTo s fd ⟨[u], []⟩ [("script", u)]) ∧ ∀ base : Heap, K.In base → base.Ns mainGlobals mg → FnOk l.prog w K mg base CX0 4 fa fd ["script"] (spLaw K) := by
  obtain ⟨f, fd, F, hm, hb⟩ := L.ex
  cases hfa.symm.trans hm
  exact ⟨fd, hb, fun base _ _ => ok_law T F⟩
end
end Bk
/-! ### the end -/
open PySem PySem.W PyProof.Rows
set_option maxHeartbeats 0 in
theorem PySem.Challenge.cw_boardkin_k16_texts_refused_holds : PySem.Challenge.rw_boardkin_k16_texts_refused.Holds := by
  w_on; o_law; k_head; (case hw => w_witness2)
  k_fill
  refine L2.walk_of (l := PySem.Challenge.rw_boardkin_k16_texts_refused) (n := 63) (k := 4) (x := "script") (CX := fun _ => L2.CX0) (sp := fun w => Bk.spLaw _) rfl (by decide) rfl ⟨rfl, by decide, by decide⟩ (fun w h Y => PySem.W.kIn_of Y) ?F (fun _ _ a ns hl _ hS => ⟨a, ns, rfl, hS, hl, fun _ => rfl⟩) (fun _ _ _ _ _ h => h)
  case F =>
    intro w mg fa h KX G hmg
    refine Bk.law_ends ?T ?L hmg
    case L =>
      refine' Bk.ltx_mk KX G ?a ?l ?c ?k (fun _ _ _ _ _ _ s u => .of_eq rfl)
      (case a => k_is); (case l => k_is); (case c => k_is); (case k => k_is)
    case T =>
      refine' Bk.Txt.mk ?d_looked ?d_row_of ?d_read ?d_law_cell_at ?d_law_board_by ?d_law_refused ?d_law_spoiled ?z_len ?z_tuple ?z_int ?z_range ?z_isinstance ?z_ValueError ?z_list ?c_MOST ?c_FIGURES ?e_KinError ?e_NoBoard ?e_BadNote ?u_KinError_KinError ?u_KinError_NoBoard ?u_KinError_BadNote ?u_NoBoard_KinError ?u_NoBoard_NoBoard ?u_NoBoard_BadNote ?u_BadNote_KinError ?u_BadNote_NoBoard ?u_BadNote_BadNote
      case d_looked =>
        refine' Bk.dtx_mk KX G ?a ?l ?c ?k (fun _ _ _ _ _ _ us hl => match us, hl with | [_], _ => rfl)
        (case a => k_is); (case l => k_is); (case c => k_is); (case k => k_is)
      case d_row_of =>
        refine' Bk.dtx_mk KX G ?a ?l ?c ?k (fun _ _ _ _ _ _ us hl => match us, hl with | [_], _ => rfl)
        (case a => k_is); (case l => k_is); (case c => k_is); (case k => k_is)
      case d_read =>
        refine' Bk.dtx_mk KX G ?a ?l ?c ?k (fun _ _ _ _ _ _ us hl => match us, hl with | [_], _ => rfl)
        (case a => k_is); (case l => k_is); (case c => k_is); (case k => k_is)
      case d_law_cell_at =>
        refine' Bk.dtx_mk KX G ?a ?l ?c ?k (fun _ _ _ _ _ _ us hl => match us, hl with | [_, _], _ => rfl)
        (case a => k_is); (case l => k_is); (case c => k_is); (case k => k_is)
      case d_law_board_by =>
        refine' Bk.dtx_mk KX G ?a ?l ?c ?k (fun _ _ _ _ _ _ us hl => match us, hl with | [_, _, _, _], _ => rfl)
        (case a => k_is); (case l => k_is); (case c => k_is); (case k => k_is)
      case d_law_refused =>
        refine' Bk.dtx_mk KX G ?a ?l ?c ?k (fun _ _ _ _ _ _ us hl => match us, hl with | [_], _ => rfl)
        (case a => k_is); (case l => k_is); (case c => k_is); (case k => k_is)
      case d_law_spoiled =>
        refine' Bk.dtx_mk KX G ?a ?l ?c ?k (fun _ _ _ _ _ _ us hl => match us, hl with | [_, _], _ => rfl)
        (case a => k_is); (case l => k_is); (case c => k_is); (case k => k_is)
      case z_len => refine' mg_none_of KX G ?a; (case a => k_is)
      case z_tuple => refine' mg_none_of KX G ?a; (case a => k_is)
      case z_int => refine' mg_none_of KX G ?a; (case a => k_is)
      case z_range => refine' mg_none_of KX G ?a; (case a => k_is)
      case z_isinstance => refine' mg_none_of KX G ?a; (case a => k_is)
      case z_ValueError => refine' mg_none_of KX G ?a; (case a => k_is)
      case z_list => refine' mg_none_of KX G ?a; (case a => k_is)
      case c_MOST => refine' ⟨_, mg_of KX G ?a, ?b⟩; (case a => k_is); (case b => exact ⟨_, rfl⟩)
      case c_FIGURES => refine' ⟨_, mg_of KX G ?a, ?b⟩; (case a => k_is); (case b => exact ⟨_, rfl⟩)
      case e_KinError =>
        refine' Bk.ecl_mk KX G ?a ?x ?k ?b ?t ?i ?v ?c
        (case a => k_is); (case x => k_exc); (case k => k_is); (case b => k_is); (case t => k_is); (case i => k_is); (case v => k_is)
        (case c => (refine' ⟨?_, ?_, ?_, ?_, ?_, ?_, ?_, ?_⟩ <;> k_is))
      case e_NoBoard =>
        refine' Bk.ecl_mk KX G ?a ?x ?k ?b ?t ?i ?v ?c
        (case a => k_is); (case x => k_exc); (case k => k_is); (case b => k_is); (case t => k_is); (case i => k_is); (case v => k_is)
        (case c => (refine' ⟨?_, ?_, ?_, ?_, ?_, ?_, ?_, ?_⟩ <;> k_is))
      case e_BadNote =>
        refine' Bk.ecl_mk KX G ?a ?x ?k ?b ?t ?i ?v ?c
        (case a => k_is); (case x => k_exc); (case k => k_is); (case b => k_is); (case t => k_is); (case i => k_is); (case v => k_is)
        (case c => (refine' ⟨?_, ?_, ?_, ?_, ?_, ?_, ?_, ?_⟩ <;> k_is))
      case u_KinError_KinError => refine' Bk.und_mk KX G ?a ?b ?s; (case a => k_is); (case b => k_is); (case s => first | rfl | k_is)
      case u_KinError_NoBoard => refine' Bk.und_mk KX G ?a ?b ?s; (case a => k_is); (case b => k_is); (case s => first | rfl | k_is)
      case u_KinError_BadNote => refine' Bk.und_mk KX G ?a ?b ?s; (case a => k_is); (case b => k_is); (case s => first | rfl | k_is)
      case u_NoBoard_KinError => refine' Bk.und_mk KX G ?a ?b ?s; (case a => k_is); (case b => k_is); (case s => first | rfl | k_is)
      case u_NoBoard_NoBoard => refine' Bk.und_mk KX G ?a ?b ?s; (case a => k_is); (case b => k_is); (case s => first | rfl | k_is)
      case u_NoBoard_BadNote => refine' Bk.und_mk KX G ?a ?b ?s; (case a => k_is); (case b => k_is); (case s => first | rfl | k_is)
      case u_BadNote_KinError => refine' Bk.und_mk KX G ?a ?b ?s; (case a => k_is); (case b => k_is); (case s => first | rfl | k_is)
      case u_BadNote_NoBoard => refine' Bk.und_mk KX G ?a ?b ?s; (case a => k_is); (case b => k_is); (case s => first | rfl | k_is)
      case u_BadNote_BadNote => refine' Bk.und_mk KX G ?a ?b ?s; (case a => k_is); (case b => k_is); (case s => first | rfl | k_is)
