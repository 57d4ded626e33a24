import PyProof.Rows.All
import Wide.All
import OpenK.AllK
import Wide.FinOn
import HandS.ForMost
import HandS.Evl
import HandS.Deep
import HandS.TupAny
import HandS.IsInst
import HandS.Zip
import HandS.RevRange
import HandS.Defaults
import HandS.Exc
import HandS.HeadHook4
import HandS.HeadEnd
import HandS.Head2
import PySem.Challenge.RW_handways_k07_whole_ways_that_may_be_chan
import HandS.ForExc
import KE.GoesEnum
import KE.GoesMore
import KE.GoesZip
set_option Elab.async false
set_option linter.all false
set_option maxRecDepth 100000
set_option maxHeartbeats 4000000
/-! W1: data (tuples within tuples) as values, what expressions are worth as data -/
namespace Hw
open PySem PySem.Spec PyProof.Rows L2 Evl
theorem filter_not_isEmpty {α : Type} {f : α → Bool} : ∀ xs : List α, (xs.filter fun t => !f t).isEmpty = xs.all f
  | [] => rfl
  | x :: r => by
    rw [List.filter_cons, List.all_cons]
    cases h : f x with
    | true => simpa using filter_not_isEmpty (f := f) r
    | false => simp

/-! ### data that never changes -/
mutual
inductive Td (K : PySem.W.Frag) (H : Hp) : V → PyData → Prop
  | non : Td K H .non .none
  | bl (b : Bool) : Td K H (.bl b) (.bool b)
  | int (i : Int) : Td K H (.int i) (.int i)
  | str (x : Str) : Td K H (.str x) (.str x)
  | tup {a : Addr} {xs : List V} {ds : List PyData} : SqT K H a xs → TdAll K H xs ds → Td K H (.ref a) (.tuple ds)
inductive TdAll (K : PySem.W.Frag) (H : Hp) : List V → List PyData → Prop
  | nil : TdAll K H [] []
  | cons {v : V} {vs : List V} {d : PyData} {ds : List PyData} : Td K H v d → TdAll K H vs ds → TdAll K H (v :: vs) (d :: ds)
end
/-- tuples stay as they stand -/
def Keep (K : PySem.W.Frag) (H H' : Hp) : Prop := ∀ a xs, SqT K H a xs → SqT K H' a xs
section
variable {K : PySem.W.Frag} {H H' H1 H2 : Hp}
theorem Keep.refl : Keep K H H := fun _ _ h => h
theorem Keep.trans (a : Keep K H H1) (b : Keep K H1 H2) : Keep K H H2 := fun x xs h => b x xs (a x xs h)
theorem ex_keep (e : Ex H H') : Keep K H H' := fun _ _ h => ex_t e h
theorem Keep.upd {a : Addr} {o u : HO} (h : H a = some u) (m : Mut (some u)) : Keep K H (upd H a o) := fun b xs q => by
  rcases q with (q | ⟨oo, q⟩) | q
  · refine .inl (.inl ?_)
    rw [upd_ne]
    · exact q
    · intro z
      subst z
      rw [h] at q
      cases q
      exact m
  · refine .inl (.inr ⟨oo, ?_⟩)
    rw [upd_ne]
    · exact q
    · intro z
      subst z
      rw [h] at q
      cases q
      exact m
  · exact .inr q
mutual
theorem Td.keep (k : Keep K H H') : ∀ (d : PyData) {v : V}, Td K H v d → Td K H' v d
  | .none, _, h => by cases h; exact .non
  | .bool _, _, h => by cases h; exact .bl _
  | .int _, _, h => by cases h; exact .int _
  | .str _, _, h => by cases h; exact .str _
  | .list _, _, h => by cases h
  | .tuple ds, _, h => by
    cases h with
    | tup hs ha => exact .tup (k _ _ hs) (TdAll.keep k ds ha)
  | .dict _, _, h => by cases h
theorem TdAll.keep (k : Keep K H H') : ∀ (ds : List PyData) {vs : List V}, TdAll K H vs ds → TdAll K H' vs ds
  | [], _, h => by cases h; exact .nil
  | d :: ds, _, h => by
    cases h with
    | cons a b => exact .cons (Td.keep k d a) (TdAll.keep k ds b)
end
theorem Td.kp {d : PyData} {v : V} (h : Td K H v d) (k : Keep K H H') : Td K H' v d := Td.keep k d h
theorem TdAll.kp {d : List PyData} {v : List V} (h : TdAll K H v d) (k : Keep K H H') : TdAll K H' v d := TdAll.keep k d h
theorem Td.ex {d : PyData} {v : V} (h : Td K H v d) (e : Ex H H') : Td K H' v d := h.kp (ex_keep e)
theorem TdAll.ex {d : List PyData} {v : List V} (h : TdAll K H v d) (e : Ex H H') : TdAll K H' v d := h.kp (ex_keep e)
mutual
theorem Td.dp : ∀ (d : PyData) {v : V}, Td K H v d → Dp K H v d
  | .none, _, h => by cases h; exact .non
  | .bool _, _, h => by cases h; exact .bl _
  | .int _, _, h => by cases h; exact .int _
  | .str _, _, h => by cases h; exact .str _
  | .list _, _, h => by cases h
  | .tuple ds, _, h => by
    cases h with
    | tup hs ha => exact .tup hs (TdAll.dp ds ha)
  | .dict _, _, h => by cases h
theorem TdAll.dp : ∀ (ds : List PyData) {vs : List V}, TdAll K H vs ds → DpAll K H vs ds
  | [], _, h => by cases h; exact .nil
  | d :: ds, _, h => by
    cases h with
    | cons a b => exact .cons (Td.dp d a) (TdAll.dp ds b)
end
theorem TdAll.length : ∀ {ds : List PyData} {vs : List V}, TdAll K H vs ds → vs.length = ds.length
  | [], _, h => by cases h; rfl
  | d :: ds, _, h => by
    cases h with
    | cons a b => simp [TdAll.length b]
theorem TdAll.get : ∀ {ds : List PyData} {vs : List V} {i : Nat} {d : PyData}, TdAll K H vs ds → ds[i]? = some d → ∃ v, vs[i]? = some v ∧ Td K H v d
  | [], _, _, _, _, e => by simp at e
  | d :: ds, _, i, d', h, e => by
    cases h with
    | cons a b =>
      cases i with
      | zero => simp at e; subst e; exact ⟨_, rfl, a⟩
      | succ i => simp at e; simpa using TdAll.get b e
theorem TdAll.getV : ∀ {ds : List PyData} {vs : List V} {i : Nat} {v : V}, TdAll K H vs ds → vs[i]? = some v → ∃ d, ds[i]? = some d ∧ Td K H v d
  | [], _, _, _, h, e => by cases h; simp at e
  | d :: ds, _, i, v', h, e => by
    cases h with
    | cons a b =>
      cases i with
      | zero => simp at e; subst e; exact ⟨_, rfl, a⟩
      | succ i => simp at e; simpa using TdAll.getV b e
theorem TdAll.append : ∀ {ds es : List PyData} {vs us : List V}, TdAll K H vs ds → TdAll K H us es → TdAll K H (vs ++ us) (ds ++ es)
  | [], _, _, _, h, g => by cases h; exact g
  | d :: ds, _, _, _, h, g => by
    cases h with
    | cons a b => exact .cons a (TdAll.append b g)
theorem TdAll.snoc {ds : List PyData} {vs : List V} {d : PyData} {v : V} (h : TdAll K H vs ds) (g : Td K H v d) : TdAll K H (vs ++ [v]) (ds ++ [d]) := h.append (.cons g .nil)
theorem TdAll.take : ∀ {ds : List PyData} {vs : List V} (n : Nat), TdAll K H vs ds → TdAll K H (vs.take n) (ds.take n)
  | _, _, 0, _ => .nil
  | [], _, n + 1, h => by cases h; exact .nil
  | d :: ds, _, n + 1, h => by
    cases h with
    | cons a b => exact .cons a (TdAll.take n b)
theorem TdAll.drop : ∀ {ds : List PyData} {vs : List V} (n : Nat), TdAll K H vs ds → TdAll K H (vs.drop n) (ds.drop n)
  | _, _, 0, h => h
  | [], _, n + 1, h => by cases h; exact .nil
  | d :: ds, _, n + 1, h => by
    cases h with
    | cons a b => exact TdAll.drop n b
theorem Td.tup_inv {v : V} {ds : List PyData} (h : Td K H v (.tuple ds)) : ∃ a xs, v = .ref a ∧ SqT K H a xs ∧ TdAll K H xs ds := by
  cases h with
  | tup hs ha => exact ⟨_, _, rfl, hs, ha⟩
theorem atI_td {ds : List PyData} {vs : List V} {i : Int} {d : PyData} (h : TdAll K H vs ds) (e : atI ds i = some d) : ∃ v, atI vs i = some v ∧ Td K H v d := by
  unfold atI at e ⊢
  rw [h.length]
  cases hi : ixN ds.length i with
  | none => rw [hi] at e; cases e
  | some j =>
    rw [hi] at e
    exact h.get e
end

/-! ### what is worth which data -/
def EvD (K : PySem.W.Frag) (te : TE) (σ : L2.St) (H : Hp) (d : PyData) : Prop := ∀ H1, Ex H H1 → ∀ Q : VK, (∀ v H2, Ex H1 H2 → Td K H2 v d → Q v H2) → te σ H1 Q
def EvDA (K : PySem.W.Frag) (ta : TA) (σ : L2.St) (H : Hp) (ds : List PyData) : Prop := ∀ H1, Ex H H1 → ∀ Q : List V → Hp → Prop, (∀ vs H2, Ex H1 H2 → TdAll K H2 vs ds → Q vs H2) → ta σ H1 Q
/-- a test's answer (K is only carried) -/
def EvTK (_ : PySem.W.Frag) (t : TT) (σ : L2.St) (H : Hp) (b : Bool) : Prop := EvT t σ H b
/-- a new list of data -/
def EvDL (K : PySem.W.Frag) (te : TE) (σ : L2.St) (H : Hp) (ds : List PyData) : Prop := ∀ H1, Ex H H1 → ∀ Q : VK, (∀ p xs H2, H1 p = none → Ex H1 H2 → H2 p = some (.lst xs) → TdAll K H2 xs ds → Q (.ref p) H2) → te σ H1 Q
/-- a list of data, to be read -/
def EvDR (K : PySem.W.Frag) (te : TE) (σ : L2.St) (H : Hp) (ds : List PyData) : Prop := ∀ H1, Ex H H1 → ∀ Q : VK, (∀ p xs H2, Ex H1 H2 → SqL K H2 p xs → TdAll K H2 xs ds → Q (.ref p) H2) → te σ H1 Q
section
variable {K : PySem.W.Frag} {σ : L2.St} {H H' : Hp} {ta tb te tx : TE} {t u : TT} {x y z v : V} {r : R2} {d e f : PyData} {ds es : List PyData} {i j k : Int}
theorem EvD.mono (a : Ex H H') (h : EvD K te σ H d) : EvD K te σ H' d := fun H1 b Q q => h H1 (a.trans b) Q q
theorem EvDA.mono {ta : TA} (a : Ex H H') (h : EvDA K ta σ H ds) : EvDA K ta σ H' ds := fun H1 b Q q => h H1 (a.trans b) Q q
theorem EvDL.mono (a : Ex H H') (h : EvDL K te σ H ds) : EvDL K te σ H' ds := fun H1 b Q q => h H1 (a.trans b) Q q
theorem EvDR.mono (a : Ex H H') (h : EvDR K te σ H ds) : EvDR K te σ H' ds := fun H1 b Q q => h H1 (a.trans b) Q q
theorem EvDL.rd (h : EvDL K te σ H ds) : EvDR K te σ H ds := fun H1 a Q q => h H1 a Q fun p xs H2 _ e2 hp ht => q p xs H2 e2 (SqL.of hp) ht
theorem edl_is (h : EvDL K te σ H ds) (q : ds = es) : EvDL K te σ H es := q ▸ h
theorem EvD.iv (h : EvD K te σ H (.int i)) : Ev te σ H (.int i) := fun H1 a Q q => h H1 a Q fun v H2 e2 td => by cases td; exact q H2 e2
theorem EvD.sv {s : Str} (h : EvD K te σ H (.str s)) : Ev te σ H (.str s) := fun H1 a Q q => h H1 a Q fun v H2 e2 td => by cases td; exact q H2 e2
theorem EvD.bv {b : Bool} (h : EvD K te σ H (.bool b)) : Ev te σ H (.bl b) := fun H1 a Q q => h H1 a Q fun v H2 e2 td => by cases td; exact q H2 e2
theorem EvD.nv (h : EvD K te σ H .none) : Ev te σ H .non := fun H1 a Q q => h H1 a Q fun v H2 e2 td => by cases td; exact q H2 e2
theorem ev_d (h : Ev te σ H v) (t : ∀ H, Td K H v d) : EvD K te σ H d := fun H1 a Q q => h H1 a Q fun H2 e2 => q v H2 e2 (t H2)
theorem ed_i (h : Ev te σ H (.int i)) : EvD K te σ H (.int i) := ev_d h fun _ => .int _
theorem ed_b {b : Bool} (h : Ev te σ H (.bl b)) : EvD K te σ H (.bool b) := ev_d h fun _ => .bl _
theorem ed_s {s : Str} (h : Ev te σ H (.str s)) : EvD K te σ H (.str s) := ev_d h fun _ => .str _
theorem ed_is (h : EvD K te σ H d) (q : d = e) : EvD K te σ H e := q ▸ h
theorem ed_var {n : Nat} (h : σ[n]? = some (some v)) (td : Td K H v d) : EvD K (tVar n) σ H d := fun H1 a _ q => ⟨v, h, q v H1 (Ex.refl H1) (td.ex a)⟩
theorem ed_ci : EvD K (tC (.int i)) σ H (.int i) := fun H1 _ _ q => q _ H1 (Ex.refl H1) (.int _)
theorem ed_cs {s : Str} : EvD K (tC (.str s)) σ H (.str s) := fun H1 _ _ q => q _ H1 (Ex.refl H1) (.str _)
theorem ed_cb {b : Bool} : EvD K (tC (.bl b)) σ H (.bool b) := fun H1 _ _ q => q _ H1 (Ex.refl H1) (.bl _)
theorem ed_cn : EvD K (tC .non) σ H .none := fun H1 _ _ q => q _ H1 (Ex.refl H1) .non
theorem ed_ct {a : Addr} (td : Td K H (.ref a) d) : EvD K (tC (.ref a)) σ H d := fun H1 e1 _ q => q _ H1 (Ex.refl H1) (td.ex e1)
theorem ed_cg {a : Addr} (td : ∀ H, Td K H (.ref a) d) : EvD K (tC (.ref a)) σ H d := fun H1 e1 _ q => q _ H1 (Ex.refl H1) (td H1)
theorem edr_var {n : Nat} {a : Addr} {xs : List V} (h : σ[n]? = some (some (.ref a))) (hl : SqL K H a xs) (td : TdAll K H xs ds) : EvDR K (tVar n) σ H ds := fun H1 e1 _ q => ⟨.ref a, h, q a xs H1 (Ex.refl H1) (ex_l e1 hl) (td.ex e1)⟩
theorem ed_ixT (ha : EvD K ta σ H (.tuple ds)) (hb : EvD K tb σ H (.int i)) (hd : atI ds i = some d) : EvD K (tOp (rIxT K) ta tb) σ H d := fun H1 a Q q =>
  ha H1 a _ fun v H2 e2 t2 => by
    obtain ⟨p, xs, rfl, hs, hall⟩ := t2.tup_inv
    refine hb.iv H2 (a.trans e2) _ fun H3 e3 => ?_
    obtain ⟨w, hw, tw⟩ := atI_td (hall.ex e3) hd
    exact ⟨p, xs, i, w, rfl, rfl, ex_t e3 hs, hw, q w H3 (e2.trans e3) tw⟩
theorem ed_ixL (ha : EvDR K ta σ H ds) (hb : EvD K tb σ H (.int i)) (hd : atI ds i = some d) : EvD K (tOp (rIxL K) ta tb) σ H d := fun H1 a Q q =>
  ha H1 a _ fun p xs H2 e2 hs hall => by
    refine hb.iv H2 (a.trans e2) _ fun H3 e3 => ?_
    obtain ⟨w, hw, tw⟩ := atI_td (hall.ex e3) hd
    exact ⟨p, xs, i, w, rfl, rfl, ex_l e3 hs, hw, q w H3 (e2.trans e3) tw⟩
theorem ed_I0i {g : Int → Int → Int} (ha : EvD K ta σ H (.int i)) (hb : EvD K tb σ H (.int j)) : EvD K (tOp (rI0 fun i j => .int (g i j)) ta tb) σ H (.int (g i j)) := ed_i (ev_op ha.iv hb.iv rv_I0)
theorem ed_I0b {g : Int → Int → Bool} (ha : EvD K ta σ H (.int i)) (hb : EvD K tb σ H (.int j)) : EvD K (tOp (rI0 fun i j => .bl (g i j)) ta tb) σ H (.bool (g i j)) := ed_b (ev_op ha.iv hb.iv rv_I0)
theorem ed_Ii {C : Int → Int → Prop} {g : Int → Int → Int} (ha : EvD K ta σ H (.int i)) (hb : EvD K tb σ H (.int j)) (hc : C i j) : EvD K (tOp (rI C fun i j => .int (g i j)) ta tb) σ H (.int (g i j)) := ed_i (ev_op ha.iv hb.iv (rv_I hc))
theorem ed_eqi (ha : EvD K ta σ H (.int i)) (hb : EvD K tb σ H (.int j)) : EvD K (tOp rEq ta tb) σ H (.bool (decide (i = j))) := ed_is (ed_b (ev_op ha.iv hb.iv (rv_eq rfl))) (by simp)
theorem ed_nei (ha : EvD K ta σ H (.int i)) (hb : EvD K tb σ H (.int j)) : EvD K (tOp rNe ta tb) σ H (.bool (!decide (i = j))) := ed_is (ed_b (ev_op ha.iv hb.iv (rv_ne rfl))) (by simp)
theorem ed_tup {ta : TA} (h : EvDA K ta σ H ds) (hl : ds.length ≤ 100000) : EvD K (tTup ta) σ H (.tuple ds) := fun H1 a _ q =>
  h H1 a _ fun vs H2 e2 t2 => ⟨by rw [t2.length]; exact sz_of hl, fun p hp => q _ _ (e2.trans (Ex.new hp)) (.tup (SqT.of upd_same) (t2.ex (Ex.new hp)))⟩
theorem edl_lst {ta : TA} (h : EvDA K ta σ H ds) (hl : ds.length ≤ 100000) : EvDL K (tLst ta) σ H ds := fun H1 a _ q =>
  h H1 a _ fun vs H2 e2 t2 => ⟨by rw [t2.length]; exact sz_of hl, fun p hp => q _ _ _ (fresh_back e2 hp) (e2.trans (Ex.new hp)) upd_same (t2.ex (Ex.new hp))⟩
theorem eda_nil : EvDA K tNil σ H [] := fun H1 _ _ q => q [] H1 (Ex.refl H1) .nil
theorem eda_cons {tr : TA} (h : EvD K ta σ H d) (hr : EvDA K tr σ H ds) : EvDA K (tCons ta tr) σ H (d :: ds) := fun H1 a _ q =>
  h H1 a _ fun v H2 e2 t2 => hr H2 (a.trans e2) _ fun vs H3 e3 t3 => q _ H3 (e2.trans e3) (.cons (t2.ex e3) t3)
theorem ed_len (h : EvD K ta σ H (.tuple ds)) : EvD K (tCB (rLenS K) (tCons ta tNil)) σ H (.int (ds.length : Int)) := fun H1 a Q q =>
  h H1 a _ fun v H2 e2 t2 => by
    obtain ⟨p, xs, rfl, hs, hall⟩ := t2.tup_inv
    refine ⟨p, xs, rfl, Or.inr hs, ?_⟩
    rw [hall.length]
    exact q _ H2 e2 (.int _)
theorem ed_lenL (h : EvDR K ta σ H ds) : EvD K (tCB (rLenS K) (tCons ta tNil)) σ H (.int (ds.length : Int)) := fun H1 a Q q =>
  h H1 a _ fun p xs H2 e2 hs ht => by
    refine ⟨p, xs, rfl, Or.inl hs, ?_⟩
    rw [ht.length]
    exact q _ H2 e2 (.int _)
theorem ed_andV {a b : Bool} (h1 : EvD K ta σ H (.bool a)) (h2 : a = true → EvD K tb σ H (.bool b)) : EvD K (tAndV ta tb) σ H (.bool (a && b)) := ed_b (ev_andV h1.bv fun q => (h2 q).bv)
theorem ed_orV {a b : Bool} (h1 : EvD K ta σ H (.bool a)) (h2 : a = false → EvD K tb σ H (.bool b)) : EvD K (tOrV ta tb) σ H (.bool (a || b)) := ed_b (ev_orV h1.bv fun q => (h2 q).bv)
theorem ed_andF (h1 : EvD K ta σ H (.bool false)) : EvD K (tAndV ta tb) σ H (.bool false) := fun H1 a Q q => h1.bv H1 a _ fun H2 e2 => ⟨false, rfl, (show Q (.bl false) H2 from q _ H2 e2 (.bl _))⟩
theorem ed_orT (h1 : EvD K ta σ H (.bool true)) : EvD K (tOrV ta tb) σ H (.bool true) := fun H1 a Q q => h1.bv H1 a _ fun H2 e2 => ⟨true, rfl, (show Q (.bl true) H2 from q _ H2 e2 (.bl _))⟩
theorem tk_andF (h1 : EvTK K t σ H false) : EvTK K (tAnd t u) σ H false := et_and (b := false) h1 fun q => nomatch q
theorem tk_orT (h1 : EvTK K t σ H true) : EvTK K (tOr t u) σ H true := et_or (b := true) h1 fun q => nomatch q
theorem tk_and {a b : Bool} (h1 : EvTK K t σ H a) (h2 : a = true → EvTK K u σ H b) : EvTK K (tAnd t u) σ H (a && b) := et_and h1 h2
theorem tk_or {a b : Bool} (h1 : EvTK K t σ H a) (h2 : a = false → EvTK K u σ H b) : EvTK K (tOr t u) σ H (a || b) := et_or h1 h2
theorem tk_not {a : Bool} (h1 : EvTK K t σ H a) : EvTK K (tNot t) σ H (!a) := et_not h1
theorem tk_notT (h1 : EvTK K t σ H true) : EvTK K (tNot t) σ H false := et_not h1
theorem tk_notF (h1 : EvTK K t σ H false) : EvTK K (tNot t) σ H true := et_not h1
theorem tk_yes : EvTK K tYes σ H true := fun H1 _ _ q => q H1 (Ex.refl H1)
theorem tk_is {a b : Bool} (h : EvTK K t σ H a) (e : a = b) : EvTK K t σ H b := e ▸ h
theorem ed_ifT (h : EvTK K t σ H true) (h1 : EvD K ta σ H d) : EvD K (tIf t ta tb) σ H d := fun H1 a Q q => h H1 a _ fun H2 e2 => h1 H2 (a.trans e2) Q fun v H3 e3 => q v H3 (e2.trans e3)
theorem ed_ifF (h : EvTK K t σ H false) (h1 : EvD K tb σ H d) : EvD K (tIf t ta tb) σ H d := fun H1 a Q q => h H1 a _ fun H2 e2 => h1 H2 (a.trans e2) Q fun v H3 e3 => q v H3 (e2.trans e3)
theorem ed_notV {a : Bool} (h1 : EvD K ta σ H (.bool a)) : EvD K (tNotV ta) σ H (.bool (!a)) := ed_b (ev_notV h1.bv)
theorem ed_notT (h1 : EvD K ta σ H (.bool true)) : EvD K (tNotV ta) σ H (.bool false) := ed_notV h1
theorem ed_notF (h1 : EvD K ta σ H (.bool false)) : EvD K (tNotV ta) σ H (.bool true) := ed_notV h1
theorem ed_if {b : Bool} (h : EvTK K t σ H b) (h1 : b = true → EvD K ta σ H d) (h2 : b = false → EvD K tb σ H d) : EvD K (tIf t ta tb) σ H d := fun H1 a Q q => h H1 a _ fun H2 e2 => by
  cases b with
  | true =>
    show ta σ H2 Q
    exact h1 rfl H2 (a.trans e2) Q fun v H3 e3 => q v H3 (e2.trans e3)
  | false =>
    show tb σ H2 Q
    exact h2 rfl H2 (a.trans e2) Q fun v H3 e3 => q v H3 (e2.trans e3)
theorem tk_v {b : Bool} (h : EvD K te σ H (.bool b)) : EvTK K (tTest te) σ H b := et_test h.bv
theorem tk_vB {b : Bool} (h : EvD K te σ H (.bool b)) : EvTK K (tB te) σ H b := et_B h.bv
/-- a < b < c -/
theorem ed_chain {g g' : Int → Int → Bool} (ha : EvD K ta σ H (.int i)) (hb : EvD K tb σ H (.int j)) (hc : g i j = true → EvD K tx σ H (.int k)) :
    EvD K (tChain (rI0 fun i j => .bl (g i j)) (rI0 fun i j => .bl (g' i j)) ta tb tx) σ H (.bool (g i j && g' j k)) := fun H1 a Q q =>
  ha.iv H1 a _ fun H2 e2 => hb.iv H2 (a.trans e2) _ fun H3 e3 => ⟨i, j, rfl, rfl, g i j, rfl, by
    cases hg : g i j with
    | true =>
      rw [if_pos rfl]
      rw [hg] at q
      exact (hc hg).iv H3 ((a.trans e2).trans e3) _ fun H4 e4 => ⟨j, k, rfl, rfl, q _ H4 ((e2.trans e3).trans e4) (.bl _)⟩
    | false =>
      rw [if_neg Bool.false_ne_true]
      rw [hg] at q
      exact q _ H3 (e2.trans e3) (.bl _)⟩
/-- is None -/
def noneD : PyData → Bool
  | .none => true
  | _ => false
theorem ed_isN (ha : EvD K ta σ H d) : EvD K (tIsN ta) σ H (.bool (noneD d)) := fun H1 a Q q => ha H1 a _ fun v H2 e2 t2 => by
  have e : decide (v = .non) = noneD d := by cases t2 <;> simp [noneD]
  rw [e]
  exact q _ H2 e2 (.bl _)
theorem ed_notN (ha : EvD K ta σ H d) : EvD K (tNotN ta) σ H (.bool (!noneD d)) := fun H1 a Q q => ha H1 a _ fun v H2 e2 t2 => by
  have e : decide (v = .non) = noneD d := by cases t2 <;> simp [noneD]
  rw [e]
  exact q _ H2 e2 (.bl _)
/-! flat data within a sequence -/
def flatD : PyData → Bool
  | .none | .bool _ | .int _ | .str _ => true
  | _ => false
theorem flat_td (h : Td K H v d) (f : flatD d = true) : flatV v = true := by cases h <;> first | rfl | cases f
theorem eqV_td {v w : V} (h : Td K H v d) (g : Td K H w e) (f : flatD d = true) (f2 : flatD e = true) : eqV v w = PyData.eqv d e := by
  cases h <;> cases g <;> first | rfl | cases f | cases f2 | simp [eqV, PyData.eqv]
theorem flatAll_td : ∀ {es : List PyData} {vs : List V}, TdAll K H vs es → es.all flatD = true → vs.all flatV = true
  | [], _, h, _ => by cases h; rfl
  | e :: es, _, h, f => by
    cases h with
    | cons a b =>
      simp only [List.all_cons, Bool.and_eq_true] at f ⊢
      exact ⟨flat_td a f.1, flatAll_td b f.2⟩
theorem inV_td : ∀ {es : List PyData} {vs : List V} {v : V}, TdAll K H vs es → Td K H v d → flatD d = true → es.all flatD = true → inV v vs = es.any fun z => PyData.eqv z d
  | [], _, _, h, _, _, _ => by cases h; rfl
  | e :: es, _, _, h, t, f, f2 => by
    cases h with
    | cons a b =>
      simp only [List.all_cons, Bool.and_eq_true] at f2
      have ih := inV_td b t f f2.2
      unfold inV at ih ⊢
      rw [List.any_cons, List.any_cons, ih, eqV_td a t f2.1 f]
theorem ed_inT (ha : EvD K ta σ H d) (hb : EvD K tb σ H (.tuple es)) (fd : flatD d = true) (fe : es.all flatD = true) : EvD K (tOp (rIn K false) ta tb) σ H (.bool (es.any fun z => PyData.eqv z d)) := fun H1 a Q q =>
  ha H1 a _ fun v H2 e2 t2 => hb H2 (a.trans e2) _ fun w H3 e3 t3 => by
    obtain ⟨p, xs, rfl, hs, hall⟩ := t3.tup_inv
    refine ⟨p, xs, rfl, .inr hs, flat_td t2 fd, flatAll_td hall fe, ?_⟩
    show Q (.bl (inV v xs)) H3
    rw [inV_td hall (t2.ex e3) fd fe]
    exact q _ H3 (e2.trans e3) (.bl _)
theorem ed_niT (ha : EvD K ta σ H d) (hb : EvD K tb σ H (.tuple es)) (fd : flatD d = true) (fe : es.all flatD = true) : EvD K (tOp (rIn K true) ta tb) σ H (.bool (!es.any fun z => PyData.eqv z d)) := fun H1 a Q q =>
  ha H1 a _ fun v H2 e2 t2 => hb H2 (a.trans e2) _ fun w H3 e3 t3 => by
    obtain ⟨p, xs, rfl, hs, hall⟩ := t3.tup_inv
    refine ⟨p, xs, rfl, .inr hs, flat_td t2 fd, flatAll_td hall fe, ?_⟩
    show Q (.bl (!inV v xs)) H3
    rw [inV_td hall (t2.ex e3) fd fe]
    exact q _ H3 (e2.trans e3) (.bl _)
/-! isinstance -/
def tyD : PyData → String
  | .none => "NoneType"
  | .bool _ => "bool"
  | .int _ => "int"
  | .str _ => "str"
  | .list _ => "list"
  | .tuple _ => "tuple"
  | .dict _ => "dict"
theorem tyx_td (h : Td K H v d) : TyX K H v (.type (tyD d)) := by
  cases h with
  | non => exact .base .non
  | bl b => exact .base (.bl b)
  | int i => exact .base (.int i)
  | str x => exact .base (.str x)
  | tup hs _ =>
    rcases hs with (hs | ⟨o, hs⟩) | ⟨o, its, n, hk, hc, _⟩
    · exact .base (.tup hs)
    · exact .fTuple hs
    · exact .kTuple hk hc
theorem ed_isi {b : Bool} {n : String} (ha : EvD K ta σ H d) (hk : kitB (tyD d) n = some b) : EvD K (tCB (rIsi K) (tCons ta (tCons (tC (.ty n)) tNil))) σ H (.bool b) := fun H1 a Q q =>
  ha H1 a _ fun v H2 e2 t2 => ⟨v, .ty n, _, _, b, rfl, .ty n, tyx_td t2, kit_ty hk, q _ H2 e2 (.bl _)⟩
/-! == of data of any depth, where one of both is not deep -/
def rEqM (K : PySem.W.Frag) : R2 := fun x y H Q => ∃ d e, Dp K H x d ∧ Dp K H y e ∧ d.canLay0 = true ∧ e.canLay0 = true ∧ min d.depth e.depth ≤ 64 ∧ Q (.bl (PyData.eqv d e)) H
def rNeM (K : PySem.W.Frag) : R2 := fun x y H Q => ∃ d e, Dp K H x d ∧ Dp K H y e ∧ d.canLay0 = true ∧ e.canLay0 = true ∧ min d.depth e.depth ≤ 64 ∧ Q (.bl (!PyData.eqv d e)) H
theorem op_eqM {X : Cx} (hu : X.A.units + 64 < cLine) : OpR X (compareOp .Eq) (rEqM X.K) := by
  intro pins s σ H x y v u Q I rx ry h
  obtain ⟨d, e, hd, he, sd, se, hm, q⟩ := h
  obtain ⟨as, r1⟩ := Dp.reads I d x v hd rx
  obtain ⟨bs, r2⟩ := Dp.reads I e y u he ry
  exact SeqAt.compareEq_reads r1 r2 sd se (by omega) ⟨.bl _, H, I, rfl, q⟩
theorem op_neM {X : Cx} (hu : X.A.units + 64 < cLine) : OpR X (compareOp .NotEq) (rNeM X.K) := by
  intro pins s σ H x y v u Q I rx ry h
  obtain ⟨d, e, hd, he, sd, se, hm, q⟩ := h
  obtain ⟨as, r1⟩ := Dp.reads I d x v hd rx
  obtain ⟨bs, r2⟩ := Dp.reads I e y u he ry
  exact SeqAt.compareNe_reads r1 r2 sd se (by omega) ⟨.bl _, H, I, rfl, q⟩
theorem ed_eqM (ha : EvD K ta σ H d) (hb : EvD K tb σ H e) (sd : d.canLay0 = true) (se : e.canLay0 = true) (hm : min d.depth e.depth ≤ 64) : EvD K (tOp (rEqM K) ta tb) σ H (.bool (PyData.eqv d e)) := fun H1 a Q q =>
  ha H1 a _ fun v H2 e2 t2 => hb H2 (a.trans e2) _ fun w H3 e3 t3 => ⟨d, e, (t2.ex e3).dp, t3.dp, sd, se, hm, q _ H3 (e2.trans e3) (.bl _)⟩
theorem ed_neM (ha : EvD K ta σ H d) (hb : EvD K tb σ H e) (sd : d.canLay0 = true) (se : e.canLay0 = true) (hm : min d.depth e.depth ≤ 64) : EvD K (tOp (rNeM K) ta tb) σ H (.bool (!PyData.eqv d e)) := fun H1 a Q q =>
  ha H1 a _ fun v H2 e2 t2 => hb H2 (a.trans e2) _ fun w H3 e3 t3 => ⟨d, e, (t2.ex e3).dp, t3.dp, sd, se, hm, q _ H3 (e2.trans e3) (.bl _)⟩
/-- a text on the right -/
theorem ed_eqS {s : Str} (ha : EvD K ta σ H d) (hb : EvD K tb σ H (.str s)) (sd : d.canLay0 = true) (ss : (PyData.str s).canLay0 = true) : EvD K (tOp (rEqM K) ta tb) σ H (.bool (PyData.eqv d (.str s))) := ed_eqM ha hb sd ss (by simp [PyData.depth])
theorem ed_neS {s : Str} (ha : EvD K ta σ H d) (hb : EvD K tb σ H (.str s)) (sd : d.canLay0 = true) (ss : (PyData.str s).canLay0 = true) : EvD K (tOp (rNeM K) ta tb) σ H (.bool (!PyData.eqv d (.str s))) := ed_neM ha hb sd ss (by simp [PyData.depth])
/-- a list of data and the empty list -/
theorem ed_eqN (ha : EvDR K ta σ H ds) (hb : EvDL K tb σ H []) (sd : PyData.canLayAll0 ds = true) : EvD K (tOp (rEqM K) ta tb) σ H (.bool ds.isEmpty) := fun H1 a Q q =>
  ha H1 a _ fun p xs H2 e2 hs ht => hb H2 (a.trans e2) _ fun w ys H3 _ e3 hw hy => by
    refine ⟨.list ds, .list [], .lst (ex_l e3 hs) (ht.ex e3).dp, .lst (SqL.of hw) hy.dp, (show PyData.canLay0 (.list ds) = true by simpa [PyData.canLay0] using sd), rfl, by simp [PyData.depth, PyData.depthAll], ?_⟩
    have e : PyData.eqv (.list ds) (.list []) = ds.isEmpty := by cases ds <;> simp [PyData.eqv, PyData.eqvAll]
    rw [e]
    exact q _ H3 (e2.trans e3) (.bl _)
theorem ed_neN (ha : EvDR K ta σ H ds) (hb : EvDL K tb σ H []) (sd : PyData.canLayAll0 ds = true) : EvD K (tOp (rNeM K) ta tb) σ H (.bool (!ds.isEmpty)) := fun H1 a Q q =>
  ha H1 a _ fun p xs H2 e2 hs ht => hb H2 (a.trans e2) _ fun w ys H3 _ e3 hw hy => by
    refine ⟨.list ds, .list [], .lst (ex_l e3 hs) (ht.ex e3).dp, .lst (SqL.of hw) hy.dp, (show PyData.canLay0 (.list ds) = true by simpa [PyData.canLay0] using sd), rfl, by simp [PyData.depth, PyData.depthAll], ?_⟩
    have e : PyData.eqv (.list ds) (.list []) = ds.isEmpty := by cases ds <;> simp [PyData.eqv, PyData.eqvAll]
    rw [e]
    exact q _ H3 (e2.trans e3) (.bl _)
/-! slices, + -/
def cutD (ds : List PyData) (lo hi : Option Int) : List PyData := (ds.drop (HT.sIx ds.length 0 lo)).take (HT.sIx ds.length ds.length hi - HT.sIx ds.length 0 lo)
theorem TdAll.cut {vs : List V} (h : TdAll K H vs ds) (lo hi : Option Int) : TdAll K H (cutV vs lo hi) (cutD ds lo hi) := by
  unfold cutV cutD
  rw [h.length]
  exact (h.drop _).take _
def EvOK (_ : PySem.W.Frag) (to : TO) (σ : L2.St) (H : Hp) (o : Option Int) : Prop := EvO to σ H o
theorem eok_some (h : EvD K te σ H (.int i)) : EvOK K (tPart te) σ H (some i) := eo_some h.iv
theorem eok_none : EvOK K tNoPart σ H none := eo_none
theorem ed_sl {tl th : TO} {lo hi : Option Int} (h : EvD K te σ H (.tuple ds)) (h1 : EvOK K tl σ H lo) (h2 : EvOK K th σ H hi) : EvD K (tSl (rSlA K) te tl th) σ H (.tuple (cutD ds lo hi)) := fun H1 a Q q =>
  h H1 a _ fun v H2 e2 t2 => by
    obtain ⟨p, xs, rfl, hs, hall⟩ := t2.tup_inv
    refine h1 H2 (a.trans e2) _ fun H3 e3 => h2 H3 ((a.trans e2).trans e3) _ fun H4 e4 => ?_
    have hs4 := ex_t (e3.trans e4) hs
    have ha4 := hall.ex (e3.trans e4)
    refine ⟨p, xs, rfl, hs4, fun hw => ?_, fun _ n hn => ?_⟩
    · refine q _ H4 ((e2.trans e3).trans e4) ?_
      have hl := hall.length
      have e : cutD ds lo hi = ds := by
        unfold cutD
        rw [← hl, hw.1, hw.2, List.drop_zero, hl]
        simp
      rw [e]
      exact .tup hs4 ha4
    · exact q _ _ (((e2.trans e3).trans e4).trans (Ex.new hn)) (.tup (SqT.of upd_same) ((ha4.cut lo hi).ex (Ex.new hn)))
theorem ed_cat (ha : EvD K ta σ H (.tuple ds)) (hb : EvD K tb σ H (.tuple es)) (hl : ds.length + es.length ≤ 100000) : EvD K (tOp (rCatA K) ta tb) σ H (.tuple (ds ++ es)) := fun H1 a Q q =>
  ha H1 a _ fun v H2 e2 t2 => hb H2 (a.trans e2) _ fun w H3 e3 t3 => by
    obtain ⟨p, xs, rfl, hs, hall⟩ := t2.tup_inv
    obtain ⟨p2, ys, rfl, hs2, hall2⟩ := t3.tup_inv
    have l1 := hall.length
    have l2 := hall2.length
    refine ⟨p, p2, xs, ys, rfl, rfl, ex_t e3 hs, hs2, sz_of (by omega), fun hx => ?_, fun _ hy => ?_, fun _ _ n hn => ?_⟩
    · subst hx
      cases hall
      exact q _ H3 (e2.trans e3) (.tup hs2 hall2)
    · subst hy
      cases hall2
      rw [List.append_nil] at q
      exact q _ H3 (e2.trans e3) (.tup (ex_t e3 hs) (hall.ex e3))
    · exact q _ _ ((e2.trans e3).trans (Ex.new hn)) (.tup (SqT.of upd_same) (((hall.ex e3).append hall2).ex (Ex.new hn)))
/-- tuple(a list of data) -/
def rTupS (K : PySem.W.Frag) : List V → Hp → VK → Prop := fun xs H Q => ∃ p ys, xs = [.ref p] ∧ ((SqL K H p ys ∧ ∀ l, H l = none → Q (.ref l) (upd H l (.tup ys))) ∨ (SqT K H p ys ∧ Q (.ref p) H))
theorem ed_tupL (h : EvDR K ta σ H ds) : EvD K (tCB (rTupS K) (tCons ta tNil)) σ H (.tuple ds) := fun H1 a Q q =>
  h H1 a _ fun p xs H2 e2 hs ht => ⟨p, xs, rfl, .inl ⟨hs, fun l hl => q _ _ (e2.trans (Ex.new hl)) (.tup (SqT.of upd_same) (ht.ex (Ex.new hl)))⟩⟩
theorem edl_lstT (h : EvD K ta σ H (.tuple ds)) : EvDL K (tCB (rListS K) (tCons ta tNil)) σ H ds := fun H1 a Q q =>
  h H1 a _ fun v H2 e2 t2 => by
    obtain ⟨p, xs, rfl, hs, hall⟩ := t2.tup_inv
    exact ⟨p, xs, rfl, .inr hs, fun l hl => q l xs _ (fresh_back e2 hl) (e2.trans (Ex.new hl)) upd_same (hall.ex (Ex.new hl))⟩
/-- sum of a list of ints -/
theorem td_ints : ∀ {ns : List Int} {xs : List V}, TdAll K H xs (ns.map PyData.int) → xs = ns.map V.int
  | [], _, h => by cases h; rfl
  | n :: ns, _, h => by
    cases h with
    | cons a b => cases a; rw [td_ints b]; rfl
theorem ed_sum {ns : List Int} (h : EvDR K ta σ H (ns.map PyData.int)) : EvD K (tCB (rSum K) (tCons ta tNil)) σ H (.int ns.sum) := fun H1 a Q q =>
  h H1 a _ fun p xs H2 e2 hs ht => ⟨p, ns, rfl, by rw [← td_ints ht]; exact hs, q _ H2 e2 (.int _)⟩
/-! constants of the top -/
theorem pe_gint {X : Cx} {x : Str} {i : Int} {pos : Pos} (hg : Gl X x) (hm : ∃ t, X.mg x = some (.int i t)) (hd : (x == ("__debug__" : Str)) = false := by decide) : PE X (.Name x pos) (tC (.int i)) := by
  obtain ⟨t, ht⟩ := hm
  exact pe_glob hg ht ⟨_, rfl⟩ hd
theorem pe_gstr {X : Cx} {x z : Str} {pos : Pos} (hg : Gl X x) (hm : ∃ t, X.mg x = some (.str z t)) (hd : (x == ("__debug__" : Str)) = false := by decide) : PE X (.Name x pos) (tC (.str z)) := by
  obtain ⟨t, ht⟩ := hm
  exact pe_glob hg ht ⟨_, rfl⟩ hd
/-! calls -/
def spF (K : PySem.W.Frag) (P : List PyData → PyData → Prop) : Sp := fun vs H Q _ => ∃ ds d, TdAll K H vs ds ∧ P ds d ∧ ∀ v H', Ex H H' → Td K H' v d → Q v H'
theorem ed_call {P : List PyData → PyData → Prop} {E : XK} {ta : TA} (h : EvDA K ta σ H ds) (hp : P ds d) : EvD K (tCall (spF K P) [] E ta) σ H d := fun H1 a Q q =>
  h H1 a _ fun vs H2 e2 t2 => by
    rw [List.append_nil]
    exact ⟨ds, d, t2, hp, fun v H3 e3 t3 => q v H3 (e2.trans e3) t3⟩
theorem spF_len {P : List PyData → PyData → Prop} {n : Nat} (h : ∀ ds d, P ds d → ds.length = n) (vs : List V) (H : Hp) (Q : VK) (E : XK) (q : spF K P vs H Q E) : vs.length = n := by
  obtain ⟨ds, d, ht, hp, _⟩ := q
  rw [ht.length, h ds d hp]
/-- a promise that asks what can't be -/
theorem fn_vac {P : Program} {w : World} {mg : Str → Option Value} {base : Heap} {CX : CXT} {k : Nat} {f : Addr} {fd : FuncData} {ps : List Str} {sp : Sp} (no : ∀ vs H Q E, ¬ sp vs H Q E) : FnOk P w K mg base CX k f fd ps sp :=
  ⟨fun vs H Q E h => absurd h (no vs H Q E), fun A outer s H args us vs Q E _ _ _ _ h => absurd h (no vs H Q E)⟩
end
end Hw

set_option maxRecDepth 100000
set_option maxHeartbeats 4000000
/-! W2: comprehensions and loops over data -/
namespace Hw
open PySem PySem.Spec PyProof.Rows L2 Evl
section
variable {K : PySem.W.Frag} {σ : L2.St} {H H' : Hp} {ta tb te tx : TE} {t u : TT} {x y z v : V} {d e f : PyData} {ds es : List PyData} {i j k : Int}
/-- what a comprehension has made so far -/
def Cd (K : PySem.W.Frag) (H : Hp) (Dl : Addr) (es : List PyData) (H' : Hp) : Prop := H Dl = none ∧ Ex H H' ∧ ∃ acc, H' Dl = some (.lst acc) ∧ TdAll K H' acc es
theorem cd_step {Dl : Addr} {b : Bool} {e : PyData} {H' : Hp} {σ2 : L2.St} (p : Cd K H Dl es H') (hl : es.length < 50000) (ht : EvTK K t σ2 H b) (he : b = true → EvD K te σ2 H e) :
    t σ2 H' fun c H3 => if c = true then te σ2 H3 fun y H4 => ∃ acc, H4 Dl = some (.lst acc) ∧ acc.length < sizeLine ∧ Cd K H Dl (if b then es ++ [e] else es) (upd H4 Dl (.lst (acc ++ [y]))) else Cd K H Dl (if b then es ++ [e] else es) H3 := by
  obtain ⟨p1, p2, acc, p3, p4⟩ := p
  refine ht H' p2 _ fun H3 e3 => ?_
  cases b with
  | true =>
    rw [if_pos rfl]
    refine he rfl H3 (p2.trans e3) _ fun v H4 e4 t4 => ⟨acc, e4 Dl _ (e3 Dl _ p3), by rw [p4.length]; exact sz_lt (by omega), p1, Ex.mut ((p2.trans e3).trans e4) p1, acc ++ [v], upd_same, ?_⟩
    have k : Keep K H4 (upd H4 Dl (.lst (acc ++ [v]))) := Keep.upd (e4 Dl _ (e3 Dl _ p3)) True.intro
    exact ((p4.ex (e3.trans e4)).kp k).snoc (t4.kp k)
  | false =>
    rw [if_neg Bool.false_ne_true]
    exact ⟨p1, p2.trans e3, acc, e3 Dl _ p3, p4.ex e3⟩
theorem filt_snoc {α : Type} {xs : List α} {p : α → Bool} {g : α → PyData} {n : Nat} {d : α} (h : xs[n]? = some d) : ((xs.take (n + 1)).filter p).map g = if p d then ((xs.take n).filter p).map g ++ [g d] else ((xs.take n).filter p).map g := by
  rw [List.take_add_one, h]
  simp only [Option.toList_some, List.filter_append, List.map_append, List.filter_cons, List.filter_nil]
  split <;> simp
theorem filt_len {α : Type} {xs : List α} {p : α → Bool} {g : α → PyData} (n : Nat) : (((xs.take n).filter p).map g).length ≤ xs.length := by
  rw [List.length_map]
  refine Nat.le_trans (List.length_filter_le _ _) ?_
  rw [List.length_take]
  omega
/-- [e for x in a tuple if t], the items told as xs.map f -/
theorem edl_lcM {α : Type} {tl : TE} {j : Nat} {vs : List Nat} (xs : List α) (f : α → PyData) (p : α → Bool) (g : α → PyData) (h : EvD K tl σ H (.tuple ds)) (hds : ds = xs.map f) (hz : xs.length ≤ 40000) (hw : ∀ x, wipe ((wipe σ vs).set j (some x)) vs = wipe σ vs)
    (ht : ∀ (x : α) (v : V) H1, Ex H H1 → x ∈ xs → Td K H1 v (f x) → EvTK K t ((wipe σ vs).set j (some v)) H1 (p x))
    (he : ∀ (x : α) (v : V) H1, Ex H H1 → x ∈ xs → p x = true → Td K H1 v (f x) → EvD K te ((wipe σ vs).set j (some v)) H1 (g x)) :
    EvDL K (tLc (iTup K tl) (gName j) t te vs) σ H ((xs.filter p).map g) := fun H0 e Q q => h H0 e _ fun w H1 e1 tw => by
  obtain ⟨a, ys, rfl, hx, hall⟩ := tw.tup_inv
  subst hds
  refine ⟨a, rfl, ⟨ys, hx⟩, fun Dl hD => ?_⟩
  refine lc_tup (xs := ys) (fun i H' => Cd K H1 Dl (((xs.take i).filter p).map g) H') ⟨hD, Ex.new hD, [], upd_same, by simpa using TdAll.nil⟩ (fun i H' _ c => ex_t c.2.1 hx) (fun i x H' hi c => ⟨hw x, ?_⟩) (fun H' c => ?_)
  · obtain ⟨d, hd, td⟩ := hall.getV hi
    rw [List.getElem?_map] at hd
    obtain ⟨z, hz2, rfl⟩ := Option.map_eq_some_iff.mp hd
    have hm : z ∈ xs := List.mem_of_getElem? hz2
    have := cd_step (te := te) (e := g z) c (by have := filt_len (xs := xs) (p := p) (g := g) i; omega) (ht z x H1 (e.trans e1) hm td) (fun hb => he z x H1 (e.trans e1) hm hb td)
    rw [filt_snoc hz2]
    exact this
  · obtain ⟨c1, c2, acc, c3, c4⟩ := c
    rw [hall.length, List.length_map, List.take_length] at c4
    exact q Dl acc H' (fresh_back e1 c1) (e1.trans c2) c3 c4
theorem edl_lcML {α : Type} {tl : TE} {j : Nat} {vs : List Nat} (xs : List α) (f : α → PyData) (p : α → Bool) (g : α → PyData) (h : EvDR K tl σ H ds) (hds : ds = xs.map f) (hz : xs.length ≤ 40000) (hw : ∀ x, wipe ((wipe σ vs).set j (some x)) vs = wipe σ vs)
    (ht : ∀ (x : α) (v : V) H1, Ex H H1 → x ∈ xs → Td K H1 v (f x) → EvTK K t ((wipe σ vs).set j (some v)) H1 (p x))
    (he : ∀ (x : α) (v : V) H1, Ex H H1 → x ∈ xs → p x = true → Td K H1 v (f x) → EvD K te ((wipe σ vs).set j (some v)) H1 (g x)) :
    EvDL K (tLc (iList K tl) (gName j) t te vs) σ H ((xs.filter p).map g) := fun H0 e Q q => h H0 e _ fun a ys H1 e1 hx hall => by
  subst hds
  refine ⟨a, rfl, ⟨ys, hx⟩, fun Dl hD => ?_⟩
  refine lc_list (xs := ys) (fun i H' => Cd K H1 Dl (((xs.take i).filter p).map g) H') ⟨hD, Ex.new hD, [], upd_same, by simpa using TdAll.nil⟩ (fun i H' _ c => ex_l c.2.1 hx) (fun i x H' hi c => ⟨hw x, ?_⟩) (fun H' c => ?_)
  · obtain ⟨d, hd, td⟩ := hall.getV hi
    rw [List.getElem?_map] at hd
    obtain ⟨z, hz2, rfl⟩ := Option.map_eq_some_iff.mp hd
    have hm : z ∈ xs := List.mem_of_getElem? hz2
    have := cd_step (te := te) (e := g z) c (by have := filt_len (xs := xs) (p := p) (g := g) i; omega) (ht z x H1 (e.trans e1) hm td) (fun hb => he z x H1 (e.trans e1) hm hb td)
    rw [filt_snoc hz2]
    exact this
  · obtain ⟨c1, c2, acc, c3, c4⟩ := c
    rw [hall.length, List.length_map, List.take_length] at c4
    exact q Dl acc H' (fresh_back e1 c1) (e1.trans c2) c3 c4
def rngD (n : Nat) : List PyData := (List.range n).map fun i => PyData.int ((i : Nat) : Int)
theorem rngD_length (n : Nat) : (rngD n).length = n := by simp [rngD]
theorem rngD_get {n i : Nat} (h : i < n) : (rngD n)[i]? = some (.int (i : Int)) := by
  unfold rngD
  rw [List.getElem?_map, List.getElem?_range h]
  rfl
theorem edl_lcR {ta : TA} {j : Nat} {vs : List Nat} {n : Nat} (p : Nat → Bool) (g : Nat → PyData) (h : EvDA K ta σ H [.int (n : Int)]) (hz : n ≤ 40000) (hw : ∀ x, wipe ((wipe σ vs).set j (some x)) vs = wipe σ vs)
    (ht : ∀ (i : Nat) H1, Ex H H1 → i < n → EvTK K t ((wipe σ vs).set j (some (.int (i : Int)))) H1 (p i))
    (he : ∀ (i : Nat) H1, Ex H H1 → i < n → p i = true → EvD K te ((wipe σ vs).set j (some (.int (i : Int)))) H1 (g i)) :
    EvDL K (tLc (iRng1 ta) (gName j) t te vs) σ H (((List.range n).filter p).map g) := fun H0 e Q q => h H0 e _ fun ws H1 e1 tw => by
  cases tw with
  | cons tw1 tw2 =>
    cases tw1
    cases tw2
    refine ⟨(n : Int), rfl, by omega, by omega, fun Dl hD => ?_⟩
    have en : ((n : Int)).toNat = n := by simp
    rw [en]
    refine lc_range (lo := 0) (n := n) (fun i H' => Cd K H1 Dl (((List.range i).filter p).map g) H') ⟨hD, Ex.new hD, [], upd_same, by simpa using TdAll.nil⟩ (fun i H' hi c => ?_) (fun H' c => ?_)
    · have e0 : (0 : Int) + (i : Int) = (i : Int) := Int.zero_add _
      show wipe ((wipe σ vs).set j (some (.int ((0 : Int) + (i : Int))))) vs = wipe σ vs ∧ _
      rw [e0]
      refine ⟨hw _, ?_⟩
      have hlen : (((List.range i).filter p).map g).length < 50000 := by
        rw [List.length_map]
        have := List.length_filter_le p (List.range i)
        rw [List.length_range] at this
        omega
      have := cd_step (te := te) (e := g i) c hlen (ht i H1 (e.trans e1) hi) (fun hb => he i H1 (e.trans e1) hi hb)
      have es : ((List.range (i + 1)).filter p).map g = if p i then ((List.range i).filter p).map g ++ [g i] else ((List.range i).filter p).map g := by
        rw [List.range_succ, List.filter_append, List.map_append, List.filter_cons]
        split <;> simp
      rw [es]
      exact this
    · obtain ⟨c1, c2, acc, c3, c4⟩ := c
      exact q Dl acc H' (fresh_back e1 c1) (e1.trans c2) c3 c4

/-! ### statements -/
variable {D : Ends} {tu tw tz : TS} {g : TG}
theorem sd_asg {i : Nat} (h : EvD K te σ H d) (k : ∀ v H1, Ex H H1 → Td K H1 v d → D.nx (σ.set i (some v)) H1) : tAsg te (gName i) D σ H := h H (Ex.refl H) _ fun v H1 e t => k v H1 e t
theorem qd_asg {i : Nat} (h : EvD K te σ H d) (k : ∀ v H1, Ex H H1 → Td K H1 v d → tz D (σ.set i (some v)) H1) : tSeq (tAsg te (gName i)) tz D σ H := sd_asg (D := { D with nx := tz D }) h k
theorem sd_asgL {i : Nat} (h : EvDL K te σ H ds) (k : ∀ p xs H1, H p = none → Ex H H1 → H1 p = some (.lst xs) → TdAll K H1 xs ds → D.nx (σ.set i (some (.ref p))) H1) : tAsg te (gName i) D σ H := h H (Ex.refl H) _ fun p xs H1 hp e h1 t => k p xs H1 hp e h1 t
theorem qd_asgL {i : Nat} (h : EvDL K te σ H ds) (k : ∀ p xs H1, H p = none → Ex H H1 → H1 p = some (.lst xs) → TdAll K H1 xs ds → tz D (σ.set i (some (.ref p))) H1) : tSeq (tAsg te (gName i)) tz D σ H := sd_asgL (D := { D with nx := tz D }) h k
theorem sd_ret (h : EvD K te σ H d) (k : ∀ v H1, Ex H H1 → Td K H1 v d → D.rt v H1) : tRet te D σ H := h H (Ex.refl H) _ k
theorem sd_retL (h : EvDL K te σ H ds) (k : ∀ p xs H1, H p = none → Ex H H1 → H1 p = some (.lst xs) → TdAll K H1 xs ds → D.rt (.ref p) H1) : tRet te D σ H := h H (Ex.refl H) _ k
theorem sd_drop (h : EvD K te σ H d) (k : ∀ H1, Ex H H1 → D.nx σ H1) : tDrop te D σ H := h H (Ex.refl H) _ fun _ H1 e _ => k H1 e
/-! from any heap that extends H -/
def Pst (_ : PySem.W.Frag) (t : TS) (D : Ends) (σ : L2.St) (H : Hp) : Prop := ∀ H1, Ex H H1 → t D σ H1
theorem Pst.go {t : TS} (h : Pst K t D σ H) : t D σ H := h H (Ex.refl H)
theorem pst_asg {i : Nat} (h : EvD K te σ H d) (k : ∀ v H1, Ex H H1 → Td K H1 v d → Pst K tz D (σ.set i (some v)) H1) : Pst K (tSeq (tAsg te (gName i)) tz) D σ H := fun H1 a => h H1 a _ fun v H2 e t => k v H2 (a.trans e) t H2 (Ex.refl H2)
theorem pst_asg1 {i : Nat} (h : EvD K te σ H d) (k : ∀ v H1, Ex H H1 → Td K H1 v d → D.nx (σ.set i (some v)) H1) : Pst K (tAsg te (gName i)) D σ H := fun H1 a => h H1 a _ fun v H2 e t => k v H2 (a.trans e) t
theorem pst_asgL {i : Nat} (h : EvDL K te σ H ds) (k : ∀ p xs H1, H p = none → Ex H H1 → H1 p = some (.lst xs) → TdAll K H1 xs ds → Pst K tz D (σ.set i (some (.ref p))) H1) : Pst K (tSeq (tAsg te (gName i)) tz) D σ H :=
  fun H1 a => h H1 a _ fun p xs H2 hp e h2 t => k p xs H2 (fresh_back a hp) (a.trans e) h2 t H2 (Ex.refl H2)
theorem pst_ret (h : EvD K te σ H d) (k : ∀ v H1, Ex H H1 → Td K H1 v d → D.rt v H1) : Pst K (tRet te) D σ H := fun H1 a => h H1 a _ fun v H2 e t => k v H2 (a.trans e) t
theorem pst_retL (h : EvDL K te σ H ds) (k : ∀ p xs H1, H p = none → Ex H H1 → H1 p = some (.lst xs) → TdAll K H1 xs ds → D.rt (.ref p) H1) : Pst K (tRet te) D σ H := fun H1 a => h H1 a _ fun p xs H2 hp e h2 t => k p xs H2 (fresh_back a hp) (a.trans e) h2 t
theorem pst_if {b : Bool} (h : EvTK K t σ H b) (h1 : b = true → Pst K tu D σ H) (h2 : b = false → Pst K tw D σ H) : Pst K (tIfS t tu tw) D σ H := fun H1 a => h H1 a _ fun H2 e => by
  cases b with
  | true => exact h1 rfl H2 (a.trans e)
  | false => exact h2 rfl H2 (a.trans e)
theorem pst_when {b : Bool} (h : EvTK K t σ H b) (h1 : b = true → Pst K tu { D with nx := tz D } σ H) (h2 : b = false → Pst K tz D σ H) : Pst K (tSeq (tIfS t tu tNext) tz) D σ H := fun H1 a => h H1 a _ fun H2 e => by
  cases b with
  | true => exact h1 rfl H2 (a.trans e)
  | false => exact h2 rfl H2 (a.trans e)
theorem pst_whenF {b : Bool} (h : EvTK K t σ H b) (hb : b = false) (h2 : Pst K tz D σ H) : Pst K (tSeq (tIfS t tu tNext) tz) D σ H := pst_when h (fun q => by rw [hb] at q; cases q) fun _ => h2
theorem pst_whenT {b : Bool} (h : EvTK K t σ H b) (hb : b = true) (h1 : Pst K tu { D with nx := tz D } σ H) : Pst K (tSeq (tIfS t tu tNext) tz) D σ H := pst_when h (fun _ => h1) fun q => by rw [hb] at q; cases q
theorem pst_drop (h : EvD K te σ H d) (k : Pst K tz D σ H) : Pst K (tSeq (tDrop te) tz) D σ H := fun H1 a => h H1 a _ fun v H2 e _ => k H2 (a.trans e)
/-- a, b, c = e -/
theorem pst_unp3 {i j l : Nat} {d1 d2 d3 : PyData} (h : EvD K te σ H (.tuple [d1, d2, d3]))
    (k : ∀ v1 v2 v3 H1, Ex H H1 → Td K H1 v1 d1 → Td K H1 v2 d2 → Td K H1 v3 d3 → Pst K tz D (((σ.set i (some v1)).set j (some v2)).set l (some v3)) H1) :
    Pst K (tSeq (tAsg te (gTup K 3 (gCons (gName i) (gCons (gName j) (gCons (gName l) gNil))))) tz) D σ H := fun H1 a => h H1 a _ fun v H2 e t => by
  obtain ⟨p, xs, rfl, hs, hall⟩ := t.tup_inv
  obtain _ | ⟨u1, _ | ⟨u2, _ | ⟨u3, _ | _⟩⟩⟩ := hall
  exact ⟨p, _, rfl, hs, rfl, _, _, rfl, _, _, rfl, _, _, rfl, rfl, k _ _ _ H2 (a.trans e) u1 u2 u3 H2 (Ex.refl H2)⟩
/-! a written dict with text keys -/
def EvPs (trs : List (TE × TE)) (σ : L2.St) (H : Hp) (ps : List (V × V)) : Prop := ∀ H1, Ex H H1 → ∀ Q : List (V × V) → Hp → Prop, (∀ H2, Ex H1 H2 → Q ps H2) → tPairs trs σ H1 Q
theorem eps_nil : EvPs [] σ H [] := fun H1 _ _ q => q H1 (Ex.refl H1)
theorem eps_cons {tk tv : TE} {r : List (TE × TE)} {ps : List (V × V)} {x y : V} (h1 : Ev tk σ H x) (h2 : Ev tv σ H y) (h3 : EvPs r σ H ps) : EvPs ((tk, tv) :: r) σ H ((x, y) :: ps) := fun H1 a Q q =>
  h1 H1 a _ fun H2 e2 => h2 H2 (a.trans e2) _ fun H3 e3 => h3 H3 ((a.trans e2).trans e3) _ fun H4 e4 => q H4 ((e2.trans e3).trans e4)
theorem pst_disp {i : Nat} {trs : List (TE × TE)} (kvs : List (Key × V)) (h : EvPs trs σ H (kvs.map fun kv => (kV kv.1, kv.2))) (hl : kvs.length ≤ 15)
    (k : ∀ p H1, H p = none → Ex H H1 → H1 p = some (.dK (mergeK [] kvs)) → Pst K tz D (σ.set i (some (.ref p))) H1) : Pst K (tSeq (tAsg (tDisp trs) (gName i)) tz) D σ H := fun H1 a p hp => by
  refine h _ (a.trans (Ex.new hp)) _ fun H2 e2 => ⟨e2 p _ upd_same, kvs, rfl, hl, ?_⟩
  have hp0 := fresh_back a hp
  exact k p _ hp0 (Ex.mut ((a.trans (Ex.new hp)).trans e2) hp0) upd_same _ (Ex.refl _)
theorem ev_dget {n : Nat} {p : Addr} {kvs : List (Key × V)} {s : Str} {v : V} (hs : σ[n]? = some (some (.ref p))) (hp : H p = some (.dK kvs)) (hk : Ev te σ H (.str s)) (hv : valV kvs (Sum.inr s) = some v) : Ev (tDGet (tVar n) te) σ H v := fun H1 a Q q =>
  ⟨.ref p, hs, hk H1 a _ fun H2 e2 => ⟨p, v, rfl, by
    have := DGet.k (k := Sum.inr s) ((a.trans e2) p _ hp)
    rw [hv] at this
    exact this, q H2 e2⟩⟩
/-- for x in a tuple -/
theorem sd_forT {tl : TE} {j : Nat} (h : EvD K tl σ H (.tuple ds)) (Pv : Nat → L2.St → Hp → Prop) (h0 : ∀ H1, Ex H H1 → Pv 0 σ H1) (hl : ∀ i σ' H', i ≤ ds.length → Pv i σ' H' → ∀ H1, Ex H H1 → Pv 0 σ H1 → Keep K H1 H')
    (hs : ∀ i d v σ' H', ds[i]? = some d → Td K H' v d → Pv i σ' H' → tu { D with nx := Pv (i + 1), ct := Pv (i + 1), bk := D.nx } (σ'.set j (some v)) H') (hd : ∀ σ' H', Pv ds.length σ' H' → D.nx σ' H') : tFor (iTup K tl) (gName j) tu D σ H :=
  h H (Ex.refl H) _ fun v H1 e tv => by
    obtain ⟨a, xs, rfl, hx, hall⟩ := tv.tup_inv
    have hlen := hall.length
    refine ⟨a, rfl, ⟨xs, hx⟩, for_tup Pv (h0 H1 e) (fun i σ' H' hi p => hl i σ' H' (by omega) p H1 e (h0 H1 e) a xs hx) (fun i x σ' H' hi p => ?_) (fun σ' H' p => hd σ' H' (by rw [← hlen]; exact p))⟩
    obtain ⟨d, hdd, td⟩ := hall.getV hi
    have hi' : i < xs.length := (List.getElem?_eq_some_iff.mp hi).1
    exact hs i d x σ' H' hdd (td.kp (hl i σ' H' (by omega) p H1 e (h0 H1 e))) p
end
end Hw

set_option maxRecDepth 100000
set_option maxHeartbeats 4000000
/-! W3: the rules with the written part told (within a comprehension's block it is the same) -/
namespace Hw
open PySem PySem.Spec PyProof.Rows L2 Evl
def rInt1 : List V → Hp → VK → Prop := fun xs H Q => (∃ i, xs = [.int i] ∧ Q (.int i) H) ∨ ∃ k, xs = [.bl k] ∧ Q (.int (if k then 1 else 0)) H
theorem kc_int {X : Cx} : CallR X (.type "int") rInt1 := call_int1
theorem units65 {k : Nat} {A : Around} (r : Room k A) : A.units + 65 < cLine := by have := r.un; omega
section
variable {X : Cx} (K : PySem.W.Frag)
theorem kix_list (h : X.K = K := by rfl) : IxR X (rIxL K) := by subst h; exact ix_list
theorem kix_tup (h : X.K = K := by rfl) : IxR X (rIxT K) := by subst h; exact ix_tup
theorem ksl_list (h : X.K = K := by rfl) : SlR X (rSlL K) := by subst h; exact sl_list
theorem ksl_tup (h : X.K = K := by rfl) : SlR X (rSlA K) := by subst h; exact sl_tupA
theorem kop_cat (h : X.K = K := by rfl) : OpR X (binaryOp .Add) (rCatA K) := by subst h; exact op_catA
theorem kop_in (h : X.K = K := by rfl) : OpR X (compareOp .In) (rIn K false) := by subst h; exact op_in_seq
theorem kop_ni (h : X.K = K := by rfl) : OpR X (compareOp .NotIn) (rIn K true) := by subst h; exact op_notIn_seq
theorem kop_inD (hu : X.A.units + 65 < cLine) (h : X.K = K := by rfl) : OpR X (compareOp .In) (rInD K) := by subst h; exact op_inD hu
theorem kop_niD (hu : X.A.units + 65 < cLine) (h : X.K = K := by rfl) : OpR X (compareOp .NotIn) (rNotInD K) := by subst h; exact op_notInD hu
theorem kop_eq (hu : X.A.units + 64 < cLine) (h : X.K = K := by rfl) : OpR X (compareOp .Eq) (rEqM K) := by subst h; exact op_eqM hu
theorem kop_ne (hu : X.A.units + 64 < cLine) (h : X.K = K := by rfl) : OpR X (compareOp .NotEq) (rNeM K) := by subst h; exact op_neM hu
theorem kc_isi (h : X.K = K := by rfl) : CallR X (.builtin "isinstance") (rIsi K) := by subst h; exact call_isi
theorem kc_isiT (h : X.K = K := by rfl) : CallR X (.builtin "isinstance") (rIsiT K) := by subst h; exact call_isiT
theorem kc_len (h : X.K = K := by rfl) : CallR X (.builtin "len") (rLenS K) := by subst h; exact call_len_seq
theorem kc_list (h : X.K = K := by rfl) : CallR X (.type "list") (rListS K) := by subst h; exact call_list_of
theorem kc_tuple (h : X.K = K := by rfl) : CallR X (.type "tuple") (rTupS K) := by subst h; exact call_tuple_of
theorem kc_sum (h : X.K = K := by rfl) (hc : X.calm = true := by rfl) : CallR X (.builtin "sum") (rSum K) := by subst h; exact cr_sum hc
theorem kpi_list {l tg : Expr} {tl : TE} (hl : PE X l tl) (h : X.K = K := by rfl) : PI X tg l (iList K tl) := by subst h; exact pi_list hl
theorem kpi_tup {l tg : Expr} {tl : TE} (hl : PE X l tl) (h : X.K = K := by rfl) : PI X tg l (iTup K tl) := by subst h; exact pi_tup hl
theorem kpe_fld {e : Expr} {f : Str} {pos : Pos} {ta : TE} (he : PE X e ta) (hb : attributeBase e f X.env (eval e X.env) = eval e X.env := by rfl) (h : X.K = K := by rfl) : PE X (.Attribute e f pos) (tFld K ta f) := by subst h; exact pe_fld he hb
theorem kpg_tup {es : List Expr} {k : Nat} {t : TGs} {n : Nat} {pos : Pos} (hc : X.calm = true) (ht : PGs X es t) (hn : (assignEach es X.env).length = n := by rfl) (hst : (assignEach es X.env).findIdx? (·.1) = none := by rfl) (h : X.K = K := by rfl) : PG X (.Tuple es k pos) (gTup K n t) := by subst h; exact pg_tup hc ht hn hst
theorem kpi_zip {e e2 : Expr} {ta : TA} {p pos tpos : Pos} {elts : List Expr} {kk : Nat} (hg : Gl X "zip") (hm : X.mg "zip" = none) (ha : PA X [e, e2] ta)
    (hs : starEach [e, e2] X.env = (false, eval e X.env) :: starEach [e2] X.env := by rfl) (hpl : (backTo pos (starEach [e2] X.env)).any (·.1) = false := by rfl) (h : X.K = K := by rfl) :
    PI X (.Tuple elts kk tpos) (.Call (.Name "zip" p) [e, e2] [] pos) (RZ.iZipA K ta) := by subst h; exact RZ.pi_zipA hg hm ha hs hpl
end
section
variable {K : PySem.W.Frag} {σ : L2.St} {H H' : Hp} {D : Ends} {tu : TS} {ds es : List PyData}
/-- for a, b in zip(t, u), two tuples of one length; the heap is only added to -/
theorem pst_forZ {α β : Type} {ta : TA} {j l : Nat} (xs : List α) (ys : List β) (f : α → PyData) (g : β → PyData) (h : EvDA K ta σ H [.tuple (xs.map f), .tuple (ys.map g)]) (hl : xs.length = ys.length)
    (Pv : Nat → L2.St → Hp → Prop) (hst : ∀ i σ' H1 H2, Ex H1 H2 → Pv i σ' H1 → Pv i σ' H2) (h0 : Pv 0 σ H)
    (hs : ∀ i x y v u σ' H1, xs[i]? = some x → ys[i]? = some y → Ex H H1 → Td K H1 v (f x) → Td K H1 u (g y) → Pv i σ' H1 →
      ∀ N : L2.St → Hp → Prop, (∀ σ2 H2, Pv (i + 1) σ2 H2 → Ex H1 H2 → N σ2 H2) → Pst K tu { D with nx := N, ct := N, bk := D.nx } ((σ'.set j (some v)).set l (some u)) H1)
    (hd : ∀ σ' H1, Ex H H1 → Pv xs.length σ' H1 → D.nx σ' H1) : Pst K (tFor (RZ.iZipA K ta) (gTup K 2 (gCons (gName j) (gCons (gName l) gNil))) tu) D σ H := fun H1 a => h H1 a _ fun ws H2 e tw => by
  obtain _ | ⟨w1, _ | ⟨w2, _ | _⟩⟩ := tw
  obtain ⟨pa, xa, rfl, ha, alla⟩ := w1.tup_inv
  obtain ⟨pb, xb, rfl, hb, allb⟩ := w2.tup_inv
  have la := alla.length
  have lb := allb.length
  rw [List.length_map] at la lb
  have a2 := a.trans e
  refine ⟨pa, pb, xa, xb, rfl, .inr ⟨ha, hb, RZ.for_zipT (xs := xa) (ys := xb) (by omega) (fun i σ' H' => Pv i σ' H' ∧ Ex H H' ∧ Ex H2 H') ⟨hst _ _ _ _ a2 h0, a2, Ex.refl _⟩ (fun i σ' H' p => ⟨ex_t p.2.2 ha, ex_t p.2.2 hb⟩) (fun i x y T σ' H' hx hy p hT => ?_) (fun σ' H' p => hd σ' H' p.2.1 (by rw [← la]; exact p.1))⟩⟩
  obtain ⟨p1, p2, p3⟩ := p
  obtain ⟨d1, hd1, td1⟩ := alla.getV hx
  obtain ⟨d2, hd2, td2⟩ := allb.getV hy
  rw [List.getElem?_map] at hd1 hd2
  obtain ⟨z1, hz1, rfl⟩ := Option.map_eq_some_iff.mp hd1
  obtain ⟨z2, hz2, rfl⟩ := Option.map_eq_some_iff.mp hd2
  have e4 : Ex H' (upd H' T (.tup [x, y])) := Ex.new hT
  refine ⟨T, [x, y], rfl, SqT.of upd_same, rfl, x, [y], rfl, y, [], rfl, rfl, ?_⟩
  exact (hs i z1 z2 x y σ' (upd H' T (.tup [x, y])) hz1 hz2 (p2.trans e4) (td1.ex (p3.trans e4)) (td2.ex (p3.trans e4)) (hst _ _ _ _ e4 p1) _ fun σ2 H3 q1 q2 => ⟨q1, (p2.trans e4).trans q2, (p3.trans e4).trans q2⟩).go
variable {ta tb te tx : TE} {tz tw : TS} {r s : Addr} {xs : List V} {i j c : Int} {d : PyData} {n : Nat} {v : V}
/-- an int of a list that is known by its values -/
theorem ed_rowI (hs : σ[n]? = some (some (.ref r))) (hr : SqL K H r xs) (hb : EvD K tb σ H (.int i)) (ha : atI xs i = some (.int c)) : EvD K (tOp (rIxL K) (tVar n) tb) σ H (.int c) := ed_i (ev_op (ev_var hs) hb.iv (rv_ixL hr ha))
theorem ev_rowR (hs : σ[n]? = some (some (.ref r))) (hr : SqL K H r xs) (hb : EvD K tb σ H (.int i)) (ha : atI xs i = some v) : Ev (tOp (rIxL K) (tVar n) tb) σ H v := ev_op (ev_var hs) hb.iv (rv_ixL hr ha)
theorem ed_lenV (ha : Ev ta σ H (.ref r)) (hr : SqL K H r xs) : EvD K (tCB (rLenS K) (tCons ta tNil)) σ H (.int (xs.length : Int)) := ed_i (ev_len ha hr)
/-- l[i] = e, e an int -/
theorem pst_setI {l : Addr} {k : Nat} (hs : σ[n]? = some (some (.ref l))) (hl : H l = some (.lst xs)) (h : EvD K te σ H (.int c)) (hi : EvD K tb σ H (.int i)) (hk : ixN xs.length i = some k)
    (kk : ∀ H1, Ex H H1 → Pst K tz D σ (upd H1 l (.lst (xs.set k (.int c))))) : Pst K (tSeq (tAsg te (gSub (tVar n) tb rSetL)) tz) D σ H := fun H1 a =>
  h.iv H1 a _ fun H2 e2 => ⟨.ref l, hs, hi.iv H2 (a.trans e2) _ fun H3 e3 => ⟨l, xs, i, k, rfl, rfl, ((a.trans e2).trans e3) l _ hl, hk, kk H3 ((a.trans e2).trans e3) _ (Ex.refl _)⟩⟩
theorem pst_setI1 {l : Addr} {k : Nat} (hs : σ[n]? = some (some (.ref l))) (hl : H l = some (.lst xs)) (h : EvD K te σ H (.int c)) (hi : EvD K tb σ H (.int i)) (hk : ixN xs.length i = some k)
    (kk : ∀ H1, Ex H H1 → D.nx σ (upd H1 l (.lst (xs.set k (.int c))))) : Pst K (tAsg te (gSub (tVar n) tb rSetL)) D σ H := fun H1 a =>
  h.iv H1 a _ fun H2 e2 => ⟨.ref l, hs, hi.iv H2 (a.trans e2) _ fun H3 e3 => ⟨l, xs, i, k, rfl, rfl, ((a.trans e2).trans e3) l _ hl, hk, kk H3 ((a.trans e2).trans e3)⟩⟩
theorem ed_intb {b : Bool} (h : EvD K te σ H (.bool b)) : EvD K (tCB rInt1 (tCons te tNil)) σ H (.int (if b then 1 else 0)) := fun H1 a Q q => h.bv H1 a _ fun H2 e2 => .inr ⟨b, rfl, q _ H2 e2 (.int _)⟩
/-! what stands beside some addresses is kept -/
def Fr (S : List Addr) (H H' : Hp) : Prop := ∀ p o, p ∉ S → H p = some o → H' p = some o
theorem Fr.refl {S : List Addr} : Fr S H H := fun _ _ _ h => h
theorem Fr.trans {S : List Addr} {H1 H2 : Hp} (a : Fr S H H1) (b : Fr S H1 H2) : Fr S H H2 := fun p o h e => b p o h (a p o h e)
theorem Fr.of {S : List Addr} (e : Ex H H') : Fr S H H' := fun p o _ h => e p o h
theorem Fr.sub {S S' : List Addr} (f : Fr S H H') (h : ∀ a ∈ S, a ∈ S') : Fr S' H H' := fun p o hp e => f p o (fun q => hp (h p q)) e
theorem Fr.upd {S : List Addr} {a : Addr} {o : HO} (h : a ∈ S) : Fr S H (upd H a o) := fun p u hp e => by rw [upd_ne (fun q => hp (by rw [q]; exact h))]; exact e
theorem Fr.keep {S : List Addr} (f : Fr S H H') (m : ∀ a ∈ S, ∃ u, H a = some u ∧ Mut (some u)) : Keep K H H' := fun b xs q => by
  have ne : ∀ u, H b = some u → ¬ Mut (some u) → b ∉ S := fun u hu nm hb => by
    obtain ⟨u2, h2, m2⟩ := m b hb
    rw [hu] at h2
    cases h2
    exact nm m2
  rcases q with (q | ⟨oo, q⟩) | q
  · exact .inl (.inl (f b _ (ne _ q fun z => z) q))
  · exact .inl (.inr ⟨oo, f b _ (ne _ q fun z => z) q⟩)
  · exact .inr q
end
end Hw

set_option maxRecDepth 100000
set_option maxHeartbeats 4000000
/-! S1: programs as Lean data, how they stand as values, which of them are let by -/
namespace Hw
open PySem PySem.Spec PyProof.Rows L2 Evl

inductive Th where
  | num (n : Nat) | sum (a b : Th) | cell (t : Th) | own (k : Nat) | par (k : Nat)
  deriving DecidableEq
inductive Stm where
  | set (p t : Th) | say (t : Th) | ite (t : Th) (a b : List Stm) | call (w : Nat) (ts : List Th)
structure Wk where
  params : Nat
  owns : Nat
  body : List Stm
def encT : Th → PyData
  | .num n => .tuple [.str "num", .int (n : Int)]
  | .sum a b => .tuple [.str "sum", encT a, encT b]
  | .cell t => .tuple [.str "cell", encT t]
  | .own k => .tuple [.str "own", .int (k : Int)]
  | .par k => .tuple [.str "par", .int (k : Int)]
mutual
def encS : Stm → PyData
  | .set p t => .tuple [.str "set", encT p, encT t]
  | .say t => .tuple [.str "say", encT t]
  | .ite t a b => .tuple [.str "if", encT t, .tuple (encB a), .tuple (encB b)]
  | .call w ts => .tuple [.str "call", .int (w : Int), .tuple (ts.map encT)]
def encB : List Stm → List PyData
  | [] => []
  | s :: r => encS s :: encB r
end
def encW (w : Wk) : PyData := .tuple [.int (w.params : Int), .int (w.owns : Int), .tuple (encB w.body)]
def encP (p : List Wk) : PyData := .tuple (p.map encW)
theorem encB_map : ∀ b : List Stm, encB b = b.map encS
  | [] => by simp [encB]
  | s :: r => by simp [encB, encB_map r]
theorem encB_length (b : List Stm) : (encB b).length = b.length := by rw [encB_map, List.length_map]
/-! ### words -/
@[simp] theorem eqv_str_self (x : Str) : PyData.eqv (.str x) (.str x) = true := by simp [PyData.eqv]
@[simp] theorem w_back_copy : PyData.eqv (.str "back") (.str "copy") = false := by decide +kernel
@[simp] theorem w_back_place : PyData.eqv (.str "back") (.str "place") = false := by decide +kernel
@[simp] theorem w_back_want : PyData.eqv (.str "back") (.str "want") = false := by decide +kernel
@[simp] theorem w_call_cell : PyData.eqv (.str "call") (.str "cell") = false := by decide +kernel
@[simp] theorem w_call_if : PyData.eqv (.str "call") (.str "if") = false := by decide +kernel
@[simp] theorem w_call_num : PyData.eqv (.str "call") (.str "num") = false := by decide +kernel
@[simp] theorem w_call_own : PyData.eqv (.str "call") (.str "own") = false := by decide +kernel
@[simp] theorem w_call_par : PyData.eqv (.str "call") (.str "par") = false := by decide +kernel
@[simp] theorem w_call_say : PyData.eqv (.str "call") (.str "say") = false := by decide +kernel
@[simp] theorem w_call_set : PyData.eqv (.str "call") (.str "set") = false := by decide +kernel
@[simp] theorem w_call_sum : PyData.eqv (.str "call") (.str "sum") = false := by decide +kernel
@[simp] theorem w_cell_call : PyData.eqv (.str "cell") (.str "call") = false := by decide +kernel
@[simp] theorem w_cell_if : PyData.eqv (.str "cell") (.str "if") = false := by decide +kernel
@[simp] theorem w_cell_num : PyData.eqv (.str "cell") (.str "num") = false := by decide +kernel
@[simp] theorem w_cell_own : PyData.eqv (.str "cell") (.str "own") = false := by decide +kernel
@[simp] theorem w_cell_par : PyData.eqv (.str "cell") (.str "par") = false := by decide +kernel
@[simp] theorem w_cell_say : PyData.eqv (.str "cell") (.str "say") = false := by decide +kernel
@[simp] theorem w_cell_set : PyData.eqv (.str "cell") (.str "set") = false := by decide +kernel
@[simp] theorem w_cell_sum : PyData.eqv (.str "cell") (.str "sum") = false := by decide +kernel
@[simp] theorem w_copy_back : PyData.eqv (.str "copy") (.str "back") = false := by decide +kernel
@[simp] theorem w_copy_place : PyData.eqv (.str "copy") (.str "place") = false := by decide +kernel
@[simp] theorem w_copy_want : PyData.eqv (.str "copy") (.str "want") = false := by decide +kernel
@[simp] theorem w_if_call : PyData.eqv (.str "if") (.str "call") = false := by decide +kernel
@[simp] theorem w_if_cell : PyData.eqv (.str "if") (.str "cell") = false := by decide +kernel
@[simp] theorem w_if_num : PyData.eqv (.str "if") (.str "num") = false := by decide +kernel
@[simp] theorem w_if_own : PyData.eqv (.str "if") (.str "own") = false := by decide +kernel
@[simp] theorem w_if_par : PyData.eqv (.str "if") (.str "par") = false := by decide +kernel
@[simp] theorem w_if_say : PyData.eqv (.str "if") (.str "say") = false := by decide +kernel
@[simp] theorem w_if_set : PyData.eqv (.str "if") (.str "set") = false := by decide +kernel
@[simp] theorem w_if_sum : PyData.eqv (.str "if") (.str "sum") = false := by decide +kernel
@[simp] theorem w_num_call : PyData.eqv (.str "num") (.str "call") = false := by decide +kernel
@[simp] theorem w_num_cell : PyData.eqv (.str "num") (.str "cell") = false := by decide +kernel
@[simp] theorem w_num_if : PyData.eqv (.str "num") (.str "if") = false := by decide +kernel
@[simp] theorem w_num_own : PyData.eqv (.str "num") (.str "own") = false := by decide +kernel
@[simp] theorem w_num_par : PyData.eqv (.str "num") (.str "par") = false := by decide +kernel
@[simp] theorem w_num_say : PyData.eqv (.str "num") (.str "say") = false := by decide +kernel
@[simp] theorem w_num_set : PyData.eqv (.str "num") (.str "set") = false := by decide +kernel
@[simp] theorem w_num_sum : PyData.eqv (.str "num") (.str "sum") = false := by decide +kernel
@[simp] theorem w_own_call : PyData.eqv (.str "own") (.str "call") = false := by decide +kernel
@[simp] theorem w_own_cell : PyData.eqv (.str "own") (.str "cell") = false := by decide +kernel
@[simp] theorem w_own_if : PyData.eqv (.str "own") (.str "if") = false := by decide +kernel
@[simp] theorem w_own_num : PyData.eqv (.str "own") (.str "num") = false := by decide +kernel
@[simp] theorem w_own_par : PyData.eqv (.str "own") (.str "par") = false := by decide +kernel
@[simp] theorem w_own_say : PyData.eqv (.str "own") (.str "say") = false := by decide +kernel
@[simp] theorem w_own_set : PyData.eqv (.str "own") (.str "set") = false := by decide +kernel
@[simp] theorem w_own_sum : PyData.eqv (.str "own") (.str "sum") = false := by decide +kernel
@[simp] theorem w_par_call : PyData.eqv (.str "par") (.str "call") = false := by decide +kernel
@[simp] theorem w_par_cell : PyData.eqv (.str "par") (.str "cell") = false := by decide +kernel
@[simp] theorem w_par_if : PyData.eqv (.str "par") (.str "if") = false := by decide +kernel
@[simp] theorem w_par_num : PyData.eqv (.str "par") (.str "num") = false := by decide +kernel
@[simp] theorem w_par_own : PyData.eqv (.str "par") (.str "own") = false := by decide +kernel
@[simp] theorem w_par_say : PyData.eqv (.str "par") (.str "say") = false := by decide +kernel
@[simp] theorem w_par_set : PyData.eqv (.str "par") (.str "set") = false := by decide +kernel
@[simp] theorem w_par_sum : PyData.eqv (.str "par") (.str "sum") = false := by decide +kernel
@[simp] theorem w_place_back : PyData.eqv (.str "place") (.str "back") = false := by decide +kernel
@[simp] theorem w_place_copy : PyData.eqv (.str "place") (.str "copy") = false := by decide +kernel
@[simp] theorem w_place_want : PyData.eqv (.str "place") (.str "want") = false := by decide +kernel
@[simp] theorem w_say_call : PyData.eqv (.str "say") (.str "call") = false := by decide +kernel
@[simp] theorem w_say_cell : PyData.eqv (.str "say") (.str "cell") = false := by decide +kernel
@[simp] theorem w_say_if : PyData.eqv (.str "say") (.str "if") = false := by decide +kernel
@[simp] theorem w_say_num : PyData.eqv (.str "say") (.str "num") = false := by decide +kernel
@[simp] theorem w_say_own : PyData.eqv (.str "say") (.str "own") = false := by decide +kernel
@[simp] theorem w_say_par : PyData.eqv (.str "say") (.str "par") = false := by decide +kernel
@[simp] theorem w_say_set : PyData.eqv (.str "say") (.str "set") = false := by decide +kernel
@[simp] theorem w_say_sum : PyData.eqv (.str "say") (.str "sum") = false := by decide +kernel
@[simp] theorem w_set_call : PyData.eqv (.str "set") (.str "call") = false := by decide +kernel
@[simp] theorem w_set_cell : PyData.eqv (.str "set") (.str "cell") = false := by decide +kernel
@[simp] theorem w_set_if : PyData.eqv (.str "set") (.str "if") = false := by decide +kernel
@[simp] theorem w_set_num : PyData.eqv (.str "set") (.str "num") = false := by decide +kernel
@[simp] theorem w_set_own : PyData.eqv (.str "set") (.str "own") = false := by decide +kernel
@[simp] theorem w_set_par : PyData.eqv (.str "set") (.str "par") = false := by decide +kernel
@[simp] theorem w_set_say : PyData.eqv (.str "set") (.str "say") = false := by decide +kernel
@[simp] theorem w_set_sum : PyData.eqv (.str "set") (.str "sum") = false := by decide +kernel
@[simp] theorem w_sum_call : PyData.eqv (.str "sum") (.str "call") = false := by decide +kernel
@[simp] theorem w_sum_cell : PyData.eqv (.str "sum") (.str "cell") = false := by decide +kernel
@[simp] theorem w_sum_if : PyData.eqv (.str "sum") (.str "if") = false := by decide +kernel
@[simp] theorem w_sum_num : PyData.eqv (.str "sum") (.str "num") = false := by decide +kernel
@[simp] theorem w_sum_own : PyData.eqv (.str "sum") (.str "own") = false := by decide +kernel
@[simp] theorem w_sum_par : PyData.eqv (.str "sum") (.str "par") = false := by decide +kernel
@[simp] theorem w_sum_say : PyData.eqv (.str "sum") (.str "say") = false := by decide +kernel
@[simp] theorem w_sum_set : PyData.eqv (.str "sum") (.str "set") = false := by decide +kernel
@[simp] theorem w_want_back : PyData.eqv (.str "want") (.str "back") = false := by decide +kernel
@[simp] theorem w_want_copy : PyData.eqv (.str "want") (.str "copy") = false := by decide +kernel
@[simp] theorem w_want_place : PyData.eqv (.str "want") (.str "place") = false := by decide +kernel
@[simp] theorem lay_num : (PyData.str "num").canLay0 = true := by decide +kernel
@[simp] theorem lay_sum : (PyData.str "sum").canLay0 = true := by decide +kernel
@[simp] theorem lay_cell : (PyData.str "cell").canLay0 = true := by decide +kernel
@[simp] theorem lay_own : (PyData.str "own").canLay0 = true := by decide +kernel
@[simp] theorem lay_par : (PyData.str "par").canLay0 = true := by decide +kernel
@[simp] theorem lay_set : (PyData.str "set").canLay0 = true := by decide +kernel
@[simp] theorem lay_say : (PyData.str "say").canLay0 = true := by decide +kernel
@[simp] theorem lay_if : (PyData.str "if").canLay0 = true := by decide +kernel
@[simp] theorem lay_call : (PyData.str "call").canLay0 = true := by decide +kernel
@[simp] theorem lay_copy : (PyData.str "copy").canLay0 = true := by decide +kernel
@[simp] theorem lay_place : (PyData.str "place").canLay0 = true := by decide +kernel
@[simp] theorem lay_back : (PyData.str "back").canLay0 = true := by decide +kernel
@[simp] theorem lay_want : (PyData.str "want").canLay0 = true := by decide +kernel
/-! ### which things and steps can be -/
def okT (ps os : Nat) : Th → Nat → Bool
  | .num n, w => decide (w ≤ 4) && decide (n < 3)
  | .own k, w => decide (w ≤ 4) && decide (k < os)
  | .par k, w => decide (w ≤ 4) && decide (k < ps)
  | .cell t, w => decide (w ≤ 4) && okT ps os t (w + 1)
  | .sum a b, w => decide (w ≤ 4) && (okT ps os a (w + 1) && okT ps os b (w + 1))
def isPlace : Th → Bool
  | .cell _ | .own _ | .par _ => true
  | _ => false
/-- sh: params and own cells of all works -/
def shP (sh : List (Nat × Nat)) (i : Nat) : Nat := (sh.getD i (0, 0)).1
def shO (sh : List (Nat × Nat)) (i : Nat) : Nat := (sh.getD i (0, 0)).2
mutual
def okS (sh : List (Nat × Nat)) (at_ : Nat) : Stm → Nat → Bool
  | .set p t, w => decide (w ≤ 4) && (okT (shP sh at_) (shO sh at_) p 0 && (isPlace p && okT (shP sh at_) (shO sh at_) t 0))
  | .say t, w => decide (w ≤ 4) && okT (shP sh at_) (shO sh at_) t 0
  | .ite t a b, w => decide (w ≤ 4) && (okT (shP sh at_) (shO sh at_) t 0 && (okB sh at_ a (w + 1) && okB sh at_ b (w + 1)))
  | .call c ts, w => decide (w ≤ 4) && (decide (c < sh.length) && (decide (at_ < c) && (decide (ts.length = shP sh c) && ts.all fun t => okT (shP sh at_) (shO sh at_) t 0)))
def okB (sh : List (Nat × Nat)) (at_ : Nat) : List Stm → Nat → Bool
  | [], _ => true
  | s :: r, w => okS sh at_ s w && okB sh at_ r w
end
mutual
def cntS : Stm → Nat
  | .ite _ a b => 1 + (cntB a + cntB b)
  | _ => 1
def cntB : List Stm → Nat
  | [] => 0
  | s :: r => cntS s + cntB r
end
/-! bodies and calls are no longer than that -/
mutual
def smS : Stm → Bool
  | .call _ ts => decide (ts.length ≤ 1000)
  | .ite _ a b => (decide (a.length ≤ 1000) && decide (b.length ≤ 1000)) && (smB a && smB b)
  | _ => true
def smB : List Stm → Bool
  | [] => true
  | s :: r => smS s && smB r
end
theorem smB_mem : ∀ {b : List Stm} {s : Stm}, smB b = true → s ∈ b → smS s = true
  | x :: r, s, h, hm => by
    simp only [smB, Bool.and_eq_true] at h
    rcases List.mem_cons.mp hm with e | hm
    · rw [e]; exact h.1
    · exact smB_mem h.2 hm
/-! how deep bodies lie within others -/
mutual
def dpS : Stm → Nat
  | .ite _ a b => 1 + max (dpB a) (dpB b)
  | _ => 0
def dpB : List Stm → Nat
  | [] => 0
  | s :: r => max (dpS s) (dpB r)
end
theorem dpB_mem : ∀ {b : List Stm} {s : Stm}, s ∈ b → dpS s ≤ dpB b
  | x :: r, s, hm => by
    simp only [dpB]
    rcases List.mem_cons.mp hm with e | hm
    · rw [e]; exact Nat.le_max_left _ _
    · exact Nat.le_trans (dpB_mem hm) (Nat.le_max_right _ _)
mutual
theorem okS_dp {sh : List (Nat × Nat)} {at_ : Nat} : ∀ (s : Stm) (w : Nat), okS sh at_ s w = true → dpS s + w ≤ 5
  | .set p t, w, h => by simp [okS] at h; simp [dpS]; omega
  | .say t, w, h => by simp [okS] at h; simp [dpS]; omega
  | .call c ts, w, h => by simp [okS] at h; simp [dpS]; omega
  | .ite t a b, w, h => by
    simp [okS] at h
    have h1 := okB_dp a (w + 1) h.2.2.1
    have h2 := okB_dp b (w + 1) h.2.2.2
    simp only [dpS]
    omega
theorem okB_dp {sh : List (Nat × Nat)} {at_ : Nat} : ∀ (b : List Stm) (w : Nat), okB sh at_ b w = true → dpB b = 0 ∨ dpB b + w ≤ 5
  | [], w, _ => .inl (by simp [dpB])
  | s :: r, w, h => by
    simp only [okB, Bool.and_eq_true] at h
    have h1 := okS_dp s w h.1
    have h2 := okB_dp r w h.2
    simp only [dpB]
    omega
end
def bods : Stm → List (List Stm)
  | .ite _ a b => [a, b]
  | _ => []
theorem bods_sm {s : Stm} {b : List Stm} (h : smS s = true) (hb : b ∈ bods s) : b.length ≤ 1000 ∧ smB b = true := by
  cases s with
  | ite t x y =>
    simp only [smS, Bool.and_eq_true, decide_eq_true_eq] at h
    simp only [bods, List.mem_cons, List.not_mem_nil, or_false] at hb
    rcases hb with e | e <;> subst e <;> simp [h]
  | _ => simp [bods] at hb
theorem bods_dp {s : Stm} {b : List Stm} (hb : b ∈ bods s) : dpB b + 1 ≤ dpS s := by
  cases s with
  | ite t x y =>
    simp only [bods, List.mem_cons, List.not_mem_nil, or_false] at hb
    simp only [dpS]
    rcases hb with e | e <;> subst e <;> omega
  | _ => simp [bods] at hb
theorem cntS_bods (s : Stm) : cntS s = 1 + ((bods s).map cntB).sum := by cases s <;> simp [cntS, bods]
theorem cntB_sum : ∀ b : List Stm, cntB b = (b.map cntS).sum
  | [] => by simp [cntB]
  | s :: r => by simp [cntB, cntB_sum r]
theorem okB_all {sh : List (Nat × Nat)} {at_ w : Nat} : ∀ b : List Stm, okB sh at_ b w = b.all fun s => okS sh at_ s w
  | [] => by simp [okB]
  | s :: r => by simp [okB, okB_all r]
def shapes (p : List Wk) : List (Nat × Nat) := p.map fun w => (w.params, w.owns)
def okW (p : List Wk) (at_ : Nat) : Bool := match p[at_]? with
  | some w => decide (w.params ≤ 3) && (decide (w.owns ≤ 99) && ((decide (at_ ≠ 0) || decide (w.params = 0)) && (okB (shapes p) at_ w.body 0 && decide (cntB w.body ≤ 100))))
  | none => false
def okP (p : List Wk) : Bool := decide (1 ≤ p.length) && (decide (p.length ≤ 4) && (List.range p.length).all (okW p))
/-! ### ways -/
def encY (ys : List (List Str)) : PyData := .tuple (ys.map fun y => .tuple (y.map PyData.str))
def isWay (s : Str) : Bool := [("back" : Str), "copy", "place", "want"].any fun z => PyData.eqv (.str z) (.str s)
def okY (p : List Wk) (ys : List (List Str)) : Bool := decide (ys.length = p.length) && (List.range p.length).all fun i => decide ((ys.getD i []).length = shP (shapes p) i) && (ys.getD i []).all isWay
def smY (ys : List (List Str)) : Prop := ys.length ≤ 1000 ∧ ∀ y ∈ ys, y.length ≤ 1000 ∧ ∀ s ∈ y, (PyData.str s).canLay0 = true
/-! ### data that may be laid -/
theorem encT_lay : ∀ t : Th, (encT t).canLay0 = true
  | .num n => by simp [encT, PyData.canLay0, PyData.canLayAll0]; decide +kernel
  | .own n => by simp [encT, PyData.canLay0, PyData.canLayAll0]; decide +kernel
  | .par n => by simp [encT, PyData.canLay0, PyData.canLayAll0]; decide +kernel
  | .cell t => by
    simp only [encT, PyData.canLay0, PyData.canLayAll0, encT_lay t, Bool.and_true]
    decide +kernel
  | .sum a b => by
    simp only [encT, PyData.canLay0, PyData.canLayAll0, encT_lay a, encT_lay b, Bool.and_true]
    decide +kernel
theorem encTs_lay : ∀ ts : List Th, PyData.canLayAll0 (ts.map encT) = true
  | [] => by simp [PyData.canLayAll0]
  | t :: r => by simp [PyData.canLayAll0, encT_lay t, encTs_lay r]
mutual
theorem encS_lay : ∀ s : Stm, (encS s).canLay0 = true
  | .set p t => by
    simp only [encS, PyData.canLay0, PyData.canLayAll0, encT_lay, Bool.and_true]
    decide +kernel
  | .say t => by
    simp only [encS, PyData.canLay0, PyData.canLayAll0, encT_lay, Bool.and_true]
    decide +kernel
  | .ite t a b => by
    simp only [encS, PyData.canLay0, PyData.canLayAll0, encT_lay, encB_lay a, encB_lay b, Bool.and_true]
    decide +kernel
  | .call w ts => by
    simp only [encS, PyData.canLay0, PyData.canLayAll0, encTs_lay, Bool.and_true]
    decide +kernel
theorem encB_lay : ∀ b : List Stm, PyData.canLayAll0 (encB b) = true
  | [] => by simp [encB, PyData.canLayAll0]
  | s :: r => by simp [encB, PyData.canLayAll0, encS_lay s, encB_lay r]
end
theorem encW_lay (w : Wk) : (encW w).canLay0 = true := by simp [encW, PyData.canLay0, PyData.canLayAll0, encB_lay]
theorem encP_lay (p : List Wk) : (encP p).canLay0 = true := by
  have h : ∀ p : List Wk, PyData.canLayAll0 (p.map encW) = true := by
    intro p
    induction p with
    | nil => simp [PyData.canLayAll0]
    | cons w r ih => simp [PyData.canLayAll0, encW_lay w, ih]
  simpa [encP, PyData.canLay0] using h p
theorem layAll_filter {p : PyData → Bool} : ∀ {ds : List PyData}, PyData.canLayAll0 ds = true → PyData.canLayAll0 (ds.filter p) = true
  | [], _ => by simp [PyData.canLayAll0]
  | d :: ds, h => by
    simp only [PyData.canLayAll0, Bool.and_eq_true] at h
    rw [List.filter_cons]
    split
    · simp [PyData.canLayAll0, h.1, layAll_filter h.2]
    · exact layAll_filter h.2
end Hw

set_option maxRecDepth 100000
set_option maxHeartbeats 4000000
namespace Hw
open PySem PySem.Spec PyProof.Rows L2
def top (i : Nat) : Stmt := PySem.Challenge.pw_handways_k07_whole_ways_that_may_be_chan.main.body.getD i (.Pass ⟨0, 0, 0, 0⟩)
abbrev s_is_number : Stmt := top 13
abbrev s_is_thing : Stmt := top 14
abbrev s_is_call : Stmt := top 15
abbrev s_is_step : Stmt := top 16
abbrev s_is_body : Stmt := top 17
abbrev s_bodies_of : Stmt := top 18
abbrev s_count : Stmt := top 19
abbrev s_is_work : Stmt := top 20
abbrev s_need_program : Stmt := top 21
abbrev s_need_ways : Stmt := top 22
abbrev s_Frame___init__ : Stmt := inClass (top 25) 0
abbrev s_Lent___init__ : Stmt := inClass (top 26) 0
abbrev s_Run___init__ : Stmt := inClass (top 27) 0
abbrev s_Run_fresh : Stmt := inClass (top 27) 1
abbrev s_Run_come : Stmt := inClass (top 27) 2
abbrev s_Run_find : Stmt := inClass (top 27) 3
abbrev s_Run_number : Stmt := inClass (top 27) 4
abbrev s_Run_do : Stmt := inClass (top 27) 5
abbrev s_Run_steps : Stmt := inClass (top 27) 6
abbrev s_Run_put : Stmt := inClass (top 27) 7
abbrev s_Run_call : Stmt := inClass (top 27) 8
abbrev s_out_of : Stmt := top 28
abbrev s_all_cells : Stmt := top 30
abbrev s_parted : Stmt := top 31
abbrev s_mixed : Stmt := top 32
abbrev s_sets : Stmt := top 34
abbrev s_may_set : Stmt := top 35
abbrev s__law_taken : Stmt := top 37
abbrev s__law_alike : Stmt := top 38
abbrev s__law_thing : Stmt := top 39
abbrev s__law_place : Stmt := top 40
abbrev s__law_step : Stmt := top 41
abbrev s__law_body : Stmt := top 42
abbrev s__law_program : Stmt := top 43
abbrev s__law_ways : Stmt := top 44
abbrev s__law_cells : Stmt := top 45
abbrev s__law_begun : Stmt := top 46
abbrev s__law_new : Stmt := top 47
abbrev s__law_meets : Stmt := top 48
abbrev s__law_road : Stmt := top 49
abbrev s__law_worth : Stmt := top 50
abbrev s__law_handed : Stmt := top 51
abbrev s__law_does : Stmt := top 52
abbrev s__law_goes : Stmt := top 53
abbrev s__law_ran : Stmt := top 54
abbrev s__law_out : Stmt := top 55
abbrev s__law_changed : Stmt := top 56
abbrev s_law : Stmt := top 57
theorem sc_is_number : FnScope ["part", "below"] ["part", "below"] (defScope s_is_number) := ⟨rfl, rfl, rfl, by decide +kernel, rfl, by decide +kernel, by decide +kernel⟩
theorem sc_is_thing : FnScope ["thing", "sizes", "within", "word", "below"] ["thing", "sizes", "within"] (defScope s_is_thing) := ⟨rfl, rfl, rfl, by decide +kernel, rfl, by decide +kernel, by decide +kernel⟩
theorem sc_is_call : FnScope ["program", "at", "step", "sizes", "thing"] ["program", "at", "step", "sizes"] (defScope s_is_call) := ⟨rfl, rfl, rfl, by decide +kernel, rfl, by decide +kernel, by decide +kernel⟩
theorem sc_is_step : FnScope ["program", "at", "step", "within", "sizes", "body"] ["program", "at", "step", "within"] (defScope s_is_step) := ⟨rfl, rfl, rfl, by decide +kernel, rfl, by decide +kernel, by decide +kernel⟩
theorem sc_is_body : FnScope ["program", "at", "body", "within", "step"] ["program", "at", "body", "within"] (defScope s_is_body) := ⟨rfl, rfl, rfl, by decide +kernel, rfl, by decide +kernel, by decide +kernel⟩
theorem sc_bodies_of : FnScope ["step"] ["step"] (defScope s_bodies_of) := ⟨rfl, rfl, rfl, by decide +kernel, rfl, by decide +kernel, by decide +kernel⟩
theorem sc_count : FnScope ["body", "step", "inner"] ["body"] (defScope s_count) := ⟨rfl, rfl, rfl, by decide +kernel, rfl, by decide +kernel, by decide +kernel⟩
theorem sc_is_work : FnScope ["program", "at", "params", "owns", "body"] ["program", "at"] (defScope s_is_work) := ⟨rfl, rfl, rfl, by decide +kernel, rfl, by decide +kernel, by decide +kernel⟩
theorem sc_need_program : FnScope ["program", "at"] ["program"] (defScope s_need_program) := ⟨rfl, rfl, rfl, by decide +kernel, rfl, by decide +kernel, by decide +kernel⟩
theorem sc_need_ways : FnScope ["program", "ways", "work", "some", "way"] ["program", "ways"] (defScope s_need_ways) := ⟨rfl, rfl, rfl, by decide +kernel, rfl, by decide +kernel, by decide +kernel⟩
theorem sc_Frame___init__ : FnScope ["self"] ["self"] (defScope s_Frame___init__) := ⟨rfl, rfl, rfl, by decide +kernel, rfl, by decide +kernel, by decide +kernel⟩
theorem sc_Lent___init__ : FnScope ["self", "place", "through", "thing", "frame"] ["self", "place", "through", "thing", "frame"] (defScope s_Lent___init__) := ⟨rfl, rfl, rfl, by decide +kernel, rfl, by decide +kernel, by decide +kernel⟩
theorem sc_Run___init__ : FnScope ["self", "program", "ways", "cells"] ["self", "program", "ways", "cells"] (defScope s_Run___init__) := ⟨rfl, rfl, rfl, by decide +kernel, rfl, by decide +kernel, by decide +kernel⟩
theorem sc_Run_fresh : FnScope ["self", "number"] ["self", "number"] (defScope s_Run_fresh) := ⟨rfl, rfl, rfl, by decide +kernel, rfl, by decide +kernel, by decide +kernel⟩
theorem sc_Run_come : FnScope ["self", "place", "through", "pair"] ["self", "place", "through"] (defScope s_Run_come) := ⟨rfl, rfl, rfl, by decide +kernel, rfl, by decide +kernel, by decide +kernel⟩
theorem sc_Run_find : FnScope ["self", "thing", "frame", "lent"] ["self", "thing", "frame"] (defScope s_Run_find) := ⟨rfl, rfl, rfl, by decide +kernel, rfl, by decide +kernel, by decide +kernel⟩
theorem sc_Run_number : FnScope ["self", "thing", "frame", "found", "lent"] ["self", "thing", "frame"] (defScope s_Run_number) := ⟨rfl, rfl, rfl, by decide +kernel, rfl, by decide +kernel, by decide +kernel⟩
theorem sc_Run_do : FnScope ["self", "at", "frame", "k"] ["self", "at", "frame"] (defScope s_Run_do) := ⟨rfl, rfl, rfl, by decide +kernel, rfl, by decide +kernel, by decide +kernel⟩
theorem sc_Run_steps : FnScope ["self", "body", "frame", "step"] ["self", "body", "frame"] (defScope s_Run_steps) := ⟨rfl, rfl, rfl, by decide +kernel, rfl, by decide +kernel, by decide +kernel⟩
theorem sc_Run_put : FnScope ["self", "thing", "number", "frame", "found"] ["self", "thing", "number", "frame"] (defScope s_Run_put) := ⟨rfl, rfl, rfl, by decide +kernel, rfl, by decide +kernel, by decide +kernel⟩
theorem sc_Run_call : FnScope ["self", "at", "things", "frame", "inner", "backs", "ahead", "thing", "way", "found", "place", "other"] ["self", "at", "things", "frame"] (defScope s_Run_call) := ⟨rfl, rfl, rfl, by decide +kernel, rfl, by decide +kernel, by decide +kernel⟩
theorem sc_out_of : FnScope ["program", "ways", "cells", "run"] ["program", "ways", "cells"] (defScope s_out_of) := ⟨rfl, rfl, rfl, by decide +kernel, rfl, by decide +kernel, by decide +kernel⟩
theorem sc_all_cells : FnScope ["found", "cell", "longer", "some", "number"] [] (defScope s_all_cells) := ⟨rfl, rfl, rfl, by decide +kernel, rfl, by decide +kernel, by decide +kernel⟩
theorem sc_parted : FnScope ["program", "one", "other", "cells"] ["program", "one", "other"] (defScope s_parted) := ⟨rfl, rfl, rfl, by decide +kernel, rfl, by decide +kernel, by decide +kernel⟩
theorem sc_mixed : FnScope ["program", "ways", "cells"] ["program", "ways"] (defScope s_mixed) := ⟨rfl, rfl, rfl, by decide +kernel, rfl, by decide +kernel, by decide +kernel⟩
theorem sc_sets : FnScope ["body", "param", "ways", "known", "step", "thing", "way", "good", "inner"] ["body", "param", "ways", "known"] (defScope s_sets) := ⟨rfl, rfl, rfl, by decide +kernel, rfl, by decide +kernel, by decide +kernel⟩
theorem sc_may_set : FnScope ["program", "ways", "known", "at", "param"] ["program", "ways"] (defScope s_may_set) := ⟨rfl, rfl, rfl, by decide +kernel, rfl, by decide +kernel, by decide +kernel⟩
theorem sc__law_taken : FnScope ["_law_row", "_law_many", "_law_found", "_law_cell"] ["_law_row", "_law_many"] (defScope s__law_taken) := ⟨rfl, rfl, rfl, by decide +kernel, rfl, by decide +kernel, by decide +kernel⟩
theorem sc__law_alike : FnScope ["_law_found", "_law_due", "_law_k"] ["_law_found", "_law_due"] (defScope s__law_alike) := ⟨rfl, rfl, rfl, by decide +kernel, rfl, by decide +kernel, by decide +kernel⟩
theorem sc__law_thing : FnScope ["_law_row", "_law_sizes", "_law_within", "_law_way"] ["_law_row", "_law_sizes", "_law_within"] (defScope s__law_thing) := ⟨rfl, rfl, rfl, by decide +kernel, rfl, by decide +kernel, by decide +kernel⟩
theorem sc__law_place : FnScope ["_law_row", "_law_sizes", "_law_within", "_law_thing_here"] ["_law_row", "_law_sizes", "_law_within"] (defScope s__law_place) := ⟨rfl, rfl, rfl, by decide +kernel, rfl, by decide +kernel, by decide +kernel⟩
theorem sc__law_step : FnScope ["_law_row", "_law_shapes", "_law_at", "_law_left", "_law_within", "_law_sizes", "_law_way", "_law_work", "_law_things", "_law_k", "_law_thing_here", "_law_first"] ["_law_row", "_law_shapes", "_law_at", "_law_left", "_law_within"] (defScope s__law_step) := ⟨rfl, rfl, rfl, by decide +kernel, rfl, by decide +kernel, by decide +kernel⟩
theorem sc__law_body : FnScope ["_law_row", "_law_shapes", "_law_at", "_law_left", "_law_within", "_law_found", "_law_turn"] ["_law_row", "_law_shapes", "_law_at", "_law_left", "_law_within"] (defScope s__law_body) := ⟨rfl, rfl, rfl, by decide +kernel, rfl, by decide +kernel, by decide +kernel⟩
theorem sc__law_program : FnScope ["_law_row", "_law_most", "_law_shapes", "_law_k", "_law_owns", "_law_found", "_law_at", "_law_body_here", "_law_things"] ["_law_row", "_law_most"] (defScope s__law_program) := ⟨rfl, rfl, rfl, by decide +kernel, rfl, by decide +kernel, by decide +kernel⟩
theorem sc__law_ways : FnScope ["_law_row", "_law_program_here", "_law_some", "_law_found", "_law_params", "_law_owns", "_law_body_here", "_law_k"] ["_law_row", "_law_program_here", "_law_some"] (defScope s__law_ways) := ⟨rfl, rfl, rfl, by decide +kernel, rfl, by decide +kernel, by decide +kernel⟩
theorem sc__law_cells : FnScope ["_law_k"] [] (defScope s__law_cells) := ⟨rfl, rfl, rfl, by decide +kernel, rfl, by decide +kernel, by decide +kernel⟩
theorem sc__law_begun : FnScope ["_law_program_here", "_law_ways_here", "_law_cells_here"] ["_law_program_here", "_law_ways_here", "_law_cells_here"] (defScope s__law_begun) := ⟨rfl, rfl, rfl, by decide +kernel, rfl, by decide +kernel, by decide +kernel⟩
theorem sc__law_new : FnScope ["_law_s", "_law_number"] ["_law_s", "_law_number"] (defScope s__law_new) := ⟨rfl, rfl, rfl, by decide +kernel, rfl, by decide +kernel, by decide +kernel⟩
theorem sc__law_meets : FnScope ["_law_s", "_law_road_here", "_law_place_here", "_law_which"] ["_law_s", "_law_road_here"] (defScope s__law_meets) := ⟨rfl, rfl, rfl, by decide +kernel, rfl, by decide +kernel, by decide +kernel⟩
theorem sc__law_road : FnScope ["_law_s", "_law_thing_here", "_law_frame", "_law_handed_here"] ["_law_s", "_law_thing_here", "_law_frame"] (defScope s__law_road) := ⟨rfl, rfl, rfl, by decide +kernel, rfl, by decide +kernel, by decide +kernel⟩
theorem sc__law_worth : FnScope ["_law_s", "_law_thing_here", "_law_frame", "_law_handed_here"] ["_law_s", "_law_thing_here", "_law_frame"] (defScope s__law_worth) := ⟨rfl, rfl, rfl, by decide +kernel, rfl, by decide +kernel, by decide +kernel⟩
theorem sc__law_handed : FnScope ["_law_s", "_law_thing_here", "_law_way", "_law_frame", "_law_road_here", "_law_place_here"] ["_law_s", "_law_thing_here", "_law_way", "_law_frame"] (defScope s__law_handed) := ⟨rfl, rfl, rfl, by decide +kernel, rfl, by decide +kernel, by decide +kernel⟩
theorem sc__law_does : FnScope ["_law_s", "_law_at", "_law_handed_here", "_law_params", "_law_owns", "_law_body_here", "_law_k"] ["_law_s", "_law_at", "_law_handed_here"] (defScope s__law_does) := ⟨rfl, rfl, rfl, by decide +kernel, rfl, by decide +kernel, by decide +kernel⟩
theorem sc__law_goes : FnScope ["_law_s", "_law_body_here", "_law_frame", "_law_step_here", "_law_number", "_law_road_here", "_law_ahead", "_law_some", "_law_k", "_law_handed_here", "_law_place_here", "_law_one"] ["_law_s", "_law_body_here", "_law_frame"] (defScope s__law_goes) := ⟨rfl, rfl, rfl, by decide +kernel, rfl, by decide +kernel, by decide +kernel⟩
theorem sc__law_ran : FnScope ["_law_program_here", "_law_ways_here", "_law_cells_here", "_law_s"] ["_law_program_here", "_law_ways_here", "_law_cells_here"] (defScope s__law_ran) := ⟨rfl, rfl, rfl, by decide +kernel, rfl, by decide +kernel, by decide +kernel⟩
theorem sc__law_out : FnScope ["_law_program_here", "_law_ways_here", "_law_cells_here"] ["_law_program_here", "_law_ways_here", "_law_cells_here"] (defScope s__law_out) := ⟨rfl, rfl, rfl, by decide +kernel, rfl, by decide +kernel, by decide +kernel⟩
theorem sc__law_changed : FnScope ["_law_row", "_law_program_here", "_law_ways_here", "_law_may", "_law_found", "_law_at", "_law_some", "_law_k", "_law_way"] ["_law_row", "_law_program_here", "_law_ways_here", "_law_may"] (defScope s__law_changed) := ⟨rfl, rfl, rfl, by decide +kernel, rfl, by decide +kernel, by decide +kernel⟩
theorem sc_law : FnScope ["_law_script", "_law_row", "_law_turn", "_law_program_here", "_law_ways_here", "_law_other", "_law_cells_here"] ["_law_script"] (defScope s_law) := ⟨rfl, rfl, rfl, by decide +kernel, rfl, by decide +kernel, by decide +kernel⟩
/-- what the walk leans on, of the text behind its top -/
structure Tx (K : PySem.W.Frag) (mg : Str → Option Value) : Prop where
  g_is_number : mg "is_number" = some (.ref (He.ga K "is_number"))
  g_is_thing : mg "is_thing" = some (.ref (He.ga K "is_thing"))
  g_is_call : mg "is_call" = some (.ref (He.ga K "is_call"))
  g_is_step : mg "is_step" = some (.ref (He.ga K "is_step"))
  g_is_body : mg "is_body" = some (.ref (He.ga K "is_body"))
  g_bodies_of : mg "bodies_of" = some (.ref (He.ga K "bodies_of"))
  g_count : mg "count" = some (.ref (He.ga K "count"))
  g_is_work : mg "is_work" = some (.ref (He.ga K "is_work"))
  g_need_program : mg "need_program" = some (.ref (He.ga K "need_program"))
  g_need_ways : mg "need_ways" = some (.ref (He.ga K "need_ways"))
  g_out_of : mg "out_of" = some (.ref (He.ga K "out_of"))
  g_all_cells : mg "all_cells" = some (.ref (He.ga K "all_cells"))
  g_parted : mg "parted" = some (.ref (He.ga K "parted"))
  g_mixed : mg "mixed" = some (.ref (He.ga K "mixed"))
  g_sets : mg "sets" = some (.ref (He.ga K "sets"))
  g_may_set : mg "may_set" = some (.ref (He.ga K "may_set"))
  g__law_taken : mg "_law_taken" = some (.ref (He.ga K "_law_taken"))
  g__law_alike : mg "_law_alike" = some (.ref (He.ga K "_law_alike"))
  g__law_thing : mg "_law_thing" = some (.ref (He.ga K "_law_thing"))
  g__law_place : mg "_law_place" = some (.ref (He.ga K "_law_place"))
  g__law_step : mg "_law_step" = some (.ref (He.ga K "_law_step"))
  g__law_body : mg "_law_body" = some (.ref (He.ga K "_law_body"))
  g__law_program : mg "_law_program" = some (.ref (He.ga K "_law_program"))
  g__law_ways : mg "_law_ways" = some (.ref (He.ga K "_law_ways"))
  g__law_cells : mg "_law_cells" = some (.ref (He.ga K "_law_cells"))
  g__law_begun : mg "_law_begun" = some (.ref (He.ga K "_law_begun"))
  g__law_new : mg "_law_new" = some (.ref (He.ga K "_law_new"))
  g__law_meets : mg "_law_meets" = some (.ref (He.ga K "_law_meets"))
  g__law_road : mg "_law_road" = some (.ref (He.ga K "_law_road"))
  g__law_worth : mg "_law_worth" = some (.ref (He.ga K "_law_worth"))
  g__law_handed : mg "_law_handed" = some (.ref (He.ga K "_law_handed"))
  g__law_does : mg "_law_does" = some (.ref (He.ga K "_law_does"))
  g__law_goes : mg "_law_goes" = some (.ref (He.ga K "_law_goes"))
  g__law_ran : mg "_law_ran" = some (.ref (He.ga K "_law_ran"))
  g__law_out : mg "_law_out" = some (.ref (He.ga K "_law_out"))
  g__law_changed : mg "_law_changed" = some (.ref (He.ga K "_law_changed"))
  g_law : mg "law" = some (.ref (He.ga K "law"))
  g_HandError : mg "HandError" = some (.ref (He.ga K "HandError"))
  k_HandError : PySem.W.keepIn K (.ref (He.ga K "HandError")) = true
  x_HandError : PySem.W.excIn K (He.ga K "HandError") [.type "ValueError", .type "Exception", .type "BaseException", .type "object"] "ValueError.__new__" = true
  be_HandError : PySem.W.subIn K (.ref (He.ga K "HandError")) (.type "BaseException") = some true
  ty_HandError : PySem.W.typeIn K (.ref (He.ga K "HandError")) = some (.type "type")
  em_HandError_HandError : PySem.W.exmOne K (.ref (He.ga K "HandError")) (.ref (He.ga K "HandError")) = some true
  em_HandError_BadProgram : PySem.W.exmOne K (.ref (He.ga K "HandError")) (.ref (He.ga K "BadProgram")) = some false
  em_HandError_BadWays : PySem.W.exmOne K (.ref (He.ga K "HandError")) (.ref (He.ga K "BadWays")) = some false
  g_BadProgram : mg "BadProgram" = some (.ref (He.ga K "BadProgram"))
  k_BadProgram : PySem.W.keepIn K (.ref (He.ga K "BadProgram")) = true
  x_BadProgram : PySem.W.excIn K (He.ga K "BadProgram") [.type "ValueError", .type "Exception", .type "BaseException", .type "object"] "ValueError.__new__" = true
  be_BadProgram : PySem.W.subIn K (.ref (He.ga K "BadProgram")) (.type "BaseException") = some true
  ty_BadProgram : PySem.W.typeIn K (.ref (He.ga K "BadProgram")) = some (.type "type")
  em_BadProgram_HandError : PySem.W.exmOne K (.ref (He.ga K "BadProgram")) (.ref (He.ga K "HandError")) = some true
  em_BadProgram_BadProgram : PySem.W.exmOne K (.ref (He.ga K "BadProgram")) (.ref (He.ga K "BadProgram")) = some true
  em_BadProgram_BadWays : PySem.W.exmOne K (.ref (He.ga K "BadProgram")) (.ref (He.ga K "BadWays")) = some false
  g_BadWays : mg "BadWays" = some (.ref (He.ga K "BadWays"))
  k_BadWays : PySem.W.keepIn K (.ref (He.ga K "BadWays")) = true
  x_BadWays : PySem.W.excIn K (He.ga K "BadWays") [.type "ValueError", .type "Exception", .type "BaseException", .type "object"] "ValueError.__new__" = true
  be_BadWays : PySem.W.subIn K (.ref (He.ga K "BadWays")) (.type "BaseException") = some true
  ty_BadWays : PySem.W.typeIn K (.ref (He.ga K "BadWays")) = some (.type "type")
  em_BadWays_HandError : PySem.W.exmOne K (.ref (He.ga K "BadWays")) (.ref (He.ga K "HandError")) = some true
  em_BadWays_BadProgram : PySem.W.exmOne K (.ref (He.ga K "BadWays")) (.ref (He.ga K "BadProgram")) = some false
  em_BadWays_BadWays : PySem.W.exmOne K (.ref (He.ga K "BadWays")) (.ref (He.ga K "BadWays")) = some true
  g_Frame : mg "Frame" = some (.ref (He.ga K "Frame"))
  k_Frame : PySem.W.keepIn K (.ref (He.ga K "Frame")) = true
  c_Frame : Cls K (He.ga K "Frame")
  mk_Frame : Mk K (He.ga K "Frame") (He.ma K (He.ga K "Frame") "__init__")
  na_Frame_owns : NoAttr K (He.ga K "Frame") "owns"
  na_Frame_pars : NoAttr K (He.ga K "Frame") "pars"
  g_Lent : mg "Lent" = some (.ref (He.ga K "Lent"))
  k_Lent : PySem.W.keepIn K (.ref (He.ga K "Lent")) = true
  c_Lent : Cls K (He.ga K "Lent")
  mk_Lent : Mk K (He.ga K "Lent") (He.ma K (He.ga K "Lent") "__init__")
  na_Lent_place : NoAttr K (He.ga K "Lent") "place"
  na_Lent_through : NoAttr K (He.ga K "Lent") "through"
  na_Lent_thing : NoAttr K (He.ga K "Lent") "thing"
  na_Lent_frame : NoAttr K (He.ga K "Lent") "frame"
  g_Run : mg "Run" = some (.ref (He.ga K "Run"))
  k_Run : PySem.W.keepIn K (.ref (He.ga K "Run")) = true
  c_Run : Cls K (He.ga K "Run")
  mk_Run : Mk K (He.ga K "Run") (He.ma K (He.ga K "Run") "__init__")
  na_Run_program : NoAttr K (He.ga K "Run") "program"
  na_Run_ways : NoAttr K (He.ga K "Run") "ways"
  na_Run_numbers : NoAttr K (He.ga K "Run") "numbers"
  na_Run_said : NoAttr K (He.ga K "Run") "said"
  na_Run_lent : NoAttr K (He.ga K "Run") "lent"
  na_Run_many : NoAttr K (He.ga K "Run") "many"
  na_Run_mixed : NoAttr K (He.ga K "Run") "mixed"
  na_Run_owns : NoAttr K (He.ga K "Run") "owns"
  m_Run_fresh : Meth K (He.ga K "Run") "fresh" (He.ma K (He.ga K "Run") "fresh")
  m_Run_come : Meth K (He.ga K "Run") "come" (He.ma K (He.ga K "Run") "come")
  m_Run_find : Meth K (He.ga K "Run") "find" (He.ma K (He.ga K "Run") "find")
  m_Run_number : Meth K (He.ga K "Run") "number" (He.ma K (He.ga K "Run") "number")
  m_Run_do : Meth K (He.ga K "Run") "do" (He.ma K (He.ga K "Run") "do")
  m_Run_steps : Meth K (He.ga K "Run") "steps" (He.ma K (He.ga K "Run") "steps")
  m_Run_put : Meth K (He.ga K "Run") "put" (He.ma K (He.ga K "Run") "put")
  m_Run_call : Meth K (He.ga K "Run") "call" (He.ma K (He.ga K "Run") "call")
  b_ValueError : mg "ValueError" = none
  b_bool : mg "bool" = none
  b_int : mg "int" = none
  b_isinstance : mg "isinstance" = none
  b_len : mg "len" = none
  b_list : mg "list" = none
  b_range : mg "range" = none
  b_reversed : mg "reversed" = none
  b_str : mg "str" = none
  b_sum : mg "sum" = none
  b_tuple : mg "tuple" = none
  b_zip : mg "zip" = none
  g_NUMBERS : ∃ t, mg "NUMBERS" = some (.int 3 t)
  g_MOST_WORKS : ∃ t, mg "MOST_WORKS" = some (.int 4 t)
  g_MOST_PARAMS : ∃ t, mg "MOST_PARAMS" = some (.int 3 t)
  g_MOST_OWNS : ∃ t, mg "MOST_OWNS" = some (.int 99 t)
  g_MOST_STEPS : ∃ t, mg "MOST_STEPS" = some (.int 100 t)
  g_MOST_WITHIN : ∃ t, mg "MOST_WITHIN" = some (.int 4 t)
  g_PLACES : mg "PLACES" = some (.ref (He.ga K "PLACES"))
  t_PLACES : ∀ H : Hp, SqT K H (He.ga K "PLACES") [V.str "cell", V.str "own", V.str "par"]
  g_WAYS : mg "WAYS" = some (.ref (He.ga K "WAYS"))
  t_WAYS : ∀ H : Hp, SqT K H (He.ga K "WAYS") [V.str "back", V.str "copy", V.str "place", V.str "want"]
  g_COMMON : ∃ t, mg "COMMON" = some (.int 3 t)
  d_is_number : ∃ fd, FunD K "is_number" "is_number" (defArgs s_is_number) (defBody s_is_number) (defScope s_is_number) [] [] (He.ga K "is_number") fd
  d_is_thing : ∃ fd, FunD K "is_thing" "is_thing" (defArgs s_is_thing) (defBody s_is_thing) (defScope s_is_thing) [] [] (He.ga K "is_thing") fd
  d_is_call : ∃ fd, FunD K "is_call" "is_call" (defArgs s_is_call) (defBody s_is_call) (defScope s_is_call) [] [] (He.ga K "is_call") fd
  d_is_step : ∃ fd, FunD K "is_step" "is_step" (defArgs s_is_step) (defBody s_is_step) (defScope s_is_step) [] [] (He.ga K "is_step") fd
  d_is_body : ∃ fd, FunD K "is_body" "is_body" (defArgs s_is_body) (defBody s_is_body) (defScope s_is_body) [] [] (He.ga K "is_body") fd
  d_bodies_of : ∃ fd, FunD K "bodies_of" "bodies_of" (defArgs s_bodies_of) (defBody s_bodies_of) (defScope s_bodies_of) [] [] (He.ga K "bodies_of") fd
  d_count : ∃ fd, FunD K "count" "count" (defArgs s_count) (defBody s_count) (defScope s_count) [] [] (He.ga K "count") fd
  d_is_work : ∃ fd, FunD K "is_work" "is_work" (defArgs s_is_work) (defBody s_is_work) (defScope s_is_work) [] [] (He.ga K "is_work") fd
  d_need_program : ∃ fd, FunD K "need_program" "need_program" (defArgs s_need_program) (defBody s_need_program) (defScope s_need_program) [] [] (He.ga K "need_program") fd
  d_need_ways : ∃ fd, FunD K "need_ways" "need_ways" (defArgs s_need_ways) (defBody s_need_ways) (defScope s_need_ways) [] [] (He.ga K "need_ways") fd
  d_Frame___init__ : ∃ fd, FunD K "__init__" "Frame.__init__" (defArgs s_Frame___init__) (defBody s_Frame___init__) (defScope s_Frame___init__) [] [] (He.ma K (He.ga K "Frame") "__init__") fd
  d_Lent___init__ : ∃ fd, FunD K "__init__" "Lent.__init__" (defArgs s_Lent___init__) (defBody s_Lent___init__) (defScope s_Lent___init__) [] [] (He.ma K (He.ga K "Lent") "__init__") fd
  d_Run___init__ : ∃ fd, FunD K "__init__" "Run.__init__" (defArgs s_Run___init__) (defBody s_Run___init__) (defScope s_Run___init__) [] [] (He.ma K (He.ga K "Run") "__init__") fd
  d_Run_fresh : ∃ fd, FunD K "fresh" "Run.fresh" (defArgs s_Run_fresh) (defBody s_Run_fresh) (defScope s_Run_fresh) [] [] (He.ma K (He.ga K "Run") "fresh") fd
  d_Run_come : ∃ fd, FunD K "come" "Run.come" (defArgs s_Run_come) (defBody s_Run_come) (defScope s_Run_come) [] [] (He.ma K (He.ga K "Run") "come") fd
  d_Run_find : ∃ fd, FunD K "find" "Run.find" (defArgs s_Run_find) (defBody s_Run_find) (defScope s_Run_find) [] [] (He.ma K (He.ga K "Run") "find") fd
  d_Run_number : ∃ fd, FunD K "number" "Run.number" (defArgs s_Run_number) (defBody s_Run_number) (defScope s_Run_number) [] [] (He.ma K (He.ga K "Run") "number") fd
  d_Run_do : ∃ fd, FunD K "do" "Run.do" (defArgs s_Run_do) (defBody s_Run_do) (defScope s_Run_do) [] [] (He.ma K (He.ga K "Run") "do") fd
  d_Run_steps : ∃ fd, FunD K "steps" "Run.steps" (defArgs s_Run_steps) (defBody s_Run_steps) (defScope s_Run_steps) [] [] (He.ma K (He.ga K "Run") "steps") fd
  d_Run_put : ∃ fd, FunD K "put" "Run.put" (defArgs s_Run_put) (defBody s_Run_put) (defScope s_Run_put) [] [] (He.ma K (He.ga K "Run") "put") fd
  d_Run_call : ∃ fd, FunD K "call" "Run.call" (defArgs s_Run_call) (defBody s_Run_call) (defScope s_Run_call) [] [] (He.ma K (He.ga K "Run") "call") fd
  d_out_of : ∃ fd, FunD K "out_of" "out_of" (defArgs s_out_of) (defBody s_out_of) (defScope s_out_of) [] [] (He.ga K "out_of") fd
  d_all_cells : ∃ fd, FunD K "all_cells" "all_cells" (defArgs s_all_cells) (defBody s_all_cells) (defScope s_all_cells) [] [] (He.ga K "all_cells") fd
  d_parted : ∃ fd, FunD K "parted" "parted" (defArgs s_parted) (defBody s_parted) (defScope s_parted) [] [] (He.ga K "parted") fd
  d_mixed : ∃ fd, FunD K "mixed" "mixed" (defArgs s_mixed) (defBody s_mixed) (defScope s_mixed) [] [] (He.ga K "mixed") fd
  d_sets : ∃ fd, FunD K "sets" "sets" (defArgs s_sets) (defBody s_sets) (defScope s_sets) [] [] (He.ga K "sets") fd
  d_may_set : ∃ fd, FunD K "may_set" "may_set" (defArgs s_may_set) (defBody s_may_set) (defScope s_may_set) [] [] (He.ga K "may_set") fd
  d__law_taken : ∃ fd, FunD K "_law_taken" "_law_taken" (defArgs s__law_taken) (defBody s__law_taken) (defScope s__law_taken) [] [] (He.ga K "_law_taken") fd
  d__law_alike : ∃ fd, FunD K "_law_alike" "_law_alike" (defArgs s__law_alike) (defBody s__law_alike) (defScope s__law_alike) [] [] (He.ga K "_law_alike") fd
  d__law_thing : ∃ fd, FunD K "_law_thing" "_law_thing" (defArgs s__law_thing) (defBody s__law_thing) (defScope s__law_thing) [] [] (He.ga K "_law_thing") fd
  d__law_place : ∃ fd, FunD K "_law_place" "_law_place" (defArgs s__law_place) (defBody s__law_place) (defScope s__law_place) [] [] (He.ga K "_law_place") fd
  d__law_step : ∃ fd, FunD K "_law_step" "_law_step" (defArgs s__law_step) (defBody s__law_step) (defScope s__law_step) [] [] (He.ga K "_law_step") fd
  d__law_body : ∃ fd, FunD K "_law_body" "_law_body" (defArgs s__law_body) (defBody s__law_body) (defScope s__law_body) [] [] (He.ga K "_law_body") fd
  d__law_program : ∃ fd, FunD K "_law_program" "_law_program" (defArgs s__law_program) (defBody s__law_program) (defScope s__law_program) [] [] (He.ga K "_law_program") fd
  d__law_ways : ∃ fd, FunD K "_law_ways" "_law_ways" (defArgs s__law_ways) (defBody s__law_ways) (defScope s__law_ways) [] [] (He.ga K "_law_ways") fd
  d__law_cells : ∃ fd, FunD K "_law_cells" "_law_cells" (defArgs s__law_cells) (defBody s__law_cells) (defScope s__law_cells) [] [] (He.ga K "_law_cells") fd
  d__law_begun : ∃ fd, FunD K "_law_begun" "_law_begun" (defArgs s__law_begun) (defBody s__law_begun) (defScope s__law_begun) [] [] (He.ga K "_law_begun") fd
  d__law_new : ∃ fd, FunD K "_law_new" "_law_new" (defArgs s__law_new) (defBody s__law_new) (defScope s__law_new) [] [] (He.ga K "_law_new") fd
  d__law_meets : ∃ fd, FunD K "_law_meets" "_law_meets" (defArgs s__law_meets) (defBody s__law_meets) (defScope s__law_meets) [] [] (He.ga K "_law_meets") fd
  d__law_road : ∃ fd, FunD K "_law_road" "_law_road" (defArgs s__law_road) (defBody s__law_road) (defScope s__law_road) [] [] (He.ga K "_law_road") fd
  d__law_worth : ∃ fd, FunD K "_law_worth" "_law_worth" (defArgs s__law_worth) (defBody s__law_worth) (defScope s__law_worth) [] [] (He.ga K "_law_worth") fd
  d__law_handed : ∃ fd, FunD K "_law_handed" "_law_handed" (defArgs s__law_handed) (defBody s__law_handed) (defScope s__law_handed) [] [] (He.ga K "_law_handed") fd
  d__law_does : ∃ fd, FunD K "_law_does" "_law_does" (defArgs s__law_does) (defBody s__law_does) (defScope s__law_does) [] [] (He.ga K "_law_does") fd
  d__law_goes : ∃ fd, FunD K "_law_goes" "_law_goes" (defArgs s__law_goes) (defBody s__law_goes) (defScope s__law_goes) [] [] (He.ga K "_law_goes") fd
  d__law_ran : ∃ fd, FunD K "_law_ran" "_law_ran" (defArgs s__law_ran) (defBody s__law_ran) (defScope s__law_ran) [] [] (He.ga K "_law_ran") fd
  d__law_out : ∃ fd, FunD K "_law_out" "_law_out" (defArgs s__law_out) (defBody s__law_out) (defScope s__law_out) [] [] (He.ga K "_law_out") fd
  d__law_changed : ∃ fd, FunD K "_law_changed" "_law_changed" (defArgs s__law_changed) (defBody s__law_changed) (defScope s__law_changed) [] [] (He.ga K "_law_changed") fd
  d_law : ∃ fd, FunD K "law" "law" (defArgs s_law) (defBody s_law) (defScope s_law) [] [] (He.ga K "law") fd
section
variable {K : PySem.W.Frag} {mg : Str → Option Value} (T : Tx K mg)
include T
noncomputable def Tx.fd_is_number : FuncData := Classical.choose T.d_is_number
theorem Tx.F_is_number : FunD K "is_number" "is_number" (defArgs s_is_number) (defBody s_is_number) (defScope s_is_number) [] [] (He.ga K "is_number") T.fd_is_number := Classical.choose_spec T.d_is_number
theorem Tx.k_is_number : PySem.W.keepIn K (.ref (He.ga K "is_number")) = true := T.F_is_number.kp
theorem Tx.bd_is_number : Binds K T.fd_is_number ["part", "below"] [] := T.F_is_number.bindsN fun _ _ _ _ _ _ us hl => match us, hl with | [_, _], _ => rfl
abbrev Fn_is_number (P : Program) (w : World) (base : Heap) (CX : CXT) (k : Nat) (sp : Sp) : Prop := FnOk P w K mg base CX k (He.ga K "is_number") T.fd_is_number ["part", "below"] sp
noncomputable def Tx.fd_is_thing : FuncData := Classical.choose T.d_is_thing
theorem Tx.F_is_thing : FunD K "is_thing" "is_thing" (defArgs s_is_thing) (defBody s_is_thing) (defScope s_is_thing) [] [] (He.ga K "is_thing") T.fd_is_thing := Classical.choose_spec T.d_is_thing
theorem Tx.k_is_thing : PySem.W.keepIn K (.ref (He.ga K "is_thing")) = true := T.F_is_thing.kp
theorem Tx.bd_is_thing : Binds K T.fd_is_thing ["thing", "sizes", "within"] [] := T.F_is_thing.bindsN fun _ _ _ _ _ _ us hl => match us, hl with | [_, _, _], _ => rfl
abbrev Fn_is_thing (P : Program) (w : World) (base : Heap) (CX : CXT) (k : Nat) (sp : Sp) : Prop := FnOk P w K mg base CX k (He.ga K "is_thing") T.fd_is_thing ["thing", "sizes", "within"] sp
noncomputable def Tx.fd_is_call : FuncData := Classical.choose T.d_is_call
theorem Tx.F_is_call : FunD K "is_call" "is_call" (defArgs s_is_call) (defBody s_is_call) (defScope s_is_call) [] [] (He.ga K "is_call") T.fd_is_call := Classical.choose_spec T.d_is_call
theorem Tx.k_is_call : PySem.W.keepIn K (.ref (He.ga K "is_call")) = true := T.F_is_call.kp
theorem Tx.bd_is_call : Binds K T.fd_is_call ["program", "at", "step", "sizes"] [] := T.F_is_call.bindsN fun _ _ _ _ _ _ us hl => match us, hl with | [_, _, _, _], _ => rfl
abbrev Fn_is_call (P : Program) (w : World) (base : Heap) (CX : CXT) (k : Nat) (sp : Sp) : Prop := FnOk P w K mg base CX k (He.ga K "is_call") T.fd_is_call ["program", "at", "step", "sizes"] sp
noncomputable def Tx.fd_is_step : FuncData := Classical.choose T.d_is_step
theorem Tx.F_is_step : FunD K "is_step" "is_step" (defArgs s_is_step) (defBody s_is_step) (defScope s_is_step) [] [] (He.ga K "is_step") T.fd_is_step := Classical.choose_spec T.d_is_step
theorem Tx.k_is_step : PySem.W.keepIn K (.ref (He.ga K "is_step")) = true := T.F_is_step.kp
theorem Tx.bd_is_step : Binds K T.fd_is_step ["program", "at", "step", "within"] [] := T.F_is_step.bindsN fun _ _ _ _ _ _ us hl => match us, hl with | [_, _, _, _], _ => rfl
abbrev Fn_is_step (P : Program) (w : World) (base : Heap) (CX : CXT) (k : Nat) (sp : Sp) : Prop := FnOk P w K mg base CX k (He.ga K "is_step") T.fd_is_step ["program", "at", "step", "within"] sp
noncomputable def Tx.fd_is_body : FuncData := Classical.choose T.d_is_body
theorem Tx.F_is_body : FunD K "is_body" "is_body" (defArgs s_is_body) (defBody s_is_body) (defScope s_is_body) [] [] (He.ga K "is_body") T.fd_is_body := Classical.choose_spec T.d_is_body
theorem Tx.k_is_body : PySem.W.keepIn K (.ref (He.ga K "is_body")) = true := T.F_is_body.kp
theorem Tx.bd_is_body : Binds K T.fd_is_body ["program", "at", "body", "within"] [] := T.F_is_body.bindsN fun _ _ _ _ _ _ us hl => match us, hl with | [_, _, _, _], _ => rfl
abbrev Fn_is_body (P : Program) (w : World) (base : Heap) (CX : CXT) (k : Nat) (sp : Sp) : Prop := FnOk P w K mg base CX k (He.ga K "is_body") T.fd_is_body ["program", "at", "body", "within"] sp
noncomputable def Tx.fd_bodies_of : FuncData := Classical.choose T.d_bodies_of
theorem Tx.F_bodies_of : FunD K "bodies_of" "bodies_of" (defArgs s_bodies_of) (defBody s_bodies_of) (defScope s_bodies_of) [] [] (He.ga K "bodies_of") T.fd_bodies_of := Classical.choose_spec T.d_bodies_of
theorem Tx.k_bodies_of : PySem.W.keepIn K (.ref (He.ga K "bodies_of")) = true := T.F_bodies_of.kp
theorem Tx.bd_bodies_of : Binds K T.fd_bodies_of ["step"] [] := T.F_bodies_of.bindsN fun _ _ _ _ _ _ us hl => match us, hl with | [_], _ => rfl
abbrev Fn_bodies_of (P : Program) (w : World) (base : Heap) (CX : CXT) (k : Nat) (sp : Sp) : Prop := FnOk P w K mg base CX k (He.ga K "bodies_of") T.fd_bodies_of ["step"] sp
noncomputable def Tx.fd_count : FuncData := Classical.choose T.d_count
theorem Tx.F_count : FunD K "count" "count" (defArgs s_count) (defBody s_count) (defScope s_count) [] [] (He.ga K "count") T.fd_count := Classical.choose_spec T.d_count
theorem Tx.k_count : PySem.W.keepIn K (.ref (He.ga K "count")) = true := T.F_count.kp
theorem Tx.bd_count : Binds K T.fd_count ["body"] [] := T.F_count.bindsN fun _ _ _ _ _ _ us hl => match us, hl with | [_], _ => rfl
abbrev Fn_count (P : Program) (w : World) (base : Heap) (CX : CXT) (k : Nat) (sp : Sp) : Prop := FnOk P w K mg base CX k (He.ga K "count") T.fd_count ["body"] sp
noncomputable def Tx.fd_is_work : FuncData := Classical.choose T.d_is_work
theorem Tx.F_is_work : FunD K "is_work" "is_work" (defArgs s_is_work) (defBody s_is_work) (defScope s_is_work) [] [] (He.ga K "is_work") T.fd_is_work := Classical.choose_spec T.d_is_work
theorem Tx.k_is_work : PySem.W.keepIn K (.ref (He.ga K "is_work")) = true := T.F_is_work.kp
theorem Tx.bd_is_work : Binds K T.fd_is_work ["program", "at"] [] := T.F_is_work.bindsN fun _ _ _ _ _ _ us hl => match us, hl with | [_, _], _ => rfl
abbrev Fn_is_work (P : Program) (w : World) (base : Heap) (CX : CXT) (k : Nat) (sp : Sp) : Prop := FnOk P w K mg base CX k (He.ga K "is_work") T.fd_is_work ["program", "at"] sp
noncomputable def Tx.fd_need_program : FuncData := Classical.choose T.d_need_program
theorem Tx.F_need_program : FunD K "need_program" "need_program" (defArgs s_need_program) (defBody s_need_program) (defScope s_need_program) [] [] (He.ga K "need_program") T.fd_need_program := Classical.choose_spec T.d_need_program
theorem Tx.k_need_program : PySem.W.keepIn K (.ref (He.ga K "need_program")) = true := T.F_need_program.kp
theorem Tx.bd_need_program : Binds K T.fd_need_program ["program"] [] := T.F_need_program.bindsN fun _ _ _ _ _ _ us hl => match us, hl with | [_], _ => rfl
abbrev Fn_need_program (P : Program) (w : World) (base : Heap) (CX : CXT) (k : Nat) (sp : Sp) : Prop := FnOk P w K mg base CX k (He.ga K "need_program") T.fd_need_program ["program"] sp
noncomputable def Tx.fd_need_ways : FuncData := Classical.choose T.d_need_ways
theorem Tx.F_need_ways : FunD K "need_ways" "need_ways" (defArgs s_need_ways) (defBody s_need_ways) (defScope s_need_ways) [] [] (He.ga K "need_ways") T.fd_need_ways := Classical.choose_spec T.d_need_ways
theorem Tx.k_need_ways : PySem.W.keepIn K (.ref (He.ga K "need_ways")) = true := T.F_need_ways.kp
theorem Tx.bd_need_ways : Binds K T.fd_need_ways ["program", "ways"] [] := T.F_need_ways.bindsN fun _ _ _ _ _ _ us hl => match us, hl with | [_, _], _ => rfl
abbrev Fn_need_ways (P : Program) (w : World) (base : Heap) (CX : CXT) (k : Nat) (sp : Sp) : Prop := FnOk P w K mg base CX k (He.ga K "need_ways") T.fd_need_ways ["program", "ways"] sp
noncomputable def Tx.fd_Frame___init__ : FuncData := Classical.choose T.d_Frame___init__
theorem Tx.F_Frame___init__ : FunD K "__init__" "Frame.__init__" (defArgs s_Frame___init__) (defBody s_Frame___init__) (defScope s_Frame___init__) [] [] (He.ma K (He.ga K "Frame") "__init__") T.fd_Frame___init__ := Classical.choose_spec T.d_Frame___init__
theorem Tx.k_Frame___init__ : PySem.W.keepIn K (.ref (He.ma K (He.ga K "Frame") "__init__")) = true := T.F_Frame___init__.kp
theorem Tx.bd_Frame___init__ : Binds K T.fd_Frame___init__ ["self"] [] := T.F_Frame___init__.bindsN fun _ _ _ _ _ _ us hl => match us, hl with | [_], _ => rfl
abbrev Fn_Frame___init__ (P : Program) (w : World) (base : Heap) (CX : CXT) (k : Nat) (sp : Sp) : Prop := FnOk P w K mg base CX k (He.ma K (He.ga K "Frame") "__init__") T.fd_Frame___init__ ["self"] sp
noncomputable def Tx.fd_Lent___init__ : FuncData := Classical.choose T.d_Lent___init__
theorem Tx.F_Lent___init__ : FunD K "__init__" "Lent.__init__" (defArgs s_Lent___init__) (defBody s_Lent___init__) (defScope s_Lent___init__) [] [] (He.ma K (He.ga K "Lent") "__init__") T.fd_Lent___init__ := Classical.choose_spec T.d_Lent___init__
theorem Tx.k_Lent___init__ : PySem.W.keepIn K (.ref (He.ma K (He.ga K "Lent") "__init__")) = true := T.F_Lent___init__.kp
theorem Tx.bd_Lent___init__ : Binds K T.fd_Lent___init__ ["self", "place", "through", "thing", "frame"] [] := T.F_Lent___init__.bindsN fun _ _ _ _ _ _ us hl => match us, hl with | [_, _, _, _, _], _ => rfl
abbrev Fn_Lent___init__ (P : Program) (w : World) (base : Heap) (CX : CXT) (k : Nat) (sp : Sp) : Prop := FnOk P w K mg base CX k (He.ma K (He.ga K "Lent") "__init__") T.fd_Lent___init__ ["self", "place", "through", "thing", "frame"] sp
noncomputable def Tx.fd_Run___init__ : FuncData := Classical.choose T.d_Run___init__
theorem Tx.F_Run___init__ : FunD K "__init__" "Run.__init__" (defArgs s_Run___init__) (defBody s_Run___init__) (defScope s_Run___init__) [] [] (He.ma K (He.ga K "Run") "__init__") T.fd_Run___init__ := Classical.choose_spec T.d_Run___init__
theorem Tx.k_Run___init__ : PySem.W.keepIn K (.ref (He.ma K (He.ga K "Run") "__init__")) = true := T.F_Run___init__.kp
theorem Tx.bd_Run___init__ : Binds K T.fd_Run___init__ ["self", "program", "ways", "cells"] [] := T.F_Run___init__.bindsN fun _ _ _ _ _ _ us hl => match us, hl with | [_, _, _, _], _ => rfl
abbrev Fn_Run___init__ (P : Program) (w : World) (base : Heap) (CX : CXT) (k : Nat) (sp : Sp) : Prop := FnOk P w K mg base CX k (He.ma K (He.ga K "Run") "__init__") T.fd_Run___init__ ["self", "program", "ways", "cells"] sp
noncomputable def Tx.fd_Run_fresh : FuncData := Classical.choose T.d_Run_fresh
theorem Tx.F_Run_fresh : FunD K "fresh" "Run.fresh" (defArgs s_Run_fresh) (defBody s_Run_fresh) (defScope s_Run_fresh) [] [] (He.ma K (He.ga K "Run") "fresh") T.fd_Run_fresh := Classical.choose_spec T.d_Run_fresh
theorem Tx.k_Run_fresh : PySem.W.keepIn K (.ref (He.ma K (He.ga K "Run") "fresh")) = true := T.F_Run_fresh.kp
theorem Tx.bd_Run_fresh : Binds K T.fd_Run_fresh ["self", "number"] [] := T.F_Run_fresh.bindsN fun _ _ _ _ _ _ us hl => match us, hl with | [_, _], _ => rfl
abbrev Fn_Run_fresh (P : Program) (w : World) (base : Heap) (CX : CXT) (k : Nat) (sp : Sp) : Prop := FnOk P w K mg base CX k (He.ma K (He.ga K "Run") "fresh") T.fd_Run_fresh ["self", "number"] sp
noncomputable def Tx.fd_Run_come : FuncData := Classical.choose T.d_Run_come
theorem Tx.F_Run_come : FunD K "come" "Run.come" (defArgs s_Run_come) (defBody s_Run_come) (defScope s_Run_come) [] [] (He.ma K (He.ga K "Run") "come") T.fd_Run_come := Classical.choose_spec T.d_Run_come
theorem Tx.k_Run_come : PySem.W.keepIn K (.ref (He.ma K (He.ga K "Run") "come")) = true := T.F_Run_come.kp
theorem Tx.bd_Run_come : Binds K T.fd_Run_come ["self", "place", "through"] [] := T.F_Run_come.bindsN fun _ _ _ _ _ _ us hl => match us, hl with | [_, _, _], _ => rfl
abbrev Fn_Run_come (P : Program) (w : World) (base : Heap) (CX : CXT) (k : Nat) (sp : Sp) : Prop := FnOk P w K mg base CX k (He.ma K (He.ga K "Run") "come") T.fd_Run_come ["self", "place", "through"] sp
noncomputable def Tx.fd_Run_find : FuncData := Classical.choose T.d_Run_find
theorem Tx.F_Run_find : FunD K "find" "Run.find" (defArgs s_Run_find) (defBody s_Run_find) (defScope s_Run_find) [] [] (He.ma K (He.ga K "Run") "find") T.fd_Run_find := Classical.choose_spec T.d_Run_find
theorem Tx.k_Run_find : PySem.W.keepIn K (.ref (He.ma K (He.ga K "Run") "find")) = true := T.F_Run_find.kp
theorem Tx.bd_Run_find : Binds K T.fd_Run_find ["self", "thing", "frame"] [] := T.F_Run_find.bindsN fun _ _ _ _ _ _ us hl => match us, hl with | [_, _, _], _ => rfl
abbrev Fn_Run_find (P : Program) (w : World) (base : Heap) (CX : CXT) (k : Nat) (sp : Sp) : Prop := FnOk P w K mg base CX k (He.ma K (He.ga K "Run") "find") T.fd_Run_find ["self", "thing", "frame"] sp
noncomputable def Tx.fd_Run_number : FuncData := Classical.choose T.d_Run_number
theorem Tx.F_Run_number : FunD K "number" "Run.number" (defArgs s_Run_number) (defBody s_Run_number) (defScope s_Run_number) [] [] (He.ma K (He.ga K "Run") "number") T.fd_Run_number := Classical.choose_spec T.d_Run_number
theorem Tx.k_Run_number : PySem.W.keepIn K (.ref (He.ma K (He.ga K "Run") "number")) = true := T.F_Run_number.kp
theorem Tx.bd_Run_number : Binds K T.fd_Run_number ["self", "thing", "frame"] [] := T.F_Run_number.bindsN fun _ _ _ _ _ _ us hl => match us, hl with | [_, _, _], _ => rfl
abbrev Fn_Run_number (P : Program) (w : World) (base : Heap) (CX : CXT) (k : Nat) (sp : Sp) : Prop := FnOk P w K mg base CX k (He.ma K (He.ga K "Run") "number") T.fd_Run_number ["self", "thing", "frame"] sp
noncomputable def Tx.fd_Run_do : FuncData := Classical.choose T.d_Run_do
theorem Tx.F_Run_do : FunD K "do" "Run.do" (defArgs s_Run_do) (defBody s_Run_do) (defScope s_Run_do) [] [] (He.ma K (He.ga K "Run") "do") T.fd_Run_do := Classical.choose_spec T.d_Run_do
theorem Tx.k_Run_do : PySem.W.keepIn K (.ref (He.ma K (He.ga K "Run") "do")) = true := T.F_Run_do.kp
theorem Tx.bd_Run_do : Binds K T.fd_Run_do ["self", "at", "frame"] [] := T.F_Run_do.bindsN fun _ _ _ _ _ _ us hl => match us, hl with | [_, _, _], _ => rfl
abbrev Fn_Run_do (P : Program) (w : World) (base : Heap) (CX : CXT) (k : Nat) (sp : Sp) : Prop := FnOk P w K mg base CX k (He.ma K (He.ga K "Run") "do") T.fd_Run_do ["self", "at", "frame"] sp
noncomputable def Tx.fd_Run_steps : FuncData := Classical.choose T.d_Run_steps
theorem Tx.F_Run_steps : FunD K "steps" "Run.steps" (defArgs s_Run_steps) (defBody s_Run_steps) (defScope s_Run_steps) [] [] (He.ma K (He.ga K "Run") "steps") T.fd_Run_steps := Classical.choose_spec T.d_Run_steps
theorem Tx.k_Run_steps : PySem.W.keepIn K (.ref (He.ma K (He.ga K "Run") "steps")) = true := T.F_Run_steps.kp
theorem Tx.bd_Run_steps : Binds K T.fd_Run_steps ["self", "body", "frame"] [] := T.F_Run_steps.bindsN fun _ _ _ _ _ _ us hl => match us, hl with | [_, _, _], _ => rfl
abbrev Fn_Run_steps (P : Program) (w : World) (base : Heap) (CX : CXT) (k : Nat) (sp : Sp) : Prop := FnOk P w K mg base CX k (He.ma K (He.ga K "Run") "steps") T.fd_Run_steps ["self", "body", "frame"] sp
noncomputable def Tx.fd_Run_put : FuncData := Classical.choose T.d_Run_put
theorem Tx.F_Run_put : FunD K "put" "Run.put" (defArgs s_Run_put) (defBody s_Run_put) (defScope s_Run_put) [] [] (He.ma K (He.ga K "Run") "put") T.fd_Run_put := Classical.choose_spec T.d_Run_put
theorem Tx.k_Run_put : PySem.W.keepIn K (.ref (He.ma K (He.ga K "Run") "put")) = true := T.F_Run_put.kp
theorem Tx.bd_Run_put : Binds K T.fd_Run_put ["self", "thing", "number", "frame"] [] := T.F_Run_put.bindsN fun _ _ _ _ _ _ us hl => match us, hl with | [_, _, _, _], _ => rfl
abbrev Fn_Run_put (P : Program) (w : World) (base : Heap) (CX : CXT) (k : Nat) (sp : Sp) : Prop := FnOk P w K mg base CX k (He.ma K (He.ga K "Run") "put") T.fd_Run_put ["self", "thing", "number", "frame"] sp
noncomputable def Tx.fd_Run_call : FuncData := Classical.choose T.d_Run_call
theorem Tx.F_Run_call : FunD K "call" "Run.call" (defArgs s_Run_call) (defBody s_Run_call) (defScope s_Run_call) [] [] (He.ma K (He.ga K "Run") "call") T.fd_Run_call := Classical.choose_spec T.d_Run_call
theorem Tx.k_Run_call : PySem.W.keepIn K (.ref (He.ma K (He.ga K "Run") "call")) = true := T.F_Run_call.kp
theorem Tx.bd_Run_call : Binds K T.fd_Run_call ["self", "at", "things", "frame"] [] := T.F_Run_call.bindsN fun _ _ _ _ _ _ us hl => match us, hl with | [_, _, _, _], _ => rfl
abbrev Fn_Run_call (P : Program) (w : World) (base : Heap) (CX : CXT) (k : Nat) (sp : Sp) : Prop := FnOk P w K mg base CX k (He.ma K (He.ga K "Run") "call") T.fd_Run_call ["self", "at", "things", "frame"] sp
noncomputable def Tx.fd_out_of : FuncData := Classical.choose T.d_out_of
theorem Tx.F_out_of : FunD K "out_of" "out_of" (defArgs s_out_of) (defBody s_out_of) (defScope s_out_of) [] [] (He.ga K "out_of") T.fd_out_of := Classical.choose_spec T.d_out_of
theorem Tx.k_out_of : PySem.W.keepIn K (.ref (He.ga K "out_of")) = true := T.F_out_of.kp
theorem Tx.bd_out_of : Binds K T.fd_out_of ["program", "ways", "cells"] [] := T.F_out_of.bindsN fun _ _ _ _ _ _ us hl => match us, hl with | [_, _, _], _ => rfl
abbrev Fn_out_of (P : Program) (w : World) (base : Heap) (CX : CXT) (k : Nat) (sp : Sp) : Prop := FnOk P w K mg base CX k (He.ga K "out_of") T.fd_out_of ["program", "ways", "cells"] sp
noncomputable def Tx.fd_all_cells : FuncData := Classical.choose T.d_all_cells
theorem Tx.F_all_cells : FunD K "all_cells" "all_cells" (defArgs s_all_cells) (defBody s_all_cells) (defScope s_all_cells) [] [] (He.ga K "all_cells") T.fd_all_cells := Classical.choose_spec T.d_all_cells
theorem Tx.k_all_cells : PySem.W.keepIn K (.ref (He.ga K "all_cells")) = true := T.F_all_cells.kp
theorem Tx.bd_all_cells : Binds K T.fd_all_cells [] [] := T.F_all_cells.bindsN fun _ _ _ _ _ _ us hl => match us, hl with | [], _ => rfl
abbrev Fn_all_cells (P : Program) (w : World) (base : Heap) (CX : CXT) (k : Nat) (sp : Sp) : Prop := FnOk P w K mg base CX k (He.ga K "all_cells") T.fd_all_cells [] sp
noncomputable def Tx.fd_parted : FuncData := Classical.choose T.d_parted
theorem Tx.F_parted : FunD K "parted" "parted" (defArgs s_parted) (defBody s_parted) (defScope s_parted) [] [] (He.ga K "parted") T.fd_parted := Classical.choose_spec T.d_parted
theorem Tx.k_parted : PySem.W.keepIn K (.ref (He.ga K "parted")) = true := T.F_parted.kp
theorem Tx.bd_parted : Binds K T.fd_parted ["program", "one", "other"] [] := T.F_parted.bindsN fun _ _ _ _ _ _ us hl => match us, hl with | [_, _, _], _ => rfl
abbrev Fn_parted (P : Program) (w : World) (base : Heap) (CX : CXT) (k : Nat) (sp : Sp) : Prop := FnOk P w K mg base CX k (He.ga K "parted") T.fd_parted ["program", "one", "other"] sp
noncomputable def Tx.fd_mixed : FuncData := Classical.choose T.d_mixed
theorem Tx.F_mixed : FunD K "mixed" "mixed" (defArgs s_mixed) (defBody s_mixed) (defScope s_mixed) [] [] (He.ga K "mixed") T.fd_mixed := Classical.choose_spec T.d_mixed
theorem Tx.k_mixed : PySem.W.keepIn K (.ref (He.ga K "mixed")) = true := T.F_mixed.kp
theorem Tx.bd_mixed : Binds K T.fd_mixed ["program", "ways"] [] := T.F_mixed.bindsN fun _ _ _ _ _ _ us hl => match us, hl with | [_, _], _ => rfl
abbrev Fn_mixed (P : Program) (w : World) (base : Heap) (CX : CXT) (k : Nat) (sp : Sp) : Prop := FnOk P w K mg base CX k (He.ga K "mixed") T.fd_mixed ["program", "ways"] sp
noncomputable def Tx.fd_sets : FuncData := Classical.choose T.d_sets
theorem Tx.F_sets : FunD K "sets" "sets" (defArgs s_sets) (defBody s_sets) (defScope s_sets) [] [] (He.ga K "sets") T.fd_sets := Classical.choose_spec T.d_sets
theorem Tx.k_sets : PySem.W.keepIn K (.ref (He.ga K "sets")) = true := T.F_sets.kp
theorem Tx.bd_sets : Binds K T.fd_sets ["body", "param", "ways", "known"] [] := T.F_sets.bindsN fun _ _ _ _ _ _ us hl => match us, hl with | [_, _, _, _], _ => rfl
abbrev Fn_sets (P : Program) (w : World) (base : Heap) (CX : CXT) (k : Nat) (sp : Sp) : Prop := FnOk P w K mg base CX k (He.ga K "sets") T.fd_sets ["body", "param", "ways", "known"] sp
noncomputable def Tx.fd_may_set : FuncData := Classical.choose T.d_may_set
theorem Tx.F_may_set : FunD K "may_set" "may_set" (defArgs s_may_set) (defBody s_may_set) (defScope s_may_set) [] [] (He.ga K "may_set") T.fd_may_set := Classical.choose_spec T.d_may_set
theorem Tx.k_may_set : PySem.W.keepIn K (.ref (He.ga K "may_set")) = true := T.F_may_set.kp
theorem Tx.bd_may_set : Binds K T.fd_may_set ["program", "ways"] [] := T.F_may_set.bindsN fun _ _ _ _ _ _ us hl => match us, hl with | [_, _], _ => rfl
abbrev Fn_may_set (P : Program) (w : World) (base : Heap) (CX : CXT) (k : Nat) (sp : Sp) : Prop := FnOk P w K mg base CX k (He.ga K "may_set") T.fd_may_set ["program", "ways"] sp
noncomputable def Tx.fd__law_taken : FuncData := Classical.choose T.d__law_taken
theorem Tx.F__law_taken : FunD K "_law_taken" "_law_taken" (defArgs s__law_taken) (defBody s__law_taken) (defScope s__law_taken) [] [] (He.ga K "_law_taken") T.fd__law_taken := Classical.choose_spec T.d__law_taken
theorem Tx.k__law_taken : PySem.W.keepIn K (.ref (He.ga K "_law_taken")) = true := T.F__law_taken.kp
theorem Tx.bd__law_taken : Binds K T.fd__law_taken ["_law_row", "_law_many"] [] := T.F__law_taken.bindsN fun _ _ _ _ _ _ us hl => match us, hl with | [_, _], _ => rfl
abbrev Fn__law_taken (P : Program) (w : World) (base : Heap) (CX : CXT) (k : Nat) (sp : Sp) : Prop := FnOk P w K mg base CX k (He.ga K "_law_taken") T.fd__law_taken ["_law_row", "_law_many"] sp
noncomputable def Tx.fd__law_alike : FuncData := Classical.choose T.d__law_alike
theorem Tx.F__law_alike : FunD K "_law_alike" "_law_alike" (defArgs s__law_alike) (defBody s__law_alike) (defScope s__law_alike) [] [] (He.ga K "_law_alike") T.fd__law_alike := Classical.choose_spec T.d__law_alike
theorem Tx.k__law_alike : PySem.W.keepIn K (.ref (He.ga K "_law_alike")) = true := T.F__law_alike.kp
theorem Tx.bd__law_alike : Binds K T.fd__law_alike ["_law_found", "_law_due"] [] := T.F__law_alike.bindsN fun _ _ _ _ _ _ us hl => match us, hl with | [_, _], _ => rfl
abbrev Fn__law_alike (P : Program) (w : World) (base : Heap) (CX : CXT) (k : Nat) (sp : Sp) : Prop := FnOk P w K mg base CX k (He.ga K "_law_alike") T.fd__law_alike ["_law_found", "_law_due"] sp
noncomputable def Tx.fd__law_thing : FuncData := Classical.choose T.d__law_thing
theorem Tx.F__law_thing : FunD K "_law_thing" "_law_thing" (defArgs s__law_thing) (defBody s__law_thing) (defScope s__law_thing) [] [] (He.ga K "_law_thing") T.fd__law_thing := Classical.choose_spec T.d__law_thing
theorem Tx.k__law_thing : PySem.W.keepIn K (.ref (He.ga K "_law_thing")) = true := T.F__law_thing.kp
theorem Tx.bd__law_thing : Binds K T.fd__law_thing ["_law_row", "_law_sizes", "_law_within"] [] := T.F__law_thing.bindsN fun _ _ _ _ _ _ us hl => match us, hl with | [_, _, _], _ => rfl
abbrev Fn__law_thing (P : Program) (w : World) (base : Heap) (CX : CXT) (k : Nat) (sp : Sp) : Prop := FnOk P w K mg base CX k (He.ga K "_law_thing") T.fd__law_thing ["_law_row", "_law_sizes", "_law_within"] sp
noncomputable def Tx.fd__law_place : FuncData := Classical.choose T.d__law_place
theorem Tx.F__law_place : FunD K "_law_place" "_law_place" (defArgs s__law_place) (defBody s__law_place) (defScope s__law_place) [] [] (He.ga K "_law_place") T.fd__law_place := Classical.choose_spec T.d__law_place
theorem Tx.k__law_place : PySem.W.keepIn K (.ref (He.ga K "_law_place")) = true := T.F__law_place.kp
theorem Tx.bd__law_place : Binds K T.fd__law_place ["_law_row", "_law_sizes", "_law_within"] [] := T.F__law_place.bindsN fun _ _ _ _ _ _ us hl => match us, hl with | [_, _, _], _ => rfl
abbrev Fn__law_place (P : Program) (w : World) (base : Heap) (CX : CXT) (k : Nat) (sp : Sp) : Prop := FnOk P w K mg base CX k (He.ga K "_law_place") T.fd__law_place ["_law_row", "_law_sizes", "_law_within"] sp
noncomputable def Tx.fd__law_step : FuncData := Classical.choose T.d__law_step
theorem Tx.F__law_step : FunD K "_law_step" "_law_step" (defArgs s__law_step) (defBody s__law_step) (defScope s__law_step) [] [] (He.ga K "_law_step") T.fd__law_step := Classical.choose_spec T.d__law_step
theorem Tx.k__law_step : PySem.W.keepIn K (.ref (He.ga K "_law_step")) = true := T.F__law_step.kp
theorem Tx.bd__law_step : Binds K T.fd__law_step ["_law_row", "_law_shapes", "_law_at", "_law_left", "_law_within"] [] := T.F__law_step.bindsN fun _ _ _ _ _ _ us hl => match us, hl with | [_, _, _, _, _], _ => rfl
abbrev Fn__law_step (P : Program) (w : World) (base : Heap) (CX : CXT) (k : Nat) (sp : Sp) : Prop := FnOk P w K mg base CX k (He.ga K "_law_step") T.fd__law_step ["_law_row", "_law_shapes", "_law_at", "_law_left", "_law_within"] sp
noncomputable def Tx.fd__law_body : FuncData := Classical.choose T.d__law_body
theorem Tx.F__law_body : FunD K "_law_body" "_law_body" (defArgs s__law_body) (defBody s__law_body) (defScope s__law_body) [] [] (He.ga K "_law_body") T.fd__law_body := Classical.choose_spec T.d__law_body
theorem Tx.k__law_body : PySem.W.keepIn K (.ref (He.ga K "_law_body")) = true := T.F__law_body.kp
theorem Tx.bd__law_body : Binds K T.fd__law_body ["_law_row", "_law_shapes", "_law_at", "_law_left", "_law_within"] [] := T.F__law_body.bindsN fun _ _ _ _ _ _ us hl => match us, hl with | [_, _, _, _, _], _ => rfl
abbrev Fn__law_body (P : Program) (w : World) (base : Heap) (CX : CXT) (k : Nat) (sp : Sp) : Prop := FnOk P w K mg base CX k (He.ga K "_law_body") T.fd__law_body ["_law_row", "_law_shapes", "_law_at", "_law_left", "_law_within"] sp
noncomputable def Tx.fd__law_program : FuncData := Classical.choose T.d__law_program
theorem Tx.F__law_program : FunD K "_law_program" "_law_program" (defArgs s__law_program) (defBody s__law_program) (defScope s__law_program) [] [] (He.ga K "_law_program") T.fd__law_program := Classical.choose_spec T.d__law_program
theorem Tx.k__law_program : PySem.W.keepIn K (.ref (He.ga K "_law_program")) = true := T.F__law_program.kp
theorem Tx.bd__law_program : Binds K T.fd__law_program ["_law_row", "_law_most"] [] := T.F__law_program.bindsN fun _ _ _ _ _ _ us hl => match us, hl with | [_, _], _ => rfl
abbrev Fn__law_program (P : Program) (w : World) (base : Heap) (CX : CXT) (k : Nat) (sp : Sp) : Prop := FnOk P w K mg base CX k (He.ga K "_law_program") T.fd__law_program ["_law_row", "_law_most"] sp
noncomputable def Tx.fd__law_ways : FuncData := Classical.choose T.d__law_ways
theorem Tx.F__law_ways : FunD K "_law_ways" "_law_ways" (defArgs s__law_ways) (defBody s__law_ways) (defScope s__law_ways) [] [] (He.ga K "_law_ways") T.fd__law_ways := Classical.choose_spec T.d__law_ways
theorem Tx.k__law_ways : PySem.W.keepIn K (.ref (He.ga K "_law_ways")) = true := T.F__law_ways.kp
theorem Tx.bd__law_ways : Binds K T.fd__law_ways ["_law_row", "_law_program_here", "_law_some"] [] := T.F__law_ways.bindsN fun _ _ _ _ _ _ us hl => match us, hl with | [_, _, _], _ => rfl
abbrev Fn__law_ways (P : Program) (w : World) (base : Heap) (CX : CXT) (k : Nat) (sp : Sp) : Prop := FnOk P w K mg base CX k (He.ga K "_law_ways") T.fd__law_ways ["_law_row", "_law_program_here", "_law_some"] sp
noncomputable def Tx.fd__law_cells : FuncData := Classical.choose T.d__law_cells
theorem Tx.F__law_cells : FunD K "_law_cells" "_law_cells" (defArgs s__law_cells) (defBody s__law_cells) (defScope s__law_cells) [] [] (He.ga K "_law_cells") T.fd__law_cells := Classical.choose_spec T.d__law_cells
theorem Tx.k__law_cells : PySem.W.keepIn K (.ref (He.ga K "_law_cells")) = true := T.F__law_cells.kp
theorem Tx.bd__law_cells : Binds K T.fd__law_cells [] [] := T.F__law_cells.bindsN fun _ _ _ _ _ _ us hl => match us, hl with | [], _ => rfl
abbrev Fn__law_cells (P : Program) (w : World) (base : Heap) (CX : CXT) (k : Nat) (sp : Sp) : Prop := FnOk P w K mg base CX k (He.ga K "_law_cells") T.fd__law_cells [] sp
noncomputable def Tx.fd__law_begun : FuncData := Classical.choose T.d__law_begun
theorem Tx.F__law_begun : FunD K "_law_begun" "_law_begun" (defArgs s__law_begun) (defBody s__law_begun) (defScope s__law_begun) [] [] (He.ga K "_law_begun") T.fd__law_begun := Classical.choose_spec T.d__law_begun
theorem Tx.k__law_begun : PySem.W.keepIn K (.ref (He.ga K "_law_begun")) = true := T.F__law_begun.kp
theorem Tx.bd__law_begun : Binds K T.fd__law_begun ["_law_program_here", "_law_ways_here", "_law_cells_here"] [] := T.F__law_begun.bindsN fun _ _ _ _ _ _ us hl => match us, hl with | [_, _, _], _ => rfl
abbrev Fn__law_begun (P : Program) (w : World) (base : Heap) (CX : CXT) (k : Nat) (sp : Sp) : Prop := FnOk P w K mg base CX k (He.ga K "_law_begun") T.fd__law_begun ["_law_program_here", "_law_ways_here", "_law_cells_here"] sp
noncomputable def Tx.fd__law_new : FuncData := Classical.choose T.d__law_new
theorem Tx.F__law_new : FunD K "_law_new" "_law_new" (defArgs s__law_new) (defBody s__law_new) (defScope s__law_new) [] [] (He.ga K "_law_new") T.fd__law_new := Classical.choose_spec T.d__law_new
theorem Tx.k__law_new : PySem.W.keepIn K (.ref (He.ga K "_law_new")) = true := T.F__law_new.kp
theorem Tx.bd__law_new : Binds K T.fd__law_new ["_law_s", "_law_number"] [] := T.F__law_new.bindsN fun _ _ _ _ _ _ us hl => match us, hl with | [_, _], _ => rfl
abbrev Fn__law_new (P : Program) (w : World) (base : Heap) (CX : CXT) (k : Nat) (sp : Sp) : Prop := FnOk P w K mg base CX k (He.ga K "_law_new") T.fd__law_new ["_law_s", "_law_number"] sp
noncomputable def Tx.fd__law_meets : FuncData := Classical.choose T.d__law_meets
theorem Tx.F__law_meets : FunD K "_law_meets" "_law_meets" (defArgs s__law_meets) (defBody s__law_meets) (defScope s__law_meets) [] [] (He.ga K "_law_meets") T.fd__law_meets := Classical.choose_spec T.d__law_meets
theorem Tx.k__law_meets : PySem.W.keepIn K (.ref (He.ga K "_law_meets")) = true := T.F__law_meets.kp
theorem Tx.bd__law_meets : Binds K T.fd__law_meets ["_law_s", "_law_road_here"] [] := T.F__law_meets.bindsN fun _ _ _ _ _ _ us hl => match us, hl with | [_, _], _ => rfl
abbrev Fn__law_meets (P : Program) (w : World) (base : Heap) (CX : CXT) (k : Nat) (sp : Sp) : Prop := FnOk P w K mg base CX k (He.ga K "_law_meets") T.fd__law_meets ["_law_s", "_law_road_here"] sp
noncomputable def Tx.fd__law_road : FuncData := Classical.choose T.d__law_road
theorem Tx.F__law_road : FunD K "_law_road" "_law_road" (defArgs s__law_road) (defBody s__law_road) (defScope s__law_road) [] [] (He.ga K "_law_road") T.fd__law_road := Classical.choose_spec T.d__law_road
theorem Tx.k__law_road : PySem.W.keepIn K (.ref (He.ga K "_law_road")) = true := T.F__law_road.kp
theorem Tx.bd__law_road : Binds K T.fd__law_road ["_law_s", "_law_thing_here", "_law_frame"] [] := T.F__law_road.bindsN fun _ _ _ _ _ _ us hl => match us, hl with | [_, _, _], _ => rfl
abbrev Fn__law_road (P : Program) (w : World) (base : Heap) (CX : CXT) (k : Nat) (sp : Sp) : Prop := FnOk P w K mg base CX k (He.ga K "_law_road") T.fd__law_road ["_law_s", "_law_thing_here", "_law_frame"] sp
noncomputable def Tx.fd__law_worth : FuncData := Classical.choose T.d__law_worth
theorem Tx.F__law_worth : FunD K "_law_worth" "_law_worth" (defArgs s__law_worth) (defBody s__law_worth) (defScope s__law_worth) [] [] (He.ga K "_law_worth") T.fd__law_worth := Classical.choose_spec T.d__law_worth
theorem Tx.k__law_worth : PySem.W.keepIn K (.ref (He.ga K "_law_worth")) = true := T.F__law_worth.kp
theorem Tx.bd__law_worth : Binds K T.fd__law_worth ["_law_s", "_law_thing_here", "_law_frame"] [] := T.F__law_worth.bindsN fun _ _ _ _ _ _ us hl => match us, hl with | [_, _, _], _ => rfl
abbrev Fn__law_worth (P : Program) (w : World) (base : Heap) (CX : CXT) (k : Nat) (sp : Sp) : Prop := FnOk P w K mg base CX k (He.ga K "_law_worth") T.fd__law_worth ["_law_s", "_law_thing_here", "_law_frame"] sp
noncomputable def Tx.fd__law_handed : FuncData := Classical.choose T.d__law_handed
theorem Tx.F__law_handed : FunD K "_law_handed" "_law_handed" (defArgs s__law_handed) (defBody s__law_handed) (defScope s__law_handed) [] [] (He.ga K "_law_handed") T.fd__law_handed := Classical.choose_spec T.d__law_handed
theorem Tx.k__law_handed : PySem.W.keepIn K (.ref (He.ga K "_law_handed")) = true := T.F__law_handed.kp
theorem Tx.bd__law_handed : Binds K T.fd__law_handed ["_law_s", "_law_thing_here", "_law_way", "_law_frame"] [] := T.F__law_handed.bindsN fun _ _ _ _ _ _ us hl => match us, hl with | [_, _, _, _], _ => rfl
abbrev Fn__law_handed (P : Program) (w : World) (base : Heap) (CX : CXT) (k : Nat) (sp : Sp) : Prop := FnOk P w K mg base CX k (He.ga K "_law_handed") T.fd__law_handed ["_law_s", "_law_thing_here", "_law_way", "_law_frame"] sp
noncomputable def Tx.fd__law_does : FuncData := Classical.choose T.d__law_does
theorem Tx.F__law_does : FunD K "_law_does" "_law_does" (defArgs s__law_does) (defBody s__law_does) (defScope s__law_does) [] [] (He.ga K "_law_does") T.fd__law_does := Classical.choose_spec T.d__law_does
theorem Tx.k__law_does : PySem.W.keepIn K (.ref (He.ga K "_law_does")) = true := T.F__law_does.kp
theorem Tx.bd__law_does : Binds K T.fd__law_does ["_law_s", "_law_at", "_law_handed_here"] [] := T.F__law_does.bindsN fun _ _ _ _ _ _ us hl => match us, hl with | [_, _, _], _ => rfl
abbrev Fn__law_does (P : Program) (w : World) (base : Heap) (CX : CXT) (k : Nat) (sp : Sp) : Prop := FnOk P w K mg base CX k (He.ga K "_law_does") T.fd__law_does ["_law_s", "_law_at", "_law_handed_here"] sp
noncomputable def Tx.fd__law_goes : FuncData := Classical.choose T.d__law_goes
theorem Tx.F__law_goes : FunD K "_law_goes" "_law_goes" (defArgs s__law_goes) (defBody s__law_goes) (defScope s__law_goes) [] [] (He.ga K "_law_goes") T.fd__law_goes := Classical.choose_spec T.d__law_goes
theorem Tx.k__law_goes : PySem.W.keepIn K (.ref (He.ga K "_law_goes")) = true := T.F__law_goes.kp
theorem Tx.bd__law_goes : Binds K T.fd__law_goes ["_law_s", "_law_body_here", "_law_frame"] [] := T.F__law_goes.bindsN fun _ _ _ _ _ _ us hl => match us, hl with | [_, _, _], _ => rfl
abbrev Fn__law_goes (P : Program) (w : World) (base : Heap) (CX : CXT) (k : Nat) (sp : Sp) : Prop := FnOk P w K mg base CX k (He.ga K "_law_goes") T.fd__law_goes ["_law_s", "_law_body_here", "_law_frame"] sp
noncomputable def Tx.fd__law_ran : FuncData := Classical.choose T.d__law_ran
theorem Tx.F__law_ran : FunD K "_law_ran" "_law_ran" (defArgs s__law_ran) (defBody s__law_ran) (defScope s__law_ran) [] [] (He.ga K "_law_ran") T.fd__law_ran := Classical.choose_spec T.d__law_ran
theorem Tx.k__law_ran : PySem.W.keepIn K (.ref (He.ga K "_law_ran")) = true := T.F__law_ran.kp
theorem Tx.bd__law_ran : Binds K T.fd__law_ran ["_law_program_here", "_law_ways_here", "_law_cells_here"] [] := T.F__law_ran.bindsN fun _ _ _ _ _ _ us hl => match us, hl with | [_, _, _], _ => rfl
abbrev Fn__law_ran (P : Program) (w : World) (base : Heap) (CX : CXT) (k : Nat) (sp : Sp) : Prop := FnOk P w K mg base CX k (He.ga K "_law_ran") T.fd__law_ran ["_law_program_here", "_law_ways_here", "_law_cells_here"] sp
noncomputable def Tx.fd__law_out : FuncData := Classical.choose T.d__law_out
theorem Tx.F__law_out : FunD K "_law_out" "_law_out" (defArgs s__law_out) (defBody s__law_out) (defScope s__law_out) [] [] (He.ga K "_law_out") T.fd__law_out := Classical.choose_spec T.d__law_out
theorem Tx.k__law_out : PySem.W.keepIn K (.ref (He.ga K "_law_out")) = true := T.F__law_out.kp
theorem Tx.bd__law_out : Binds K T.fd__law_out ["_law_program_here", "_law_ways_here", "_law_cells_here"] [] := T.F__law_out.bindsN fun _ _ _ _ _ _ us hl => match us, hl with | [_, _, _], _ => rfl
abbrev Fn__law_out (P : Program) (w : World) (base : Heap) (CX : CXT) (k : Nat) (sp : Sp) : Prop := FnOk P w K mg base CX k (He.ga K "_law_out") T.fd__law_out ["_law_program_here", "_law_ways_here", "_law_cells_here"] sp
noncomputable def Tx.fd__law_changed : FuncData := Classical.choose T.d__law_changed
theorem Tx.F__law_changed : FunD K "_law_changed" "_law_changed" (defArgs s__law_changed) (defBody s__law_changed) (defScope s__law_changed) [] [] (He.ga K "_law_changed") T.fd__law_changed := Classical.choose_spec T.d__law_changed
theorem Tx.k__law_changed : PySem.W.keepIn K (.ref (He.ga K "_law_changed")) = true := T.F__law_changed.kp
theorem Tx.bd__law_changed : Binds K T.fd__law_changed ["_law_row", "_law_program_here", "_law_ways_here", "_law_may"] [] := T.F__law_changed.bindsN fun _ _ _ _ _ _ us hl => match us, hl with | [_, _, _, _], _ => rfl
abbrev Fn__law_changed (P : Program) (w : World) (base : Heap) (CX : CXT) (k : Nat) (sp : Sp) : Prop := FnOk P w K mg base CX k (He.ga K "_law_changed") T.fd__law_changed ["_law_row", "_law_program_here", "_law_ways_here", "_law_may"] sp
noncomputable def Tx.fd_law : FuncData := Classical.choose T.d_law
theorem Tx.F_law : FunD K "law" "law" (defArgs s_law) (defBody s_law) (defScope s_law) [] [] (He.ga K "law") T.fd_law := Classical.choose_spec T.d_law
theorem Tx.k_law : PySem.W.keepIn K (.ref (He.ga K "law")) = true := T.F_law.kp
theorem Tx.bd_law : Binds K T.fd_law ["_law_script"] [] := T.F_law.bindsN fun _ _ _ _ _ _ us hl => match us, hl with | [_], _ => rfl
abbrev Fn_law (P : Program) (w : World) (base : Heap) (CX : CXT) (k : Nat) (sp : Sp) : Prop := FnOk P w K mg base CX k (He.ga K "law") T.fd_law ["_law_script"] sp
end
end Hw
set_option maxRecDepth 100000
set_option maxHeartbeats 4000000
/-! PC1: the program's own look at numbers and things -/
namespace Hw
open PySem PySem.Spec PyProof.Rows L2 Evl
local macro_rules | `(tactic| walk_at "dd") => `(tactic| first | rfl | decide | (simp; done) | omega)
local macro_rules | `(tactic| walk_at "td") => `(tactic| first | assumption | exact Td.int _ | exact Td.bl _ | exact Td.str _ | exact Td.non | exact Td.tup (by assumption) (by assumption))
local macro_rules | `(tactic| walk_at "ev") => `(tactic| first
  | exact ed_ci | exact ed_cs | exact ed_cb | exact ed_cn
  | (apply ed_cg; assumption)
  | (apply ed_var; (rfl); (walk_at "td"))
  | (apply ed_ixT; (walk_at "ev"); (walk_at "ev"); (first | rfl | assumption))
  | (apply ed_rowI; (rfl); (assumption); (walk_at "ev"); (rfl))
  | (apply ed_ixL; (apply EvDL.rd; walk_at "edl"); (walk_at "ev"); (rfl))
  | (apply ed_intb; (walk_at "ev"))
  | (apply ed_len; walk_at "ev")
  | (apply ed_lenV; (apply ev_rowR; (rfl); (assumption); (walk_at "ev"); (rfl)); (assumption))
  | (apply ed_Ii; (walk_at "ev"); (walk_at "ev"); (walk_at "cc"))
  | (apply ed_isi; (walk_at "ev"); (rfl))
  | (apply ed_I0i; (walk_at "ev"); (walk_at "ev"))
  | (apply ed_I0b; (walk_at "ev"); (walk_at "ev"))
  | (apply ed_eqi; (walk_at "ev"); (walk_at "ev"))
  | (apply ed_nei; (walk_at "ev"); (walk_at "ev"))
  | (apply ed_andF; walk_at "ev")
  | (apply ed_andV; (walk_at "ev"); (intro _; walk_at "ev"))
  | (apply ed_orT; walk_at "ev")
  | (apply ed_orV; (walk_at "ev"); (intro _; walk_at "ev"))
  | (apply ed_notT; walk_at "ev")
  | (apply ed_notF; walk_at "ev")
  | (apply ed_notV; walk_at "ev")
  | (apply ed_chain; (walk_at "ev"); (walk_at "ev"); (intro _; walk_at "ev"))
  | (apply ed_eqS; (walk_at "ev"); (walk_at "ev"); (walk_at "bb"); (walk_at "bb"))
  | (apply ed_neS; (walk_at "ev"); (walk_at "ev"); (walk_at "bb"); (walk_at "bb"))
  | (apply ed_inT; (walk_at "ev"); (walk_at "ev"); (rfl); (rfl))
  | (apply ed_niT; (walk_at "ev"); (walk_at "ev"); (rfl); (rfl))
  | (apply ed_tup; (walk_at "eva"); (walk_at "bb"))
  | (apply ed_sl; (walk_at "ev"); (walk_at "evo"); (walk_at "evo"))
  | (apply ed_eqN; (apply EvDL.rd; walk_at "edl"); (walk_at "edl"); (walk_at "bb"))
  | (apply ed_neN; (apply EvDL.rd; walk_at "edl"); (walk_at "edl"); (walk_at "bb"))
  | (apply ed_ixL; (apply edr_var; (rfl); (assumption); (assumption)); (walk_at "ev"); (first | rfl | assumption))
  | (apply ed_lenL; (apply edr_var; (rfl); (assumption); (assumption)))
  | (apply ed_call; (walk_at "eva"); (walk_at "post")))
local macro_rules | `(tactic| walk_at "edl") => `(tactic| first
  | assumption
  | (apply edl_lst; (walk_at "eva"); (walk_at "bb")))
local macro_rules | `(tactic| walk_at "eva") => `(tactic| first
  | exact eda_nil
  | (apply eda_cons; (walk_at "ev"); (walk_at "eva")))
local macro_rules | `(tactic| walk_at "evo") => `(tactic| first
  | exact eok_none
  | (apply eok_some; walk_at "ev"))
local macro_rules | `(tactic| walk_at "bb") => `(tactic| first | rfl | assumption | (simp; done) | (simp; omega) | decide +kernel)
local macro_rules | `(tactic| walk_at "et") => `(tactic| first
  | exact tk_yes
  | (apply tk_andF; walk_at "et")
  | (apply tk_and; (walk_at "et"); (intro _; walk_at "et"))
  | (apply tk_orT; walk_at "et")
  | (apply tk_or; (walk_at "et"); (intro _; walk_at "et"))
  | (apply tk_notT; walk_at "et")
  | (apply tk_notF; walk_at "et")
  | (apply tk_not; walk_at "et")
  | (apply tk_v; walk_at "ev")
  | (apply tk_vB; walk_at "ev"))
local macro_rules | `(tactic| walk_at "if") => `(tactic| first
  | (apply pst_whenF; (walk_at "et"); (walk_at "bb"))
  | (apply pst_whenT; (walk_at "et"); (walk_at "bb")))
local macro_rules | `(tactic| walk_at "post") => `(tactic| first | assumption | exact ⟨_, _, rfl, rfl⟩ | exact ⟨_, _, _, _, rfl, by omega, by omega, rfl⟩ | exact ⟨_, _, _, 0, rfl, by omega, by omega, rfl⟩)
local macro_rules | `(tactic| walk_at "cc") => `(tactic| first | assumption | decide | omega | (refine ⟨?_, ?_⟩ <;> first | decide | omega) | (exact Or.inl (by constructor <;> omega)))

section
variable {P : Program} {w : World} {K : PySem.W.Frag} {mg : Str → Option Value} {base : Heap} (T : Tx K mg)
include T
def isNumD : PyData → Int → Bool
  | .int i, b => decide (0 ≤ i) && decide (i < b)
  | _, _ => false
def pNumber (ds : List PyData) (d : PyData) : Prop := ∃ x b, ds = [x, .int b] ∧ d = .bool (isNumD x b)
theorem ok_is_number : Fn_is_number T P w base CX0 1 (spF K pNumber) := by
  refine T.F_is_number.ok sc_is_number (spF_len fun ds d h => by obtain ⟨x, b, rfl, _⟩ := h; rfl) fun cdv A outer s H vs Q E hr h => ?_
  obtain ⟨ds, d, ht, ⟨x, b, rfl, rfl⟩, k⟩ := h
  obtain _ | ⟨t1, _ | ⟨t2, _ | _⟩⟩ := ht
  refine ⟨_, (pss_one (ps_ret (pe_and (pe_callB (kc_isi K) rfl T.b_isinstance (by decide +kernel) (pa_cons (pv 0) (pa_cons (pe_bltn (v := .ty "int") rfl T.b_int (by decide +kernel) rfl) pa_nil))) (pe_and (pe_not (pe_callB (kc_isi K) rfl T.b_isinstance (by decide +kernel) (pa_cons (pv 0) (pa_cons (pe_bltn (v := .ty "bool") rfl T.b_bool (by decide +kernel) rfl) pa_nil)))) (pe_one (pe_chain op_le op_lt pe_int (pv 0) (pv 1))))))), ?_⟩
  cases t2
  cases x with
  | list _ => cases t1
  | dict _ => cases t1
  | _ =>
    (try cases t1)
    refine sd_ret ?_ k
    apply ed_is
    · walk_at "ev"
    · first | rfl | simp [isNumD]
/-- is_thing: 6 - n within at most -/
def pThing (n : Nat) (ds : List PyData) (d : PyData) : Prop := ∃ (t : Th) (ps os w : Nat), ds = [encT t, .tuple [.int (ps : Int), .int (os : Int)], .int (w : Int)] ∧ w ≤ 5 ∧ 6 ≤ w + n ∧ d = .bool (okT ps os t w)
theorem ok_is_thing (GN : Fn_is_number T P w base CX0 1 (spF K pNumber)) : ∀ n : Nat, Fn_is_thing T P w base CX0 (n + 2) (spF K (pThing n)) := by
  intro n
  induction n with
  | zero => exact fn_vac fun vs H Q E ⟨ds, d, _, ⟨t, ps, os, w, _, h1, h2, _⟩, _⟩ => by omega
  | succ n ih =>
    have G_is_number := GN
    have G_is_thing := ih
    refine T.F_is_thing.ok sc_is_thing (spF_len fun ds d h => by obtain ⟨t, ps, os, w, rfl, _⟩ := h; rfl) fun cdv A outer s H vs Q E hr h => ?_
    obtain ⟨ds, d, ht, ⟨t, ps, os, w, rfl, hw5, hw, rfl⟩, k⟩ := h
    obtain _ | ⟨t1, _ | ⟨t2, _ | ⟨t3, _ | _⟩⟩⟩ := ht
    refine ⟨_, (pss_cons (ps_if (PW.pt (pw_or (pt_not (pt_val (pe_callB (kc_isi K) rfl T.b_isinstance (by decide +kernel) (pa_cons (pv 0) (pa_cons (pe_bltn (v := .ty "tuple") rfl T.b_tuple (by decide +kernel) rfl) pa_nil))))) (pw_or (pt_cmpR op_lt (pe_callB (kc_len K) rfl T.b_len PySem.boot_len (pa_cons (pv 0) pa_nil)) pe_int (nomark _)) (pw_or1 (pt_cmpR op_gt (pv 2) (pe_gint rfl T.g_MOST_WITHIN) (nomark _))))))
    (pss_one (ps_ret pe_bl))
    pss_nil)
  (pss_cons (ps_set (i := 3) sc_is_thing.nd rfl (Or.inl rfl) (pe_ix (kix_tup K) (pv 0) pe_int (fun _ _ => rfl)))
  (pss_cons (ps_if (pt_cmpR (kop_eq K hr.units) (pv 3) pe_str (nomark _))
    (pss_one (ps_ret (pe_and (pe_cmpR op_eq (pe_callB (kc_len K) rfl T.b_len PySem.boot_len (pa_cons (pv 0) pa_nil)) pe_int (nomark _)) (pe_and (pe_call G_is_thing (hr.mono (by omega)) (by rfl) T.g_is_thing T.k_is_thing T.bd_is_thing .nil pass0 (pa_cons (pe_ix (kix_tup K) (pv 0) pe_int (fun _ _ => rfl)) (pa_cons (pv 1) (pa_cons (pe_op op_add (pv 2) pe_int) pa_nil)))) (pe_one (pe_call G_is_thing (hr.mono (by omega)) (by rfl) T.g_is_thing T.k_is_thing T.bd_is_thing .nil pass0 (pa_cons (pe_ix (kix_tup K) (pv 0) pe_int (fun _ _ => rfl)) (pa_cons (pv 1) (pa_cons (pe_op op_add (pv 2) pe_int) pa_nil)))))))))
    pss_nil)
  (pss_cons (ps_if (pt_cmpR (kop_eq K hr.units) (pv 3) pe_str (nomark _))
    (pss_one (ps_ret (pe_and (pe_cmpR op_eq (pe_callB (kc_len K) rfl T.b_len PySem.boot_len (pa_cons (pv 0) pa_nil)) pe_int (nomark _)) (pe_one (pe_call G_is_thing (hr.mono (by omega)) (by rfl) T.g_is_thing T.k_is_thing T.bd_is_thing .nil pass0 (pa_cons (pe_ix (kix_tup K) (pv 0) pe_int (fun _ _ => rfl)) (pa_cons (pv 1) (pa_cons (pe_op op_add (pv 2) pe_int) pa_nil))))))))
    pss_nil)
  (pss_cons (ps_set (i := 4) sc_is_thing.nd rfl (Or.inl rfl) (pe_disp (pps_cons pe_str (pe_gint rfl T.g_NUMBERS) (pps_cons pe_str (pe_ix (kix_tup K) (pv 1) pe_int (fun _ _ => rfl)) (pps_cons pe_str (pe_ix (kix_tup K) (pv 1) pe_int (fun _ _ => rfl)) pps_nil))) (by rfl) (by rfl) (fun z => by cases z) (by decide)))
  (pss_one (ps_ret (pe_and (pe_cmpR (kop_in K) (pv 3) (pe_tup (pa_cons pe_str (pa_cons pe_str (pa_cons pe_str pa_nil)))) rfl) (pe_and (pe_cmpR op_eq (pe_callB (kc_len K) rfl T.b_len PySem.boot_len (pa_cons (pv 0) pa_nil)) pe_int (nomark _)) (pe_one (pe_call G_is_number (hr.mono (by omega)) (by rfl) T.g_is_number T.k_is_number T.bd_is_number .nil pass0 (pa_cons (pe_ix (kix_tup K) (pv 0) pe_int (fun _ _ => rfl)) (pa_cons (pe_dget (hu_of hr) (pv 4) (pv 3) (fun _ _ => rfl)) pa_nil))))))))))))), ?_⟩
    cases t3
    refine Pst.go (K := K) ?_
    by_cases h4 : w ≤ 4
    · cases t with
      | num m =>
        walk_at "if"
        apply pst_asg
        · walk_at "ev"
        intro v3 H1 e1 t5
        cases t5
        replace t1 := t1.ex e1
        replace t2 := t2.ex e1
        replace k := fun v H' (e : Ex H1 H') => k v H' (e1.trans e)
        clear e1
        walk_at "if"
        walk_at "if"
        apply pst_disp [(Sum.inr "num", .int 3), (Sum.inr "par", .int (ps : Int)), (Sum.inr "own", .int (os : Int))]
        · apply eps_cons
          · exact ev_c
          · exact ev_c
          · apply eps_cons
            · exact ev_c
            · refine EvD.iv (K := K) (i := _) ?_
              walk_at "ev"
            · apply eps_cons
              · exact ev_c
              · refine EvD.iv (K := K) (i := _) ?_
                walk_at "ev"
              · exact eps_nil
        · exact (by decide : 3 ≤ 15)
        intro p H2 hp e2 hD
        replace t1 := t1.ex e2
        replace t2 := t2.ex e2
        replace k := fun v H' (e : Ex H2 H') => k v H' (e2.trans e)
        apply pst_ret _ k
        apply ed_is
        · apply ed_andV
          · walk_at "ev"
          intro _
          apply ed_andV
          · walk_at "ev"
          intro _
          apply ed_call
          · apply eda_cons
            · walk_at "ev"
            · apply eda_cons
              · apply ed_i
                apply ev_dget (p := p) (s := "num")
                · rfl
                · exact hD
                · refine EvD.sv (K := K) ?_
                  walk_at "ev"
                · rfl
              · exact eda_nil
          · exact ⟨_, _, rfl, rfl⟩
        · simp [okT, isNumD, h4] <;> omega
      | own m =>
        walk_at "if"
        apply pst_asg
        · walk_at "ev"
        intro v3 H1 e1 t5
        cases t5
        replace t1 := t1.ex e1
        replace t2 := t2.ex e1
        replace k := fun v H' (e : Ex H1 H') => k v H' (e1.trans e)
        clear e1
        walk_at "if"
        walk_at "if"
        apply pst_disp [(Sum.inr "num", .int 3), (Sum.inr "par", .int (ps : Int)), (Sum.inr "own", .int (os : Int))]
        · apply eps_cons
          · exact ev_c
          · exact ev_c
          · apply eps_cons
            · exact ev_c
            · refine EvD.iv (K := K) (i := _) ?_
              walk_at "ev"
            · apply eps_cons
              · exact ev_c
              · refine EvD.iv (K := K) (i := _) ?_
                walk_at "ev"
              · exact eps_nil
        · exact (by decide : 3 ≤ 15)
        intro p H2 hp e2 hD
        replace t1 := t1.ex e2
        replace t2 := t2.ex e2
        replace k := fun v H' (e : Ex H2 H') => k v H' (e2.trans e)
        apply pst_ret _ k
        apply ed_is
        · apply ed_andV
          · walk_at "ev"
          intro _
          apply ed_andV
          · walk_at "ev"
          intro _
          apply ed_call
          · apply eda_cons
            · walk_at "ev"
            · apply eda_cons
              · apply ed_i
                apply ev_dget (p := p) (s := "own")
                · rfl
                · exact hD
                · refine EvD.sv (K := K) ?_
                  walk_at "ev"
                · rfl
              · exact eda_nil
          · exact ⟨_, _, rfl, rfl⟩
        · simp [okT, isNumD, h4] <;> omega
      | par m =>
        walk_at "if"
        apply pst_asg
        · walk_at "ev"
        intro v3 H1 e1 t5
        cases t5
        replace t1 := t1.ex e1
        replace t2 := t2.ex e1
        replace k := fun v H' (e : Ex H1 H') => k v H' (e1.trans e)
        clear e1
        walk_at "if"
        walk_at "if"
        apply pst_disp [(Sum.inr "num", .int 3), (Sum.inr "par", .int (ps : Int)), (Sum.inr "own", .int (os : Int))]
        · apply eps_cons
          · exact ev_c
          · exact ev_c
          · apply eps_cons
            · exact ev_c
            · refine EvD.iv (K := K) (i := _) ?_
              walk_at "ev"
            · apply eps_cons
              · exact ev_c
              · refine EvD.iv (K := K) (i := _) ?_
                walk_at "ev"
              · exact eps_nil
        · exact (by decide : 3 ≤ 15)
        intro p H2 hp e2 hD
        replace t1 := t1.ex e2
        replace t2 := t2.ex e2
        replace k := fun v H' (e : Ex H2 H') => k v H' (e2.trans e)
        apply pst_ret _ k
        apply ed_is
        · apply ed_andV
          · walk_at "ev"
          intro _
          apply ed_andV
          · walk_at "ev"
          intro _
          apply ed_call
          · apply eda_cons
            · walk_at "ev"
            · apply eda_cons
              · apply ed_i
                apply ev_dget (p := p) (s := "par")
                · rfl
                · exact hD
                · refine EvD.sv (K := K) ?_
                  walk_at "ev"
                · rfl
              · exact eda_nil
          · exact ⟨_, _, rfl, rfl⟩
        · simp [okT, isNumD, h4] <;> omega
      | cell t' => 
        walk_at "if"
        apply pst_asg
        · walk_at "ev"
        intro v3 H1 e1 t5
        cases t5
        replace t1 := t1.ex e1
        replace t2 := t2.ex e1
        replace k := fun v H' (e : Ex H1 H') => k v H' (e1.trans e)
        clear e1
        walk_at "if"
        walk_at "if"
        apply pst_ret _ k
        apply ed_is
        · apply ed_andV
          · walk_at "ev"
          intro _
          apply ed_call
          · walk_at "eva"
          · exact ⟨t', ps, os, w + 1, rfl, by omega, by omega, rfl⟩
        · simp [okT, h4]
      | sum ta tb =>
        walk_at "if"
        apply pst_asg
        · walk_at "ev"
        intro v3 H1 e1 t5
        cases t5
        replace t1 := t1.ex e1
        replace t2 := t2.ex e1
        replace k := fun v H' (e : Ex H1 H') => k v H' (e1.trans e)
        clear e1
        walk_at "if"
        apply pst_ret _ k
        apply ed_is
        · apply ed_andV
          · walk_at "ev"
          intro _
          apply ed_andV
          · apply ed_call
            · walk_at "eva"
            · exact ⟨ta, ps, os, w + 1, rfl, by omega, by omega, rfl⟩
          · intro _
            apply ed_call
            · walk_at "eva"
            · exact ⟨tb, ps, os, w + 1, rfl, by omega, by omega, rfl⟩
        · simp [okT, h4]
    · have h5 : okT ps os t w = false := by cases t <;> simp [okT, h4]
      obtain ⟨x, xs, e⟩ : ∃ x xs, encT t = .tuple (x :: xs) := by cases t <;> exact ⟨_, _, rfl⟩
      have t1' := t1
      rw [e] at t1'
      walk_at "if"
      apply pst_ret _ k
      rw [h5]
      exact ed_cb
end
end Hw

set_option maxRecDepth 100000
set_option maxHeartbeats 4000000
/-! PC2: calls, steps, bodies -/
namespace Hw
open PySem PySem.Spec PyProof.Rows L2 Evl
local macro_rules | `(tactic| walk_at "dd") => `(tactic| first | rfl | decide | (simp; done) | omega)
local macro_rules | `(tactic| walk_at "td") => `(tactic| first | assumption | exact Td.int _ | exact Td.bl _ | exact Td.str _ | exact Td.non | exact Td.tup (by assumption) (by assumption))
local macro_rules | `(tactic| walk_at "ev") => `(tactic| first
  | exact ed_ci | exact ed_cs | exact ed_cb | exact ed_cn
  | (apply ed_cg; assumption)
  | (apply ed_var; (rfl); (walk_at "td"))
  | (apply ed_ixT; (walk_at "ev"); (walk_at "ev"); (first | rfl | assumption))
  | (apply ed_rowI; (rfl); (assumption); (walk_at "ev"); (rfl))
  | (apply ed_ixL; (apply EvDL.rd; walk_at "edl"); (walk_at "ev"); (rfl))
  | (apply ed_intb; (walk_at "ev"))
  | (apply ed_len; walk_at "ev")
  | (apply ed_lenV; (apply ev_rowR; (rfl); (assumption); (walk_at "ev"); (rfl)); (assumption))
  | (apply ed_Ii; (walk_at "ev"); (walk_at "ev"); (walk_at "cc"))
  | (apply ed_isi; (walk_at "ev"); (rfl))
  | (apply ed_I0i; (walk_at "ev"); (walk_at "ev"))
  | (apply ed_I0b; (walk_at "ev"); (walk_at "ev"))
  | (apply ed_eqi; (walk_at "ev"); (walk_at "ev"))
  | (apply ed_nei; (walk_at "ev"); (walk_at "ev"))
  | (apply ed_andF; walk_at "ev")
  | (apply ed_andV; (walk_at "ev"); (intro _; walk_at "ev"))
  | (apply ed_orT; walk_at "ev")
  | (apply ed_orV; (walk_at "ev"); (intro _; walk_at "ev"))
  | (apply ed_notT; walk_at "ev")
  | (apply ed_notF; walk_at "ev")
  | (apply ed_notV; walk_at "ev")
  | (apply ed_chain; (walk_at "ev"); (walk_at "ev"); (intro _; walk_at "ev"))
  | (apply ed_eqS; (walk_at "ev"); (walk_at "ev"); (walk_at "bb"); (walk_at "bb"))
  | (apply ed_neS; (walk_at "ev"); (walk_at "ev"); (walk_at "bb"); (walk_at "bb"))
  | (apply ed_inT; (walk_at "ev"); (walk_at "ev"); (rfl); (rfl))
  | (apply ed_niT; (walk_at "ev"); (walk_at "ev"); (rfl); (rfl))
  | (apply ed_tup; (walk_at "eva"); (walk_at "bb"))
  | (apply ed_sl; (walk_at "ev"); (walk_at "evo"); (walk_at "evo"))
  | (apply ed_eqN; (apply EvDL.rd; walk_at "edl"); (walk_at "edl"); (walk_at "bb"))
  | (apply ed_neN; (apply EvDL.rd; walk_at "edl"); (walk_at "edl"); (walk_at "bb"))
  | (apply ed_ixL; (apply edr_var; (rfl); (assumption); (assumption)); (walk_at "ev"); (first | rfl | assumption))
  | (apply ed_lenL; (apply edr_var; (rfl); (assumption); (assumption)))
  | (apply ed_call; (walk_at "eva"); (walk_at "post")))
local macro_rules | `(tactic| walk_at "edl") => `(tactic| first
  | assumption
  | (apply edl_lst; (walk_at "eva"); (walk_at "bb")))
local macro_rules | `(tactic| walk_at "eva") => `(tactic| first
  | exact eda_nil
  | (apply eda_cons; (walk_at "ev"); (walk_at "eva")))
local macro_rules | `(tactic| walk_at "evo") => `(tactic| first
  | exact eok_none
  | (apply eok_some; walk_at "ev"))
local macro_rules | `(tactic| walk_at "bb") => `(tactic| first | rfl | assumption | (simp; done) | (simp; omega) | decide +kernel)
local macro_rules | `(tactic| walk_at "et") => `(tactic| first
  | exact tk_yes
  | (apply tk_andF; walk_at "et")
  | (apply tk_and; (walk_at "et"); (intro _; walk_at "et"))
  | (apply tk_orT; walk_at "et")
  | (apply tk_or; (walk_at "et"); (intro _; walk_at "et"))
  | (apply tk_notT; walk_at "et")
  | (apply tk_notF; walk_at "et")
  | (apply tk_not; walk_at "et")
  | (apply tk_v; walk_at "ev")
  | (apply tk_vB; walk_at "ev"))
local macro_rules | `(tactic| walk_at "if") => `(tactic| first
  | (apply pst_whenF; (walk_at "et"); (walk_at "bb"))
  | (apply pst_whenT; (walk_at "et"); (walk_at "bb")))
local macro_rules | `(tactic| walk_at "post") => `(tactic| first | assumption | exact ⟨_, _, rfl, rfl⟩ | exact ⟨_, _, _, _, rfl, by omega, by omega, rfl⟩ | exact ⟨_, _, _, 0, rfl, by omega, by omega, rfl⟩)
local macro_rules | `(tactic| walk_at "cc") => `(tactic| first | assumption | decide | omega | (refine ⟨?_, ?_⟩ <;> first | decide | omega) | (exact Or.inl (by constructor <;> omega)))

theorem atI_enc {α : Type} {xs : List α} {f : α → PyData} {i : Nat} {x : α} (h : xs[i]? = some x) : atI (xs.map f) (i : Int) = some (f x) := atI_nat (by rw [List.getElem?_map, h] <;> rfl)
theorem shP_get {p : List Wk} {i : Nat} {x : Wk} (h : p[i]? = some x) : shP (shapes p) i = x.params := by simp [shP, shapes, h]
theorem shO_get {p : List Wk} {i : Nat} {x : Wk} (h : p[i]? = some x) : shO (shapes p) i = x.owns := by simp [shO, shapes, h]
section
variable {P : Program} {w : World} {K : PySem.W.Frag} {mg : Str → Option Value} {base : Heap} (T : Tx K mg)
include T
def pCall (ds : List PyData) (d : PyData) : Prop := ∃ (p : List Wk) (at_ c : Nat) (ts : List Th) (ps os : Nat), ds = [encP p, .int (at_ : Int), encS (.call c ts), .tuple [.int (ps : Int), .int (os : Int)]] ∧ ts.length ≤ 40000 ∧
  d = .bool (decide (c < p.length) && (decide (at_ < c) && (decide (ts.length = shP (shapes p) c) && ts.all fun t => okT ps os t 0)))
theorem ok_is_call {k : Nat} (hk : 8 ≤ k) (G_is_number : Fn_is_number T P w base CX0 1 (spF K pNumber)) (G_is_thing : Fn_is_thing T P w base CX0 8 (spF K (pThing 6))) : Fn_is_call T P w base CX0 (k + 1) (spF K pCall) := by
  refine T.F_is_call.ok sc_is_call (spF_len fun ds d h => by obtain ⟨p, at_, c, ts, ps, os, rfl, _⟩ := h; rfl) fun cdv A outer s H vs Q E hr h => ?_
  obtain ⟨ds, d, ht, ⟨p, at_, c, ts, ps, os, rfl, hz, rfl⟩, k⟩ := h
  obtain _ | ⟨t1, _ | ⟨t2, _ | ⟨t3, _ | ⟨t4, _ | _⟩⟩⟩⟩ := ht
  refine ⟨_, (pss_cons (ps_if (PW.pt (pw_or (pt_cmpR op_ne (pe_callB (kc_len K) rfl T.b_len PySem.boot_len (pa_cons (pv 2) pa_nil)) pe_int (nomark _)) (pw_or (pt_not (pt_val (pe_call G_is_number (hr.mono (by omega)) (by rfl) T.g_is_number T.k_is_number T.bd_is_number .nil pass0 (pa_cons (pe_ix (kix_tup K) (pv 2) pe_int (fun _ _ => rfl)) (pa_cons (pe_callB (kc_len K) rfl T.b_len PySem.boot_len (pa_cons (pv 0) pa_nil)) pa_nil))))) (pw_or (pt_cmpR op_le (pe_ix (kix_tup K) (pv 2) pe_int (fun _ _ => rfl)) (pv 1) (nomark _)) (pw_or1 (pt_not (pt_val (pe_callB (kc_isi K) rfl T.b_isinstance (by decide +kernel) (pa_cons (pe_ix (kix_tup K) (pv 2) pe_int (fun _ _ => rfl)) (pa_cons (pe_bltn (v := .ty "tuple") rfl T.b_tuple (by decide +kernel) rfl) pa_nil))))))))))
    (pss_one (ps_ret pe_bl))
    pss_nil)
  (pss_cons (ps_if (pt_cmpR op_ne (pe_callB (kc_len K) rfl T.b_len PySem.boot_len (pa_cons (pe_ix (kix_tup K) (pv 2) pe_int (fun _ _ => rfl)) pa_nil)) (pe_ix (kix_tup K) (pe_ix (kix_tup K) (pv 0) (pe_ix (kix_tup K) (pv 2) pe_int (fun _ _ => rfl)) (fun _ _ => rfl)) pe_int (fun _ _ => rfl)) (nomark _))
    (pss_one (ps_ret pe_bl))
    pss_nil)
  (pss_one (ps_ret (pe_cmpR (kop_eq K hr.units) (pe_lc (own := [("thing", 4)]) (g := gName 4) (tt := _) rfl sc_is_call.nd (kpi_tup K (pe_ix (kix_tup K) (pv 2) pe_int (fun _ _ => rfl))) (blkOk_by (N := ["program", "at", "step", "sizes", "thing"]) (sc := defScope s_is_call) (by decide +kernel)) (fun _ _ _ _ _ => (pg_name (i := 4) sc_is_call.nd rfl (Or.inl rfl))) (fun _ _ _ _ _ => (pts_one (pt_not (pt_val (pe_call G_is_thing (hr.mono (by omega)) (by rfl) T.g_is_thing T.k_is_thing T.bd_is_thing .nil pass0 (pa_cons (pv 4) (pa_cons (pv 3) (pa_cons pe_int pa_nil)))))))) (fun _ _ _ _ _ => (pv 4))) (pe_lst pa_nil) (nomark _)))))), ?_⟩
  cases t2
  refine Pst.go (K := K) ?_
  by_cases h12 : c < p.length ∧ at_ < c
  · obtain ⟨h1, h2⟩ := h12
    have hwk : p[c]? = some p[c] := List.getElem?_eq_getElem h1
    have hat : atI (p.map encW) (c : Int) = some (encW p[c]) := atI_enc hwk
    have hsh : shP (shapes p) c = p[c].params := shP_get hwk
    apply pst_whenF
    · walk_at "et"
    · simp [isNumD]
      omega
    apply pst_when
    · apply tk_v
      apply ed_nei
      · walk_at "ev"
      · apply ed_ixT
        · apply ed_ixT
          · walk_at "ev"
          · walk_at "ev"
          · exact hat
        · walk_at "ev"
        · rfl
    · intro hb
      have e : ¬ ts.length = p[c].params := by
        simp at hb
        omega
      apply pst_ret _ k
      apply ed_is
      · walk_at "ev"
      · simp [hsh, e]
    · intro hb
      have e : ts.length = p[c].params := by
        simp at hb
        omega
      apply pst_ret _ k
      apply ed_is
      · apply ed_eqN
        · apply EvDL.rd
          apply edl_lcM (xs := ts) (f := encT) (p := fun t => !okT ps os t 0) (g := encT)
          · walk_at "ev"
          · rfl
          · exact hz
          · intro x
            rfl
          · intro x v H1 e1 hx tx
            replace t4 := t4.ex e1
            walk_at "et"
          · intro x v H1 e1 hx _ tx
            walk_at "ev"
        · walk_at "edl"
        · exact encTs_lay _
      · simp [hsh, e, h1, h2]
        exact filter_not_isEmpty _
  · apply pst_whenT
    · walk_at "et"
    · simp [isNumD]
      omega
    apply pst_ret _ k
    apply ed_is
    · walk_at "ev"
    · simp
      omega
end
end Hw

set_option maxRecDepth 100000
set_option maxHeartbeats 4000000
/-! PC3: steps and bodies -/
namespace Hw
open PySem PySem.Spec PyProof.Rows L2 Evl
local macro_rules | `(tactic| walk_at "dd") => `(tactic| first | rfl | decide | (simp; done) | omega)
local macro_rules | `(tactic| walk_at "td") => `(tactic| first | assumption | exact Td.int _ | exact Td.bl _ | exact Td.str _ | exact Td.non | exact Td.tup (by assumption) (by assumption))
local macro_rules | `(tactic| walk_at "ev") => `(tactic| first
  | exact ed_ci | exact ed_cs | exact ed_cb | exact ed_cn
  | (apply ed_cg; assumption)
  | (apply ed_var; (rfl); (walk_at "td"))
  | (apply ed_ixT; (walk_at "ev"); (walk_at "ev"); (first | rfl | assumption))
  | (apply ed_rowI; (rfl); (assumption); (walk_at "ev"); (rfl))
  | (apply ed_ixL; (apply EvDL.rd; walk_at "edl"); (walk_at "ev"); (rfl))
  | (apply ed_intb; (walk_at "ev"))
  | (apply ed_len; walk_at "ev")
  | (apply ed_lenV; (apply ev_rowR; (rfl); (assumption); (walk_at "ev"); (rfl)); (assumption))
  | (apply ed_Ii; (walk_at "ev"); (walk_at "ev"); (walk_at "cc"))
  | (apply ed_isi; (walk_at "ev"); (rfl))
  | (apply ed_I0i; (walk_at "ev"); (walk_at "ev"))
  | (apply ed_I0b; (walk_at "ev"); (walk_at "ev"))
  | (apply ed_eqi; (walk_at "ev"); (walk_at "ev"))
  | (apply ed_nei; (walk_at "ev"); (walk_at "ev"))
  | (apply ed_andF; walk_at "ev")
  | (apply ed_andV; (walk_at "ev"); (intro _; walk_at "ev"))
  | (apply ed_orT; walk_at "ev")
  | (apply ed_orV; (walk_at "ev"); (intro _; walk_at "ev"))
  | (apply ed_notT; walk_at "ev")
  | (apply ed_notF; walk_at "ev")
  | (apply ed_notV; walk_at "ev")
  | (apply ed_chain; (walk_at "ev"); (walk_at "ev"); (intro _; walk_at "ev"))
  | (apply ed_eqS; (walk_at "ev"); (walk_at "ev"); (walk_at "bb"); (walk_at "bb"))
  | (apply ed_neS; (walk_at "ev"); (walk_at "ev"); (walk_at "bb"); (walk_at "bb"))
  | (apply ed_inT; (walk_at "ev"); (walk_at "ev"); (rfl); (rfl))
  | (apply ed_niT; (walk_at "ev"); (walk_at "ev"); (rfl); (rfl))
  | (apply ed_tup; (walk_at "eva"); (walk_at "bb"))
  | (apply ed_sl; (walk_at "ev"); (walk_at "evo"); (walk_at "evo"))
  | (apply ed_eqN; (apply EvDL.rd; walk_at "edl"); (walk_at "edl"); (walk_at "bb"))
  | (apply ed_neN; (apply EvDL.rd; walk_at "edl"); (walk_at "edl"); (walk_at "bb"))
  | (apply ed_ixL; (apply edr_var; (rfl); (assumption); (assumption)); (walk_at "ev"); (first | rfl | assumption))
  | (apply ed_lenL; (apply edr_var; (rfl); (assumption); (assumption)))
  | (apply ed_call; (walk_at "eva"); (walk_at "post")))
local macro_rules | `(tactic| walk_at "edl") => `(tactic| first
  | assumption
  | (apply edl_lst; (walk_at "eva"); (walk_at "bb")))
local macro_rules | `(tactic| walk_at "eva") => `(tactic| first
  | exact eda_nil
  | (apply eda_cons; (walk_at "ev"); (walk_at "eva")))
local macro_rules | `(tactic| walk_at "evo") => `(tactic| first
  | exact eok_none
  | (apply eok_some; walk_at "ev"))
local macro_rules | `(tactic| walk_at "bb") => `(tactic| first | rfl | assumption | (simp; done) | (simp; omega) | decide +kernel)
local macro_rules | `(tactic| walk_at "et") => `(tactic| first
  | exact tk_yes
  | (apply tk_andF; walk_at "et")
  | (apply tk_and; (walk_at "et"); (intro _; walk_at "et"))
  | (apply tk_orT; walk_at "et")
  | (apply tk_or; (walk_at "et"); (intro _; walk_at "et"))
  | (apply tk_notT; walk_at "et")
  | (apply tk_notF; walk_at "et")
  | (apply tk_not; walk_at "et")
  | (apply tk_v; walk_at "ev")
  | (apply tk_vB; walk_at "ev"))
local macro_rules | `(tactic| walk_at "if") => `(tactic| first
  | (apply pst_whenF; (walk_at "et"); (walk_at "bb"))
  | (apply pst_whenT; (walk_at "et"); (walk_at "bb")))
local macro_rules | `(tactic| walk_at "post") => `(tactic| first | assumption | exact ⟨_, _, rfl, rfl⟩ | exact ⟨_, _, _, _, rfl, by omega, by omega, rfl⟩ | exact ⟨_, _, _, 0, rfl, by omega, by omega, rfl⟩)
local macro_rules | `(tactic| walk_at "cc") => `(tactic| first | assumption | decide | omega | (refine ⟨?_, ?_⟩ <;> first | decide | omega) | (exact Or.inl (by constructor <;> omega)))

def pStep (n : Nat) (ds : List PyData) (d : PyData) : Prop := ∃ (p : List Wk) (at_ : Nat) (s : Stm) (w : Nat), ds = [encP p, .int (at_ : Int), encS s, .int (w : Int)] ∧ at_ < p.length ∧ smS s = true ∧ w ≤ 5 ∧ 6 ≤ w + n ∧ d = .bool (okS (shapes p) at_ s w)
def pBody (n : Nat) (ds : List PyData) (d : PyData) : Prop := ∃ (p : List Wk) (at_ : Nat) (b : List Stm) (w : Nat), ds = [encP p, .int (at_ : Int), .tuple (encB b), .int (w : Int)] ∧ at_ < p.length ∧ b.length ≤ 1000 ∧ smB b = true ∧ w ≤ 5 ∧ 6 ≤ w + n ∧ d = .bool (okB (shapes p) at_ b w)
section
variable {P : Program} {w : World} {K : PySem.W.Frag} {mg : Str → Option Value} {base : Heap} (T : Tx K mg)
include T
theorem ok_is_body {k n : Nat} (G_is_step : Fn_is_step T P w base CX0 k (spF K (pStep n))) : Fn_is_body T P w base CX0 (k + 1) (spF K (pBody n)) := by
  refine T.F_is_body.ok sc_is_body (spF_len fun ds d h => by obtain ⟨p, at_, s, w, rfl, _⟩ := h; rfl) fun cdv A outer s H vs Q E hr h => ?_
  obtain ⟨ds, d, ht, ⟨p, at_, b, w, rfl, hat, hl, hs, hw5, hw, rfl⟩, k⟩ := h
  obtain _ | ⟨t1, _ | ⟨t2, _ | ⟨t3, _ | ⟨t4, _ | _⟩⟩⟩⟩ := ht
  refine ⟨_, (pss_one (ps_ret (pe_and (pe_callB (kc_isi K) rfl T.b_isinstance (by decide +kernel) (pa_cons (pv 2) (pa_cons (pe_bltn (v := .ty "tuple") rfl T.b_tuple (by decide +kernel) rfl) pa_nil))) (pe_one (pe_cmpR (kop_eq K hr.units) (pe_lc (own := [("step", 4)]) (g := gName 4) (tt := _) rfl sc_is_body.nd (kpi_tup K (pv 2)) (blkOk_by (N := ["program", "at", "body", "within", "step"]) (sc := defScope s_is_body) (by decide +kernel)) (fun _ _ _ _ _ => (pg_name (i := 4) sc_is_body.nd rfl (Or.inl rfl))) (fun _ _ _ _ _ => (pts_one (pt_not (pt_val (pe_call G_is_step (hr.mono (by omega)) (by rfl) T.g_is_step T.k_is_step T.bd_is_step .nil pass0 (pa_cons (pv 0) (pa_cons (pv 1) (pa_cons (pv 4) (pa_cons (pv 3) pa_nil))))))))) (fun _ _ _ _ _ => (pv 4))) (pe_lst pa_nil) (nomark _)))))), ?_⟩
  cases t2
  cases t4
  refine Pst.go (K := K) ?_
  apply pst_ret _ k
  apply ed_is
  · apply ed_andV
    · walk_at "ev"
    intro _
    apply ed_eqN
    · apply EvDL.rd
      apply edl_lcM (xs := b) (f := encS) (p := fun s => !okS (shapes p) at_ s w) (g := encS)
      · walk_at "ev"
      · exact encB_map b
      · omega
      · intro x
        rfl
      · intro x v H1 e1 hx tx
        replace t1 := t1.ex e1
        apply tk_not
        apply tk_vB
        apply ed_call
        · walk_at "eva"
        · exact ⟨p, at_, x, w, rfl, hat, smB_mem hs hx, hw5, hw, rfl⟩
      · intro x v H1 e1 hx _ tx
        walk_at "ev"
    · walk_at "edl"
    · rw [← encB_map]
      exact encB_lay _
  · rw [okB_all]
    simp
    exact filter_not_isEmpty _
theorem ok_is_step {k n : Nat} (hk : 9 ≤ k) (G_is_thing : Fn_is_thing T P w base CX0 8 (spF K (pThing 6))) (G_is_call : Fn_is_call T P w base CX0 9 (spF K pCall)) (G_is_body : Fn_is_body T P w base CX0 k (spF K (pBody n))) : Fn_is_step T P w base CX0 (k + 1) (spF K (pStep (n + 1))) := by
  refine T.F_is_step.ok sc_is_step (spF_len fun ds d h => by obtain ⟨p, at_, s, w, rfl, _⟩ := h; rfl) fun cdv A outer s H vs Q E hr h => ?_
  obtain ⟨ds, d, ht, ⟨p, at_, st, w, rfl, hat, hs, hw5, hw, rfl⟩, k⟩ := h
  obtain _ | ⟨t1, _ | ⟨t2, _ | ⟨t3, _ | ⟨t4, _ | _⟩⟩⟩⟩ := ht
  refine ⟨_, (pss_cons (ps_if (PW.pt (pw_or (pt_not (pt_val (pe_callB (kc_isi K) rfl T.b_isinstance (by decide +kernel) (pa_cons (pv 2) (pa_cons (pe_bltn (v := .ty "tuple") rfl T.b_tuple (by decide +kernel) rfl) pa_nil))))) (pw_or (pt_cmpR op_lt (pe_callB (kc_len K) rfl T.b_len PySem.boot_len (pa_cons (pv 2) pa_nil)) pe_int (nomark _)) (pw_or1 (pt_cmpR op_gt (pv 3) (pe_gint rfl T.g_MOST_WITHIN) (nomark _))))))
    (pss_one (ps_ret pe_bl))
    pss_nil)
  (pss_cons (ps_set (i := 4) sc_is_step.nd rfl (Or.inl rfl) (pe_slice (ksl_tup K) (pe_ix (kix_tup K) (pv 0) (pv 1) (fun _ _ => rfl)) po_none (po_some pe_int)))
  (pss_cons (ps_if (pt_cmpR (kop_eq K hr.units) (pe_ix (kix_tup K) (pv 2) pe_int (fun _ _ => rfl)) pe_str (nomark _))
    (pss_one (ps_ret (pe_call G_is_call (hr.mono (by omega)) (by rfl) T.g_is_call T.k_is_call T.bd_is_call .nil pass0 (pa_cons (pv 0) (pa_cons (pv 1) (pa_cons (pv 2) (pa_cons (pv 4) pa_nil)))))))
    pss_nil)
  (pss_cons (ps_if (pt_not (pt_val (pe_call G_is_thing (hr.mono (by omega)) (by rfl) T.g_is_thing T.k_is_thing T.bd_is_thing .nil pass0 (pa_cons (pe_ix (kix_tup K) (pv 2) pe_int (fun _ _ => rfl)) (pa_cons (pv 4) (pa_cons pe_int pa_nil))))))
    (pss_one (ps_ret pe_bl))
    pss_nil)
  (pss_cons (ps_if (pt_cmpR (kop_eq K hr.units) (pe_ix (kix_tup K) (pv 2) pe_int (fun _ _ => rfl)) pe_str (nomark _))
    (pss_one (ps_ret (pe_and (pe_cmpR op_eq (pe_callB (kc_len K) rfl T.b_len PySem.boot_len (pa_cons (pv 2) pa_nil)) pe_int (nomark _)) (pe_and (pe_cmpR (kop_in K) (pe_ix (kix_tup K) (pe_ix (kix_tup K) (pv 2) pe_int (fun _ _ => rfl)) pe_int (fun _ _ => rfl)) (pe_glob (v := .ref _) rfl T.g_PLACES rfl) rfl) (pe_one (pe_call G_is_thing (hr.mono (by omega)) (by rfl) T.g_is_thing T.k_is_thing T.bd_is_thing .nil pass0 (pa_cons (pe_ix (kix_tup K) (pv 2) pe_int (fun _ _ => rfl)) (pa_cons (pv 4) (pa_cons pe_int pa_nil)))))))))
    pss_nil)
  (pss_cons (ps_if (pt_cmpR (kop_eq K hr.units) (pe_ix (kix_tup K) (pv 2) pe_int (fun _ _ => rfl)) pe_str (nomark _))
    (pss_one (ps_ret (pe_and (pe_cmpR op_eq (pe_callB (kc_len K) rfl T.b_len PySem.boot_len (pa_cons (pv 2) pa_nil)) pe_int (nomark _)) (pe_one (pe_cmpR (kop_eq K hr.units) (pe_lc (own := [("body", 5)]) (g := gName 5) (tt := _) rfl sc_is_step.nd (kpi_tup K (pe_slice (ksl_tup K) (pv 2) (po_some pe_int) po_none)) (blkOk_by (N := ["program", "at", "step", "within", "sizes", "body"]) (sc := defScope s_is_step) (by decide +kernel)) (fun _ _ _ _ _ => (pg_name (i := 5) sc_is_step.nd rfl (Or.inl rfl))) (fun _ _ _ _ _ => (pts_one (pt_not (pt_val (pe_call G_is_body (hr.mono (by omega)) (by rfl) T.g_is_body T.k_is_body T.bd_is_body .nil pass0 (pa_cons (pv 0) (pa_cons (pv 1) (pa_cons (pv 5) (pa_cons (pe_op op_add (pv 3) pe_int) pa_nil))))))))) (fun _ _ _ _ _ => (pv 5))) (pe_lst pa_nil) (nomark _))))))
    pss_nil)
  (pss_one (ps_ret (pe_and (pe_cmpR (kop_eq K hr.units) (pe_ix (kix_tup K) (pv 2) pe_int (fun _ _ => rfl)) pe_str (nomark _)) (pe_one (pe_cmpR op_eq (pe_callB (kc_len K) rfl T.b_len PySem.boot_len (pa_cons (pv 2) pa_nil)) pe_int (nomark _)))))))))))), ?_⟩
  cases t2
  cases t4
  refine Pst.go (K := K) ?_
  have hwk : p[at_]? = some p[at_] := List.getElem?_eq_getElem hat
  have hix : atI (p.map encW) (at_ : Int) = some (encW p[at_]) := atI_enc hwk
  have hp : shP (shapes p) at_ = p[at_].params := shP_get hwk
  have ho : shO (shapes p) at_ = p[at_].owns := shO_get hwk
  have hPl : ∀ H, Td K H (.ref (He.ga K "PLACES")) (.tuple [.str "cell", .str "own", .str "par"]) := fun H => .tup (T.t_PLACES H) (.cons (.str _) (.cons (.str _) (.cons (.str _) .nil)))
  by_cases h4 : w ≤ 4
  · cases st with
    | set pl t =>
      walk_at "if"
      refine pst_asg (d := .tuple [.int (p[at_].params : Int), .int (p[at_].owns : Int)]) ?_ ?_
      · apply ed_is
        · walk_at "ev"
        · rfl
      intro v5 H1 e1 t5
      replace t1 := t1.ex e1
      replace t3 := t3.ex e1
      replace k := fun v H' (e : Ex H1 H') => k v H' (e1.trans e)
      clear e1
      walk_at "if"
      apply pst_when
      · walk_at "et"
      · intro hb
        apply pst_ret _ k
        apply ed_is
        · walk_at "ev"
        · simp at hb
          simp [okS, hp, ho, hb]
      intro hb
      simp at hb
      walk_at "if"
      apply pst_ret _ k
      apply ed_is
      · apply ed_andV
        · walk_at "ev"
        intro _
        refine ed_andV (a := isPlace pl) (b := okT p[at_].params p[at_].owns t 0) ?_ ?_
        · cases pl <;> (apply ed_is; (walk_at "ev"); (simp [isPlace]))
        intro _
        walk_at "ev"
      · simp [okS, hp, ho, hb, h4]
    | say t =>
      walk_at "if"
      refine pst_asg (d := .tuple [.int (p[at_].params : Int), .int (p[at_].owns : Int)]) ?_ ?_
      · apply ed_is
        · walk_at "ev"
        · rfl
      intro v5 H1 e1 t5
      replace t1 := t1.ex e1
      replace t3 := t3.ex e1
      replace k := fun v H' (e : Ex H1 H') => k v H' (e1.trans e)
      clear e1
      walk_at "if"
      apply pst_when
      · walk_at "et"
      · intro hb
        apply pst_ret _ k
        apply ed_is
        · walk_at "ev"
        · simp at hb
          simp [okS, hp, ho, hb]
      intro hb
      simp at hb
      walk_at "if"
      walk_at "if"
      apply pst_ret _ k
      apply ed_is
      · walk_at "ev"
      · simp [okS, hp, ho, hb, h4]
    | ite t a b =>
      walk_at "if"
      refine pst_asg (d := .tuple [.int (p[at_].params : Int), .int (p[at_].owns : Int)]) ?_ ?_
      · apply ed_is
        · walk_at "ev"
        · rfl
      intro v5 H1 e1 t5
      replace t1 := t1.ex e1
      replace t3 := t3.ex e1
      replace k := fun v H' (e : Ex H1 H') => k v H' (e1.trans e)
      clear e1
      walk_at "if"
      apply pst_when
      · walk_at "et"
      · intro hb
        apply pst_ret _ k
        apply ed_is
        · walk_at "ev"
        · simp at hb
          simp [okS, hp, ho, hb]
      intro hb
      simp at hb
      walk_at "if"
      walk_at "if"
      simp only [smS, Bool.and_eq_true, decide_eq_true_eq] at hs
      apply pst_ret _ k
      apply ed_is
      · apply ed_andV
        · walk_at "ev"
        intro _
        apply ed_eqN
        · apply EvDL.rd
          apply edl_lcM (xs := [a, b]) (f := fun b => .tuple (encB b)) (p := fun b => !okB (shapes p) at_ b (w + 1)) (g := fun b => .tuple (encB b))
          · walk_at "ev"
          · rfl
          · exact (by decide : 2 ≤ 40000)
          · intro x
            rfl
          · intro x v H2 e2 hx tx
            replace t1 := t1.ex e2
            have hx2 : x.length ≤ 1000 ∧ smB x = true := by
              simp at hx
              rcases hx with e | e <;> subst e <;> simp [hs]
            apply tk_not
            apply tk_vB
            apply ed_call
            · walk_at "eva"
            · exact ⟨p, at_, x, w + 1, rfl, hat, hx2.1, hx2.2, by omega, by omega, rfl⟩
          · intro x v H2 e2 hx _ tx
            walk_at "ev"
        · walk_at "edl"
        · simp only [List.filter_cons, List.filter_nil]
          split <;> split <;> simp [PyData.canLayAll0, PyData.canLay0, encB_lay]
      · simp only [okS, hp, ho, hb, h4]
        have := filter_not_isEmpty (f := fun b => okB (shapes p) at_ b (w + 1)) [a, b]
        simp at this
        simp [this]
    | call c ts =>
      walk_at "if"
      refine pst_asg (d := .tuple [.int (p[at_].params : Int), .int (p[at_].owns : Int)]) ?_ ?_
      · apply ed_is
        · walk_at "ev"
        · rfl
      intro v5 H1 e1 t5
      replace t1 := t1.ex e1
      replace t3 := t3.ex e1
      replace k := fun v H' (e : Ex H1 H') => k v H' (e1.trans e)
      clear e1
      walk_at "if"
      simp only [smS, decide_eq_true_eq] at hs
      apply pst_ret _ k
      apply ed_is
      · apply ed_call
        · walk_at "eva"
        · exact ⟨p, at_, c, ts, _, _, rfl, by omega, rfl⟩
      · have hl : (shapes p).length = p.length := by simp [shapes]
        simp [okS, hp, ho, h4, hl]
  · have h5 : okS (shapes p) at_ st w = false := by cases st <;> simp [okS, h4]
    obtain ⟨x, y, xs, e⟩ : ∃ x y xs, encS st = .tuple (x :: y :: xs) := by cases st <;> exact ⟨_, _, _, rfl⟩
    rw [e] at t3
    walk_at "if"
    apply pst_ret _ k
    rw [h5]
    exact ed_cb
end
end Hw

set_option maxRecDepth 100000
set_option maxHeartbeats 4000000
/-! PC4: bodies within, counts, works -/
namespace Hw
open PySem PySem.Spec PyProof.Rows L2 Evl
local macro_rules | `(tactic| walk_at "dd") => `(tactic| first | rfl | decide | (simp; done) | omega)
local macro_rules | `(tactic| walk_at "td") => `(tactic| first | assumption | exact Td.int _ | exact Td.bl _ | exact Td.str _ | exact Td.non | exact Td.tup (by assumption) (by assumption))
local macro_rules | `(tactic| walk_at "ev") => `(tactic| first
  | exact ed_ci | exact ed_cs | exact ed_cb | exact ed_cn
  | (apply ed_cg; assumption)
  | (apply ed_var; (rfl); (walk_at "td"))
  | (apply ed_ixT; (walk_at "ev"); (walk_at "ev"); (first | rfl | assumption))
  | (apply ed_rowI; (rfl); (assumption); (walk_at "ev"); (rfl))
  | (apply ed_ixL; (apply EvDL.rd; walk_at "edl"); (walk_at "ev"); (rfl))
  | (apply ed_intb; (walk_at "ev"))
  | (apply ed_len; walk_at "ev")
  | (apply ed_lenV; (apply ev_rowR; (rfl); (assumption); (walk_at "ev"); (rfl)); (assumption))
  | (apply ed_Ii; (walk_at "ev"); (walk_at "ev"); (walk_at "cc"))
  | (apply ed_isi; (walk_at "ev"); (rfl))
  | (apply ed_I0i; (walk_at "ev"); (walk_at "ev"))
  | (apply ed_I0b; (walk_at "ev"); (walk_at "ev"))
  | (apply ed_eqi; (walk_at "ev"); (walk_at "ev"))
  | (apply ed_nei; (walk_at "ev"); (walk_at "ev"))
  | (apply ed_andF; walk_at "ev")
  | (apply ed_andV; (walk_at "ev"); (intro _; walk_at "ev"))
  | (apply ed_orT; walk_at "ev")
  | (apply ed_orV; (walk_at "ev"); (intro _; walk_at "ev"))
  | (apply ed_notT; walk_at "ev")
  | (apply ed_notF; walk_at "ev")
  | (apply ed_notV; walk_at "ev")
  | (apply ed_chain; (walk_at "ev"); (walk_at "ev"); (intro _; walk_at "ev"))
  | (apply ed_eqS; (walk_at "ev"); (walk_at "ev"); (walk_at "bb"); (walk_at "bb"))
  | (apply ed_neS; (walk_at "ev"); (walk_at "ev"); (walk_at "bb"); (walk_at "bb"))
  | (apply ed_inT; (walk_at "ev"); (walk_at "ev"); (rfl); (rfl))
  | (apply ed_niT; (walk_at "ev"); (walk_at "ev"); (rfl); (rfl))
  | (apply ed_tup; (walk_at "eva"); (walk_at "bb"))
  | (apply ed_sl; (walk_at "ev"); (walk_at "evo"); (walk_at "evo"))
  | (apply ed_eqN; (apply EvDL.rd; walk_at "edl"); (walk_at "edl"); (walk_at "bb"))
  | (apply ed_neN; (apply EvDL.rd; walk_at "edl"); (walk_at "edl"); (walk_at "bb"))
  | (apply ed_ixL; (apply edr_var; (rfl); (assumption); (assumption)); (walk_at "ev"); (first | rfl | assumption))
  | (apply ed_lenL; (apply edr_var; (rfl); (assumption); (assumption)))
  | (apply ed_call; (walk_at "eva"); (walk_at "post")))
local macro_rules | `(tactic| walk_at "edl") => `(tactic| first
  | assumption
  | (apply edl_lst; (walk_at "eva"); (walk_at "bb")))
local macro_rules | `(tactic| walk_at "eva") => `(tactic| first
  | exact eda_nil
  | (apply eda_cons; (walk_at "ev"); (walk_at "eva")))
local macro_rules | `(tactic| walk_at "evo") => `(tactic| first
  | exact eok_none
  | (apply eok_some; walk_at "ev"))
local macro_rules | `(tactic| walk_at "bb") => `(tactic| first | rfl | assumption | (simp; done) | (simp; omega) | decide +kernel)
local macro_rules | `(tactic| walk_at "et") => `(tactic| first
  | exact tk_yes
  | (apply tk_andF; walk_at "et")
  | (apply tk_and; (walk_at "et"); (intro _; walk_at "et"))
  | (apply tk_orT; walk_at "et")
  | (apply tk_or; (walk_at "et"); (intro _; walk_at "et"))
  | (apply tk_notT; walk_at "et")
  | (apply tk_notF; walk_at "et")
  | (apply tk_not; walk_at "et")
  | (apply tk_v; walk_at "ev")
  | (apply tk_vB; walk_at "ev"))
local macro_rules | `(tactic| walk_at "if") => `(tactic| first
  | (apply pst_whenF; (walk_at "et"); (walk_at "bb"))
  | (apply pst_whenT; (walk_at "et"); (walk_at "bb")))
local macro_rules | `(tactic| walk_at "post") => `(tactic| first | assumption | exact ⟨_, _, rfl, rfl⟩ | exact ⟨_, _, _, _, rfl, by omega, by omega, rfl⟩ | exact ⟨_, _, _, 0, rfl, by omega, by omega, rfl⟩)
local macro_rules | `(tactic| walk_at "cc") => `(tactic| first | assumption | decide | omega | (refine ⟨?_, ?_⟩ <;> first | decide | omega) | (exact Or.inl (by constructor <;> omega)))

def pBods (ds : List PyData) (d : PyData) : Prop := ∃ s : Stm, ds = [encS s] ∧ d = .tuple ((bods s).map fun b => .tuple (encB b))
def pCount (n : Nat) (ds : List PyData) (d : PyData) : Prop := ∃ b : List Stm, ds = [.tuple (encB b)] ∧ b.length ≤ 1000 ∧ smB b = true ∧ dpB b + 1 ≤ n ∧ d = .int (cntB b : Int)
theorem filter_yes {α : Type} (xs : List α) : xs.filter (fun _ => true) = xs := List.filter_eq_self.mpr fun _ _ => rfl
theorem sum_cast : ∀ xs : List Nat, (xs.map fun n => ((n : Nat) : Int)).sum = ((xs.sum : Nat) : Int)
  | [] => rfl
  | x :: r => by simp [sum_cast r]
section
variable {P : Program} {w : World} {K : PySem.W.Frag} {mg : Str → Option Value} {base : Heap} (T : Tx K mg)
include T
theorem ok_bodyN (GT : Fn_is_thing T P w base CX0 8 (spF K (pThing 6))) (GC : Fn_is_call T P w base CX0 9 (spF K pCall)) : ∀ n : Nat, Fn_is_body T P w base CX0 (10 + 2 * n) (spF K (pBody n)) := by
  intro n
  induction n with
  | zero => exact fn_vac fun vs H Q E ⟨ds, d, _, ⟨_, _, _, w, _, _, _, _, h1, h2, _⟩, _⟩ => by omega
  | succ n ih => exact ok_is_body T (ok_is_step (k := 10 + 2 * n) T (by omega) GT GC ih)
theorem ok_bodies_of {k : Nat} : Fn_bodies_of T P w base CX0 (k + 1) (spF K pBods) := by
  refine T.F_bodies_of.ok sc_bodies_of (spF_len fun ds d h => by obtain ⟨s, rfl, _⟩ := h; rfl) fun cdv A outer s H vs Q E hr h => ?_
  obtain ⟨ds, d, ht, ⟨st, rfl, rfl⟩, k⟩ := h
  obtain _ | ⟨t1, _ | _⟩ := ht
  refine ⟨_, (pss_one (ps_ret (pe_ifExp (pt_cmpR (kop_eq K hr.units) (pe_ix (kix_tup K) (pv 0) pe_int (fun _ _ => rfl)) pe_str (nomark _)) (pe_slice (ksl_tup K) (pv 0) (po_some pe_int) po_none) (pe_tup pa_nil)))), ?_⟩
  refine Pst.go (K := K) ?_
  apply pst_ret _ k
  cases st with
  | ite t a b =>
    apply ed_ifT
    · apply tk_is
      · walk_at "et"
      · walk_at "bb"
    · apply ed_is
      · walk_at "ev"
      · rfl
  | _ =>
    apply ed_ifF
    · apply tk_is
      · walk_at "et"
      · walk_at "bb"
    · apply ed_is
      · walk_at "ev"
      · rfl
theorem ok_count (GB : Fn_bodies_of T P w base CX0 1 (spF K pBods)) : ∀ n : Nat, Fn_count T P w base CX0 (n + 1) (spF K (pCount n)) := by
  intro n
  induction n with
  | zero => exact fn_vac fun vs H Q E ⟨ds, d, _, ⟨_, _, _, _, h2, _⟩, _⟩ => by omega
  | succ n ih =>
    have G_bodies_of := GB
    have G_count := ih
    refine T.F_count.ok sc_count (spF_len fun ds d h => by obtain ⟨s, rfl, _⟩ := h; rfl) fun cdv A outer s H vs Q E hr h => ?_
    obtain ⟨ds, d, ht, ⟨b, rfl, hl, hs, hn, rfl⟩, k⟩ := h
    obtain _ | ⟨t1, _ | _⟩ := ht
    refine ⟨_, (pss_one (ps_ret (pe_callB (kc_sum K) rfl T.b_sum (by decide +kernel) (pa_cons (pe_lc (own := [("step", 1)]) (g := gName 1) (tt := tYes) rfl sc_count.nd (kpi_tup K (pv 0)) (blkOk_by (N := ["body", "step", "inner"]) (sc := defScope s_count) (by decide +kernel)) (fun _ _ _ _ _ => (pg_name (i := 1) sc_count.nd rfl (Or.inl rfl))) (fun _ _ _ _ _ => pts_nil) (fun _ _ _ _ _ => (pe_op op_add pe_int (pe_callB (kc_sum K) rfl T.b_sum (by decide +kernel) (pa_cons (pe_lc (own := [("inner", 2)]) (g := gName 2) (tt := tYes) rfl sc_count.nd (kpi_tup K (pe_call G_bodies_of (hr.mono (by omega)) (by rfl) T.g_bodies_of T.k_bodies_of T.bd_bodies_of .nil pass0 (pa_cons (pv 1) pa_nil))) (blkOk_by (N := ["body", "step", "inner"]) (sc := relS _ (defScope s_count)) (by decide +kernel)) (fun _ _ _ _ _ => (pg_name (i := 2) sc_count.nd rfl (Or.inl rfl))) (fun _ _ _ _ _ => pts_nil) (fun _ _ _ _ _ => (pe_call G_count (hr.mono (by omega)) (by rfl) T.g_count T.k_count T.bd_count .nil pass0 (pa_cons (pv 2) pa_nil)))) pa_nil))))) pa_nil)))), ?_⟩
    refine Pst.go (K := K) ?_
    apply pst_ret _ k
    apply ed_is
    · refine ed_sum (ns := b.map fun s => (cntS s : Int)) ?_
      apply EvDL.rd
      apply edl_is
      · apply edl_lcM (xs := b) (f := encS) (p := fun _ => true) (g := fun s => .int (cntS s : Int))
        · walk_at "ev"
        · exact encB_map b
        · omega
        · intro x
          rfl
        · intro x v H1 e1 hx tx
          exact tk_yes
        · intro x v H1 e1 hx _ tx
          apply ed_is
          · apply ed_I0i
            · exact ed_ci
            · refine ed_sum (ns := (bods x).map fun b => (cntB b : Int)) ?_
              apply EvDL.rd
              apply edl_is
              · apply edl_lcM (xs := bods x) (f := fun b => .tuple (encB b)) (p := fun _ => true) (g := fun b => .int (cntB b : Int))
                · apply ed_call
                  · walk_at "eva"
                  · exact ⟨x, rfl, rfl⟩
                · rfl
                · cases x <;> simp [bods]
                · intro x
                  rfl
                · intro x v H1 e1 hx tx
                  exact tk_yes
                · intro y v H1 e1 hy _ ty
                  have hy2 := bods_sm (smB_mem hs hx) hy
                  have hy3 := bods_dp hy
                  have hx3 := dpB_mem hx
                  apply ed_call
                  · walk_at "eva"
                  · exact ⟨y, rfl, hy2.1, hy2.2, by omega, rfl⟩
              · rw [filter_yes, List.map_map]
                rfl
          · rw [cntS_bods]
            have := sum_cast ((bods x).map cntB)
            rw [List.map_map] at this
            show PyData.int (1 + ((bods x).map fun b => (cntB b : Int)).sum) = _
            rw [show ((bods x).map fun b => (cntB b : Int)) = (bods x).map ((fun n : Nat => (n : Int)) ∘ cntB) from rfl, this]
            rfl
      · rw [filter_yes, List.map_map]
        rfl
    · have := sum_cast (b.map cntS)
      rw [List.map_map] at this
      rw [show (b.map fun s => (cntS s : Int)) = b.map ((fun n : Nat => (n : Int)) ∘ cntS) from rfl, this, cntB_sum]
end
end Hw

set_option maxRecDepth 100000
set_option maxHeartbeats 4000000
/-! PC5: works, programs, ways -/
namespace Hw
open PySem PySem.Spec PyProof.Rows L2 Evl
local macro_rules | `(tactic| walk_at "dd") => `(tactic| first | rfl | decide | (simp; done) | omega)
local macro_rules | `(tactic| walk_at "td") => `(tactic| first | assumption | exact Td.int _ | exact Td.bl _ | exact Td.str _ | exact Td.non | exact Td.tup (by assumption) (by assumption))
local macro_rules | `(tactic| walk_at "ev") => `(tactic| first
  | exact ed_ci | exact ed_cs | exact ed_cb | exact ed_cn
  | (apply ed_cg; assumption)
  | (apply ed_var; (rfl); (walk_at "td"))
  | (apply ed_ixT; (walk_at "ev"); (walk_at "ev"); (first | rfl | assumption))
  | (apply ed_rowI; (rfl); (assumption); (walk_at "ev"); (rfl))
  | (apply ed_ixL; (apply EvDL.rd; walk_at "edl"); (walk_at "ev"); (rfl))
  | (apply ed_intb; (walk_at "ev"))
  | (apply ed_len; walk_at "ev")
  | (apply ed_lenV; (apply ev_rowR; (rfl); (assumption); (walk_at "ev"); (rfl)); (assumption))
  | (apply ed_Ii; (walk_at "ev"); (walk_at "ev"); (walk_at "cc"))
  | (apply ed_isi; (walk_at "ev"); (rfl))
  | (apply ed_I0i; (walk_at "ev"); (walk_at "ev"))
  | (apply ed_I0b; (walk_at "ev"); (walk_at "ev"))
  | (apply ed_eqi; (walk_at "ev"); (walk_at "ev"))
  | (apply ed_nei; (walk_at "ev"); (walk_at "ev"))
  | (apply ed_andF; walk_at "ev")
  | (apply ed_andV; (walk_at "ev"); (intro _; walk_at "ev"))
  | (apply ed_orT; walk_at "ev")
  | (apply ed_orV; (walk_at "ev"); (intro _; walk_at "ev"))
  | (apply ed_notT; walk_at "ev")
  | (apply ed_notF; walk_at "ev")
  | (apply ed_notV; walk_at "ev")
  | (apply ed_chain; (walk_at "ev"); (walk_at "ev"); (intro _; walk_at "ev"))
  | (apply ed_eqS; (walk_at "ev"); (walk_at "ev"); (walk_at "bb"); (walk_at "bb"))
  | (apply ed_neS; (walk_at "ev"); (walk_at "ev"); (walk_at "bb"); (walk_at "bb"))
  | (apply ed_inT; (walk_at "ev"); (walk_at "ev"); (rfl); (rfl))
  | (apply ed_niT; (walk_at "ev"); (walk_at "ev"); (rfl); (rfl))
  | (apply ed_tup; (walk_at "eva"); (walk_at "bb"))
  | (apply ed_sl; (walk_at "ev"); (walk_at "evo"); (walk_at "evo"))
  | (apply ed_eqN; (apply EvDL.rd; walk_at "edl"); (walk_at "edl"); (walk_at "bb"))
  | (apply ed_neN; (apply EvDL.rd; walk_at "edl"); (walk_at "edl"); (walk_at "bb"))
  | (apply ed_ixL; (apply edr_var; (rfl); (assumption); (assumption)); (walk_at "ev"); (first | rfl | assumption))
  | (apply ed_lenL; (apply edr_var; (rfl); (assumption); (assumption)))
  | (apply ed_call; (walk_at "eva"); (walk_at "post")))
local macro_rules | `(tactic| walk_at "edl") => `(tactic| first
  | assumption
  | (apply edl_lst; (walk_at "eva"); (walk_at "bb")))
local macro_rules | `(tactic| walk_at "eva") => `(tactic| first
  | exact eda_nil
  | (apply eda_cons; (walk_at "ev"); (walk_at "eva")))
local macro_rules | `(tactic| walk_at "evo") => `(tactic| first
  | exact eok_none
  | (apply eok_some; walk_at "ev"))
local macro_rules | `(tactic| walk_at "bb") => `(tactic| first | rfl | assumption | (simp; done) | (simp; omega) | decide +kernel)
local macro_rules | `(tactic| walk_at "et") => `(tactic| first
  | exact tk_yes
  | (apply tk_andF; walk_at "et")
  | (apply tk_and; (walk_at "et"); (intro _; walk_at "et"))
  | (apply tk_orT; walk_at "et")
  | (apply tk_or; (walk_at "et"); (intro _; walk_at "et"))
  | (apply tk_notT; walk_at "et")
  | (apply tk_notF; walk_at "et")
  | (apply tk_not; walk_at "et")
  | (apply tk_v; walk_at "ev")
  | (apply tk_vB; walk_at "ev"))
local macro_rules | `(tactic| walk_at "if") => `(tactic| first
  | (apply pst_whenF; (walk_at "et"); (walk_at "bb"))
  | (apply pst_whenT; (walk_at "et"); (walk_at "bb")))
local macro_rules | `(tactic| walk_at "post") => `(tactic| first | assumption | exact ⟨_, _, rfl, rfl⟩ | exact ⟨_, _, _, _, rfl, by omega, by omega, rfl⟩ | exact ⟨_, _, _, 0, rfl, by omega, by omega, rfl⟩)
local macro_rules | `(tactic| walk_at "cc") => `(tactic| first | assumption | decide | omega | (refine ⟨?_, ?_⟩ <;> first | decide | omega) | (exact Or.inl (by constructor <;> omega)))

def smP (p : List Wk) : Prop := p.length ≤ 1000 ∧ ∀ w ∈ p, w.body.length ≤ 1000 ∧ smB w.body = true
theorem ints_lay (f : Nat → Int) : ∀ xs : List Nat, PyData.canLayAll0 (xs.map fun i => PyData.int (f i)) = true
  | [] => by simp [PyData.canLayAll0]
  | x :: r => by simp [PyData.canLayAll0, PyData.canLay0, ints_lay f r]
theorem strs_lay : ∀ xs : List Str, (∀ s ∈ xs, (PyData.str s).canLay0 = true) → PyData.canLayAll0 (xs.map PyData.str) = true
  | [], _ => by simp [PyData.canLayAll0]
  | x :: r, h => by
    simp only [List.map_cons, PyData.canLayAll0, Bool.and_eq_true]
    exact ⟨h x List.mem_cons_self, strs_lay r fun s hs => h s (List.mem_cons_of_mem _ hs)⟩
def pWork (ds : List PyData) (d : PyData) : Prop := ∃ (p : List Wk) (at_ : Nat), ds = [encP p, .int (at_ : Int)] ∧ smP p ∧ at_ < p.length ∧ d = .bool (okW p at_)
/-- need_program(program) as a statement -/
theorem pst_callNP {K : PySem.W.Frag} {σ : L2.St} {H : Hp} {D : Ends} {tz : TS} {E : XK} {n : Nat} {v : V} {spNP : Sp} (h : σ[n]? = some (some v)) (hsp : ∀ H1, Ex H H1 → ∀ Q : VK, (∀ H', Ex H1 H' → Q .non H') → spNP [v] H1 Q E)
    (k : Pst K tz D σ H) : Pst K (tSeq (tDrop (tCall spNP [] E (tCons (tVar n) tNil))) tz) D σ H := fun H1 a => ⟨v, h, hsp H1 a _ fun H' e => k H' (a.trans e)⟩
section
variable {P : Program} {w : World} {K : PySem.W.Frag} {mg : Str → Option Value} {base : Heap} (T : Tx K mg)
include T
theorem ok_is_work (G_is_body : Fn_is_body T P w base CX0 22 (spF K (pBody 6))) (G_count : Fn_count T P w base CX0 8 (spF K (pCount 7))) : Fn_is_work T P w base CX0 23 (spF K pWork) := by
  refine T.F_is_work.ok sc_is_work (spF_len fun ds d h => by obtain ⟨s, _, rfl, _⟩ := h; rfl) fun cdv A outer s H vs Q E hr h => ?_
  obtain ⟨ds, d, ht, ⟨p, at_, rfl, hs, hat, rfl⟩, k⟩ := h
  obtain _ | ⟨t1, _ | ⟨t2, _ | _⟩⟩ := ht
  refine ⟨_, (pss_cons (ps_asg (pe_ix (kix_tup K) (pv 0) (pv 1) (fun _ _ => rfl)) (kpg_tup K rfl (pgs_cons (pg_name (i := 2) sc_is_work.nd rfl (Or.inl rfl)) (pgs_cons (pg_name (i := 3) sc_is_work.nd rfl (Or.inl rfl)) (pgs_cons (pg_name (i := 4) sc_is_work.nd rfl (Or.inl rfl)) pgs_nil)))))
  (pss_cons (ps_if (PW.pt (pw_or (pt_not (pt_chain op_le op_le pe_int (pv 2) (pe_gint rfl T.g_MOST_PARAMS))) (pw_or (pt_not (pt_chain op_le op_le pe_int (pv 3) (pe_gint rfl T.g_MOST_OWNS))) (pw_or1 (PW.pt (pw_and (pt_cmpR op_eq (pv 1) pe_int (nomark _)) (pw_and1 (pt_cmpR op_gt (pv 2) pe_int (nomark _)))))))))
    (pss_one (ps_ret pe_bl))
    pss_nil)
  (pss_one (ps_ret (pe_and (pe_call G_is_body (hr.mono (by omega)) (by rfl) T.g_is_body T.k_is_body T.bd_is_body .nil pass0 (pa_cons (pv 0) (pa_cons (pv 1) (pa_cons (pv 4) (pa_cons pe_int pa_nil))))) (pe_one (pe_cmpR op_le (pe_call G_count (hr.mono (by omega)) (by rfl) T.g_count T.k_count T.bd_count .nil pass0 (pa_cons (pv 4) pa_nil)) (pe_gint rfl T.g_MOST_STEPS) (nomark _)))))))), ?_⟩
  cases t2
  have hwk : p[at_]? = some p[at_] := List.getElem?_eq_getElem hat
  have hix : atI (p.map encW) (at_ : Int) = some (encW p[at_]) := atI_enc hwk
  have hsm := hs.2 p[at_] (List.getElem_mem hat)
  refine Pst.go (K := K) ?_
  refine pst_unp3 (d1 := .int (p[at_].params : Int)) (d2 := .int (p[at_].owns : Int)) (d3 := .tuple (encB p[at_].body)) ?_ ?_
  · apply ed_is
    · walk_at "ev"
    · rfl
  intro v1 v2 v3 H1 e1 u1 u2 u3
  cases u1
  cases u2
  replace t1 := t1.ex e1
  replace k := fun v H' (e : Ex H1 H') => k v H' (e1.trans e)
  apply pst_when
  · walk_at "et"
  · intro hb
    apply pst_ret _ k
    apply ed_is
    · walk_at "ev"
    · simp only [okW, hwk]
      simp at hb ⊢
      intros
      exfalso
      omega
  · intro hb
    apply pst_ret _ k
    apply ed_is
    · apply ed_andV
      · apply ed_call
        · walk_at "eva"
        · exact ⟨p, at_, p[at_].body, 0, rfl, hat, hsm.1, hsm.2, by omega, by omega, rfl⟩
      · intro hok
        apply ed_I0b
        · apply ed_call
          · walk_at "eva"
          · exact ⟨p[at_].body, rfl, hsm.1, hsm.2, by have := okB_dp _ _ hok; omega, rfl⟩
        · walk_at "ev"
    · simp only [okW, hwk]
      simp at hb
      have h1 : p[at_].params ≤ 3 := by omega
      have h2 : p[at_].owns ≤ 99 := by omega
      have h3 : at_ = 0 → p[at_].params = 0 := by omega
      have h4 : (decide (at_ ≠ 0) || decide (p[at_].params = 0)) = true := by
        by_cases e : at_ = 0
        · simp [h3 e]
        · simp [e]
      rw [h4]
      simp [h1, h2]
      congr 1
      exact decide_eq_decide.mpr (by omega)
/-- refused, or let by -/
def spNP (K : PySem.W.Frag) : Sp := fun vs H Q E => ∃ p, TdAll K H vs [encP p] ∧ smP p ∧ (okP p = true → ∀ H', Ex H H' → Q .non H') ∧ (okP p = false → ∀ H', Ex H H' → E (.ref (He.ga K "BadProgram")) none H')
theorem ok_need_program (G_is_work : Fn_is_work T P w base CX0 23 (spF K pWork)) : Fn_need_program T P w base (L2.CX P w) 24 (spNP K) := by
  refine T.F_need_program.ok sc_need_program (fun vs H Q E h => by obtain ⟨p, ht, _⟩ := h; exact ht.length) fun cdv A outer s H vs Q E hr h => ?_
  obtain ⟨p, ht, hs, kq, ke⟩ := h
  obtain _ | ⟨t1, _ | _⟩ := ht
  refine ⟨_, (pss_cons (ps_if (pt_not (pt_chain op_le op_le pe_int (pe_callB (kc_len K) rfl T.b_len PySem.boot_len (pa_cons (pv 0) pa_nil)) (pe_gint rfl T.g_MOST_WORKS)))
    (pss_one (ps_raise rfl (takes_of rfl rfl rfl rfl) (pmk_own PySem.F.excBase_ValueError T.x_BadProgram T.g_BadProgram T.k_BadProgram (raises_own T.be_BadProgram T.ty_BadProgram) (by exact rfl))))
    pss_nil)
  (pss_one (ps_if (pt_cmpR (kop_ne K hr.units) (pe_lc (own := [("at", 1)]) (g := gName 1) (tt := _) rfl sc_need_program.nd (pi_range1 rfl T.b_range (pa_cons (pe_callB (kc_len K) rfl T.b_len PySem.boot_len (pa_cons (pv 0) pa_nil)) pa_nil)) (blkOk_by (N := ["program", "at"]) (sc := defScope s_need_program) (by decide +kernel)) (fun _ _ _ _ _ => (pg_name (i := 1) sc_need_program.nd rfl (Or.inl rfl))) (fun _ _ _ _ _ => (pts_one (pt_not (pt_val (pe_call G_is_work (hr.mono (by omega)) (by rfl) T.g_is_work T.k_is_work T.bd_is_work .nil pass0 (pa_cons (pv 0) (pa_cons (pv 1) pa_nil))))))) (fun _ _ _ _ _ => (pv 1))) (pe_lst pa_nil) (nomark _))
    (pss_one (ps_raise rfl (takes_of rfl rfl rfl rfl) (pmk_own PySem.F.excBase_ValueError T.x_BadProgram T.g_BadProgram T.k_BadProgram (raises_own T.be_BadProgram T.ty_BadProgram) (by exact rfl))))
    pss_nil))), ?_⟩
  refine Pst.go (K := K) ?_
  apply pst_when
  · walk_at "et"
  · intro hb H1 e1
    refine ke ?_ H1 e1
    simp [encP] at hb
    simp [okP]
    omega
  intro hb
  simp at hb
  apply pst_if (b := !((List.range p.length).all (okW p)))
  · apply tk_v
    apply ed_is
    · apply ed_neN
      · apply EvDL.rd
        apply edl_lcR (n := p.length) (p := fun i => !okW p i) (g := fun i => .int (i : Int))
        · apply eda_cons
          · apply ed_is
            · walk_at "ev"
            · simp
          · exact eda_nil
        · have := hs.1
          omega
        · intro x
          rfl
        · intro i H1 e1 hi
          replace t1 := t1.ex e1
          apply tk_not
          apply tk_vB
          apply ed_call
          · walk_at "eva"
          · exact ⟨p, i, rfl, hs, hi, rfl⟩
        · intro i H1 e1 hi _
          walk_at "ev"
      · walk_at "edl"
      · exact ints_lay _ _
    · rw [List.isEmpty_map, filter_not_isEmpty]
  · intro hb2 H1 e1
    refine ke ?_ H1 e1
    simp only [okP]
    simp at hb2
    simp
    intros
    obtain ⟨x, h1, h2⟩ := hb2
    exact ⟨x, h1, h2⟩
  · intro hb2 H1 e1
    refine kq ?_ H1 e1
    simp only [okP]
    simp at hb2
    simp
    refine ⟨by omega, by omega, hb2⟩
def spNY (K : PySem.W.Frag) : Sp := fun vs H Q E => ∃ p ys, TdAll K H vs [encP p, encY ys] ∧ smP p ∧ smY ys ∧ (okP p = true → okY p ys = true → ∀ H', Ex H H' → Q .non H') ∧ (okP p = false → ∀ H', Ex H H' → E (.ref (He.ga K "BadProgram")) none H') ∧
  (okP p = true → okY p ys = false → ∀ H', Ex H H' → E (.ref (He.ga K "BadWays")) none H')
theorem ok_need_ways (G_need_program : Fn_need_program T P w base (L2.CX P w) 24 (spNP K)) : Fn_need_ways T P w base (L2.CX P w) 25 (spNY K) := by
  refine T.F_need_ways.ok sc_need_ways (fun vs H Q E h => by obtain ⟨p, _, ht, _⟩ := h; exact ht.length) fun cdv A outer s H vs Q E hr h => ?_
  obtain ⟨p, ys, ht, hs, hy, kq, ke, kw⟩ := h
  obtain _ | ⟨t1, _ | ⟨t2, _ | _⟩⟩ := ht
  refine ⟨_, (pss_cons (ps_expr (pe_call G_need_program (hr.mono (by omega)) (by rfl) T.g_need_program T.k_need_program T.bd_need_program .nil (passes_call (takes_of rfl rfl rfl rfl) (fun _ _ _ _ h => h)) (pa_cons (pv 0) pa_nil)))
  (pss_cons (ps_if (pt_cmpR op_ne (pe_callB (kc_len K) rfl T.b_len PySem.boot_len (pa_cons (pv 1) pa_nil)) (pe_callB (kc_len K) rfl T.b_len PySem.boot_len (pa_cons (pv 0) pa_nil)) (nomark _))
    (pss_one (ps_raise rfl (takes_of rfl rfl rfl rfl) (pmk_own PySem.F.excBase_ValueError T.x_BadWays T.g_BadWays T.k_BadWays (raises_own T.be_BadWays T.ty_BadWays) (by exact rfl))))
    pss_nil)
  (pss_one (ps_for (passes_of rfl) rfl (kpi_zip K (by rfl) T.b_zip (pa_cons (pv 0) (pa_cons (pv 1) pa_nil))) (kpg_tup K rfl (pgs_cons (pg_name (i := 2) sc_need_ways.nd rfl (Or.inl rfl)) (pgs_cons (pg_name (i := 3) sc_need_ways.nd rfl (Or.inl rfl)) pgs_nil)))
    (pss_one (ps_if (PW.pt (pw_or (pt_cmpR op_ne (pe_callB (kc_len K) rfl T.b_len PySem.boot_len (pa_cons (pv 3) pa_nil)) (pe_ix (kix_tup K) (pv 2) pe_int (fun _ _ => rfl)) (nomark _)) (pw_or1 (pt_cmpR (kop_ne K hr.units) (pe_lc (own := [("way", 4)]) (g := gName 4) (tt := _) rfl sc_need_ways.nd (kpi_tup K (pv 3)) (blkOk_by (N := ["program", "ways", "work", "some", "way"]) (sc := defScope s_need_ways) (by decide +kernel)) (fun _ _ _ _ _ => (pg_name (i := 4) sc_need_ways.nd rfl (Or.inl rfl))) (fun _ _ _ _ _ => (pts_one (pt_cmpR (kop_ni K) (pv 4) (pe_glob (v := .ref _) rfl T.g_WAYS rfl) rfl))) (fun _ _ _ _ _ => (pv 4))) (pe_lst pa_nil) (nomark _)))))
      (pss_one (ps_raise rfl (takes_of rfl rfl rfl rfl) (pmk_own PySem.F.excBase_ValueError T.x_BadWays T.g_BadWays T.k_BadWays (raises_own T.be_BadWays T.ty_BadWays) (by exact rfl))))
      pss_nil)))))), ?_⟩
  refine Pst.go (K := K) ?_
  cases hok : okP p with
  | false =>
    intro H1 e1
    exact ⟨_, rfl, p, .cons (t1.ex e1) .nil, hs, (fun e => by rw [hok] at e; cases e), fun _ H' e => ke hok H' (e1.trans e)⟩
  | true =>
    refine pst_callNP (v := _) rfl (fun H1 e1 Q kQ => ⟨p, .cons (t1.ex e1) .nil, hs, fun _ => kQ, (fun e => by rw [hok] at e; cases e)⟩) ?_
    have hW : ∀ H, Td K H (.ref (He.ga K "WAYS")) (.tuple [.str "back", .str "copy", .str "place", .str "want"]) := fun H => .tup (T.t_WAYS H) (.cons (.str _) (.cons (.str _) (.cons (.str _) (.cons (.str _) .nil))))
    apply pst_when
    · walk_at "et"
    · intro hb H1 e1
      refine kw hok ?_ H1 e1
      simp at hb
      have hb2 : ¬ ys.length = p.length := by omega
      simp [okY, hb2]
    intro hb
    simp at hb
    have hlen : ys.length = p.length := by omega
    refine pst_forZ p ys encW (fun y => .tuple (y.map PyData.str)) ?_ hlen.symm (fun i σ' _ => ∃ a b, σ' = [some _, some _, a, b, none] ∧ ∀ j, j < i → (decide ((ys.getD j []).length = shP (shapes p) j) && (ys.getD j []).all isWay) = true) (fun _ _ _ _ _ h => h) ⟨none, none, rfl, fun j hj => by omega⟩ ?_ ?_
    · walk_at "eva"
    · rintro i x y v u σ' H1 hx hyi e1 tv tu ⟨a, b, rfl, hall⟩ N hN
      have hym := hy.2 y (List.mem_of_getElem? hyi)
      have hgd : ys.getD i [] = y := by simp [hyi]
      apply pst_if (b := !(decide (y.length = x.params) && y.all isWay))
      · apply tk_is
        · apply tk_or
          · apply tk_v
            apply ed_nei
            · walk_at "ev"
            · walk_at "ev"
          intro _
          apply tk_v
          apply ed_neN
          · apply EvDL.rd
            apply edl_lcM (xs := y) (f := PyData.str) (p := fun s => !isWay s) (g := PyData.str)
            · walk_at "ev"
            · rfl
            · omega
            · intro x
              rfl
            · intro s v H2 e2 _ ts
              apply tk_is
              · walk_at "et"
              · rfl
            · intro s v H2 e2 _ _ ts
              walk_at "ev"
          · walk_at "edl"
          · exact strs_lay (y.filter fun s => !isWay s) fun s hs2 => hym.2 s (List.mem_filter.mp hs2).1
        · rw [List.isEmpty_map, filter_not_isEmpty]
          have e : ((y.length : Int) = (x.params : Int)) ↔ y.length = x.params := by omega
          simp [e]
      · intro hb2 H2 e2
        refine kw hok ?_ H2 (e1.trans e2)
        have hi : i < p.length := (List.getElem?_eq_some_iff.mp hx).1
        have : (List.range p.length).all (fun i => decide ((ys.getD i []).length = shP (shapes p) i) && (ys.getD i []).all isWay) = false := by
          rw [List.all_eq_false]
          refine ⟨i, List.mem_range.mpr hi, ?_⟩
          rw [hgd, shP_get hx]
          intro e
          rw [e] at hb2
          cases hb2
        unfold okY
        rw [this, Bool.and_false]
      · intro hb2 H2 e2
        refine hN _ _ ⟨_, _, rfl, fun j hj => ?_⟩ e2
        by_cases e : j = i
        · subst e
          rw [hgd, shP_get hx]
          simpa using hb2
        · exact hall j (by omega)
    · rintro σ' H1 e1 ⟨a, b, rfl, hall⟩
      refine kq hok ?_ H1 e1
      simp only [okY, hlen]
      simp only [decide_true, Bool.true_and, List.all_eq_true]
      intro j hj
      exact hall j (List.mem_range.mp hj)
end
end Hw

set_option maxRecDepth 100000
set_option maxHeartbeats 4000000
/-! W4: more rules: int(a truth), steps with effects -/
namespace Hw
open PySem PySem.Spec PyProof.Rows L2 Evl
section
variable {K : PySem.W.Frag} {σ : L2.St} {H H' : Hp} {D : Ends} {tu tz tw : TS} {ds es : List PyData} {ta tr : TA} {tb te tx : TE} {t : TT} {d : PyData} {v : V} {i j : Int} {Q : VK}
/-! one step at a time, whatever it does -/
theorem w_d (h : EvD K te σ H d) (k : ∀ v H1, Ex H H1 → Td K H1 v d → Q v H1) : te σ H Q := h H (Ex.refl H) Q k
theorem w_t {b : Bool} {Q : Bool → Hp → Prop} (h : EvTK K t σ H b) (k : ∀ H1, Ex H H1 → Q b H1) : t σ H Q := h H (Ex.refl H) Q k
theorem w_dl (h : EvDL K te σ H ds) (k : ∀ p xs H1, H p = none → Ex H H1 → H1 p = some (.lst xs) → TdAll K H1 xs ds → Q (.ref p) H1) : te σ H Q := h H (Ex.refl H) Q k
theorem w_ret (h : te σ H D.rt) : tRet te D σ H := h
theorem w_cons {Q : List V → Hp → Prop} (h : te σ H fun x H1 => tr σ H1 fun xs H2 => Q (x :: xs) H2) : tCons te tr σ H Q := h
theorem w_nil {Q : List V → Hp → Prop} (h : Q [] H) : tNil σ H Q := h
theorem w_c (h : Q v H) : tC v σ H Q := h
theorem w_v {n : Nat} (hs : σ[n]? = some (some v)) (h : Q v H) : tVar n σ H Q := ⟨v, hs, h⟩
theorem w_tup (h : ta σ H fun xs H1 => xs.length ≤ sizeLine ∧ ∀ p, H1 p = none → Q (.ref p) (upd H1 p (.tup xs))) : tTup ta σ H Q := h
theorem w_asg {n : Nat} (h : te σ H fun x H1 => D.nx (σ.set n (some x)) H1) : tAsg te (gName n) D σ H := h
theorem w_seq (h : tu { D with nx := tz D } σ H) : tSeq tu tz D σ H := h
theorem w_call {sp : Sp} {E : XK} (h : ta σ H fun vs H1 => sp (vs ++ []) H1 Q E) : tCall sp [] E ta σ H Q := h
theorem w_op {r : R2} (h : tb σ H fun x H1 => te σ H1 fun y H2 => r x y H2 Q) : tOp r tb te σ H Q := h
theorem w_if (h : t σ H fun c H1 => if c = true then tb σ H1 Q else te σ H1 Q) : tIf t tb te σ H Q := h
theorem w_ifs (h : t σ H fun b H1 => if b = true then tu D σ H1 else tw D σ H1) : tIfS t tu tw D σ H := h
theorem w_test {Q : Bool → Hp → Prop} (h : te σ H fun x H' => ∃ k, x = .bl k ∧ Q k H') : tTest te σ H Q := h
theorem w_and {u : TT} {Q : Bool → Hp → Prop} (h : t σ H fun c H1 => if c = true then u σ H1 Q else Q false H1) : tAnd t u σ H Q := h
theorem w_drop (h : te σ H fun _ H1 => D.nx σ H1) : tDrop te D σ H := h
/-- xs.append(e), by what e is worth -/
theorem w_app {l : Addr} {n : Nat} {ys : List V} (hs : σ[n]? = some (some (.ref l))) (hl : H l = some (.lst ys)) (h : te σ H fun x H1 => ∃ xs, H1 l = some (.lst xs) ∧ xs.length < sizeLine ∧ D.nx σ (upd H1 l (.lst (xs ++ [x])))) :
    tDrop (tBM K "list" rAppend (tVar n) (tCons te tNil)) D σ H := ⟨.ref l, hs, .inl ⟨rfl, ys, SqL.of hl⟩, by
    show te σ H fun x H1 => rAppend (.ref l) [x] H1 fun _ H2 => D.nx σ H2
    have e : (fun (x : V) (H1 : Hp) => rAppend (.ref l) [x] H1 fun _ H2 => D.nx σ H2) = fun x H1 => ∃ xs, H1 l = some (.lst xs) ∧ xs.length < sizeLine ∧ D.nx σ (upd H1 l (.lst (xs ++ [x]))) := by
      funext x H1
      refine propext ⟨fun ⟨l2, xs, y, e1, e2, e3, e4, e5⟩ => ?_, fun ⟨xs, e3, e4, e5⟩ => ⟨l, xs, x, rfl, rfl, e3, e4, e5⟩⟩
      cases e1
      cases e2
      exact ⟨xs, e3, e4, e5⟩
    rw [e]
    exact h⟩
theorem tdall2 {v1 v2 : V} {d1 d2 : PyData} (h1 : Td K H v1 d1) (h2 : Td K H v2 d2) : TdAll K H [v1, v2] [d1, d2] := .cons h1 (.cons h2 .nil)
theorem tdall3 {v1 v2 v3 : V} {d1 d2 d3 : PyData} (h1 : Td K H v1 d1) (h2 : Td K H v2 d2) (h3 : Td K H v3 d3) : TdAll K H [v1, v2, v3] [d1, d2, d3] := .cons h1 (.cons h2 (.cons h3 .nil))
/-- a new tuple -/
theorem td_new {p : Addr} {xs : List V} (hp : H p = none) (h : TdAll K H xs ds) : Td K (upd H p (.tup xs)) (.ref p) (.tuple ds) := .tup (SqT.of upd_same) (h.ex (Ex.new hp))
end
end Hw

set_option maxRecDepth 100000
set_option maxHeartbeats 4000000
/-! PG1: what the law takes of the script -/
namespace Hw
open PySem PySem.Spec PyProof.Rows L2 Evl
local macro_rules | `(tactic| walk_at "dd") => `(tactic| first | rfl | decide | (simp; done) | omega)
local macro_rules | `(tactic| walk_at "td") => `(tactic| first | assumption | exact Td.int _ | exact Td.bl _ | exact Td.str _ | exact Td.non | exact Td.tup (by assumption) (by assumption))
local macro_rules | `(tactic| walk_at "ev") => `(tactic| first
  | exact ed_ci | exact ed_cs | exact ed_cb | exact ed_cn
  | (apply ed_cg; assumption)
  | (apply ed_var; (rfl); (walk_at "td"))
  | (apply ed_ixT; (walk_at "ev"); (walk_at "ev"); (first | rfl | assumption))
  | (apply ed_rowI; (rfl); (assumption); (walk_at "ev"); (rfl))
  | (apply ed_ixL; (apply EvDL.rd; walk_at "edl"); (walk_at "ev"); (rfl))
  | (apply ed_intb; (walk_at "ev"))
  | (apply ed_len; walk_at "ev")
  | (apply ed_lenV; (apply ev_rowR; (rfl); (assumption); (walk_at "ev"); (rfl)); (assumption))
  | (apply ed_Ii; (walk_at "ev"); (walk_at "ev"); (walk_at "cc"))
  | (apply ed_isi; (walk_at "ev"); (rfl))
  | (apply ed_I0i; (walk_at "ev"); (walk_at "ev"))
  | (apply ed_I0b; (walk_at "ev"); (walk_at "ev"))
  | (apply ed_eqi; (walk_at "ev"); (walk_at "ev"))
  | (apply ed_nei; (walk_at "ev"); (walk_at "ev"))
  | (apply ed_andF; walk_at "ev")
  | (apply ed_andV; (walk_at "ev"); (intro _; walk_at "ev"))
  | (apply ed_orT; walk_at "ev")
  | (apply ed_orV; (walk_at "ev"); (intro _; walk_at "ev"))
  | (apply ed_notT; walk_at "ev")
  | (apply ed_notF; walk_at "ev")
  | (apply ed_notV; walk_at "ev")
  | (apply ed_chain; (walk_at "ev"); (walk_at "ev"); (intro _; walk_at "ev"))
  | (apply ed_eqS; (walk_at "ev"); (walk_at "ev"); (walk_at "bb"); (walk_at "bb"))
  | (apply ed_neS; (walk_at "ev"); (walk_at "ev"); (walk_at "bb"); (walk_at "bb"))
  | (apply ed_inT; (walk_at "ev"); (walk_at "ev"); (rfl); (rfl))
  | (apply ed_niT; (walk_at "ev"); (walk_at "ev"); (rfl); (rfl))
  | (apply ed_tup; (walk_at "eva"); (walk_at "bb"))
  | (apply ed_sl; (walk_at "ev"); (walk_at "evo"); (walk_at "evo"))
  | (apply ed_eqN; (apply EvDL.rd; walk_at "edl"); (walk_at "edl"); (walk_at "bb"))
  | (apply ed_neN; (apply EvDL.rd; walk_at "edl"); (walk_at "edl"); (walk_at "bb"))
  | (apply ed_ixL; (apply edr_var; (rfl); (assumption); (assumption)); (walk_at "ev"); (first | rfl | assumption))
  | (apply ed_lenL; (apply edr_var; (rfl); (assumption); (assumption)))
  | (apply ed_call; (walk_at "eva"); (walk_at "post")))
local macro_rules | `(tactic| walk_at "edl") => `(tactic| first
  | assumption
  | (apply edl_lst; (walk_at "eva"); (walk_at "bb")))
local macro_rules | `(tactic| walk_at "eva") => `(tactic| first
  | exact eda_nil
  | (apply eda_cons; (walk_at "ev"); (walk_at "eva")))
local macro_rules | `(tactic| walk_at "evo") => `(tactic| first
  | exact eok_none
  | (apply eok_some; walk_at "ev"))
local macro_rules | `(tactic| walk_at "bb") => `(tactic| first | rfl | assumption | (simp; done) | (simp; omega) | decide +kernel)
local macro_rules | `(tactic| walk_at "et") => `(tactic| first
  | exact tk_yes
  | (apply tk_andF; walk_at "et")
  | (apply tk_and; (walk_at "et"); (intro _; walk_at "et"))
  | (apply tk_orT; walk_at "et")
  | (apply tk_or; (walk_at "et"); (intro _; walk_at "et"))
  | (apply tk_notT; walk_at "et")
  | (apply tk_notF; walk_at "et")
  | (apply tk_not; walk_at "et")
  | (apply tk_v; walk_at "ev")
  | (apply tk_vB; walk_at "ev"))
local macro_rules | `(tactic| walk_at "if") => `(tactic| first
  | (apply pst_whenF; (walk_at "et"); (walk_at "bb"))
  | (apply pst_whenT; (walk_at "et"); (walk_at "bb")))
local macro_rules | `(tactic| walk_at "post") => `(tactic| first | assumption | exact ⟨_, _, rfl, rfl⟩ | exact ⟨_, _, _, _, rfl, by omega, by omega, rfl⟩ | exact ⟨_, _, _, 0, rfl, by omega, by omega, rfl⟩)
local macro_rules | `(tactic| walk_at "cc") => `(tactic| first | assumption | decide | omega | (refine ⟨?_, ?_⟩ <;> first | decide | omega) | (exact Or.inl (by constructor <;> omega)))

/-- the law's row stands at r, over the script at s -/
def RowAt (K : PySem.W.Frag) (s : Addr) (ns : List Int) (H : Hp) (r : Addr) : Prop := ∃ a b c : Int, H r = some (.lst [.ref s, .int a, .int b, .int c]) ∧ SqL K H s (ns.map V.int) ∧ 0 ≤ a ∧ 0 ≤ b ∧ b < 2147483647 ∧ 0 ≤ c
theorem seq_upd {K : PySem.W.Frag} {H : Hp} {s r a : Addr} {ns : List Int} {xs ys : List V} (hr : H r = some (.lst (.ref a :: xs))) (h : SqL K H s (ns.map V.int)) : SqL K (upd H r (.lst ys)) s (ns.map V.int) := by
  rcases h with (h | ⟨o, h⟩) | h
  · refine .inl (.inl ?_)
    rw [upd_ne]
    · exact h
    · intro e
      subst e
      rw [h] at hr
      cases ns <;> simp at hr
  · refine .inl (.inr ⟨o, ?_⟩)
    rw [upd_ne]
    · exact h
    · intro e
      subst e
      rw [h] at hr
      cases hr
  · exact .inr h
theorem RowAt.ex {K : PySem.W.Frag} {s : Addr} {ns : List Int} {H H' : Hp} {r : Addr} (h : RowAt K s ns H r) (e : Ex H H') : RowAt K s ns H' r := by
  obtain ⟨a, b, c, h1, h2, h3⟩ := h
  exact ⟨a, b, c, e _ _ h1, ex_l e h2, h3⟩
theorem RowAt.mu {K : PySem.W.Frag} {s : Addr} {ns : List Int} {H : Hp} {r : Addr} (h : RowAt K s ns H r) : ∃ u, H r = some u ∧ Mut (some u) := by
  obtain ⟨a, b, c, h1, _⟩ := h
  exact ⟨_, h1, True.intro⟩
theorem RowAt.upd {K : PySem.W.Frag} {s : Addr} {ns : List Int} {H : Hp} {r : Addr} {xs : List V} {a b c : Int} (hr : H r = some (.lst (.ref s :: xs))) (h : SqL K H s (ns.map V.int)) (h1 : 0 ≤ a) (h2 : 0 ≤ b) (h3 : b < 2147483647) (h4 : 0 ≤ c) : RowAt K s ns (upd H r (.lst [.ref s, .int a, .int b, .int c])) r :=
  ⟨a, b, c, upd_same, seq_upd hr h, h1, h2, h3, h4⟩
theorem fm_nat {m : Int} (hm : 0 < m) (x : Int) : ∃ k : Nat, x.fmod m = (k : Int) ∧ (k : Int) < m := by
  have h1 : x.fmod m = x % m := Int.fmod_eq_emod_of_nonneg x (by omega)
  have h2 := Int.emod_nonneg x (show m ≠ 0 by omega)
  have h3 := Int.emod_lt_of_pos x hm
  exact ⟨(x % m).toNat, by omega, by omega⟩
theorem fd_nn {m c : Int} (hm : 0 < m) (hc : 0 ≤ c) : 0 ≤ c.fdiv m := by
  rw [Int.fdiv_eq_ediv_of_nonneg c (by omega)]
  exact Int.ediv_nonneg hc (by omega)
/-- a number below many -/
def spTaken (K : PySem.W.Frag) : Sp := fun vs H Q _ => ∃ (r s : Addr) (ns : List Int) (m : Int), vs = [.ref r, .int m] ∧ RowAt K s ns H r ∧ ns.length ≤ 63 ∧ 0 < m ∧ m < 1000001 ∧ ∀ (k : Nat) H', (k : Int) < m → Fr [r] H H' → RowAt K s ns H' r → Q (.int (k : Int)) H'
section
variable {P : Program} {w : World} {K : PySem.W.Frag} {mg : Str → Option Value} {base : Heap} (T : Tx K mg)
include T
theorem ok_taken : Fn__law_taken T P w base CX0 1 (spTaken K) := by
  refine T.F__law_taken.ok sc__law_taken (fun vs H Q E h => by obtain ⟨r, s, ns, m, rfl, _⟩ := h; rfl) fun cdv A outer s0 H vs Q E hr h => ?_
  obtain ⟨r, s, ns, m, rfl, ⟨a, b, c, hrow, hscr, ha, hb, hb2, hc⟩, hn, hm, hm2, k⟩ := h
  refine ⟨_, (pss_cons (ps_if (pt_cmpR op_gt (pe_ix (kix_list K) (pv 0) pe_int (fun _ _ => rfl)) pe_int (nomark _))
    (pss_cons (ps_set (i := 2) sc__law_taken.nd rfl (Or.inl rfl) (pe_op op_modN (pe_ix (kix_list K) (pv 0) pe_int (fun _ _ => rfl)) (pv 1)))
    (pss_cons (ps_asg (pe_op op_fdivN (pe_ix (kix_list K) (pv 0) pe_int (fun _ _ => rfl)) (pv 1)) (pg_sub (pv 0) pe_int set_list))
    (pss_one (ps_ret (pv 2)))))
    pss_nil)
  (pss_cons (ps_asg (pe_op op_add (pe_ix (kix_list K) (pv 0) pe_int (fun _ _ => rfl)) pe_int) (pg_sub (pv 0) pe_int set_list))
  (pss_cons (ps_if (pt_cmpR op_gt (pe_ix (kix_list K) (pv 0) pe_int (fun _ _ => rfl)) (pe_callB (kc_len K) rfl T.b_len PySem.boot_len (pa_cons (pe_ix (kix_list K) (pv 0) pe_int (fun _ _ => rfl)) pa_nil)) (nomark _))
    (pss_cons (ps_asg (pe_op op_modN (pe_op op_add (pe_op op_mul (pe_ix (kix_list K) (pv 0) pe_int (fun _ _ => rfl)) pe_int) pe_int) pe_int) (pg_sub (pv 0) pe_int set_list))
    (pss_one (ps_ret (pe_op op_modN (pe_op op_fdivN (pe_ix (kix_list K) (pv 0) pe_int (fun _ _ => rfl)) pe_int) (pv 1)))))
    pss_nil)
  (pss_cons (ps_set (i := 3) sc__law_taken.nd rfl (Or.inl rfl) (pe_ix (kix_list K) (pe_ix (kix_list K) (pv 0) pe_int (fun _ _ => rfl)) (pe_op op_sub (pe_ix (kix_list K) (pv 0) pe_int (fun _ _ => rfl)) pe_int) (fun _ _ => rfl)))
  (pss_cons (ps_asg (pe_op op_modN (pe_op op_add (pe_op op_add (pe_op op_mul (pe_ix (kix_list K) (pv 0) pe_int (fun _ _ => rfl)) pe_int) (pv 3)) pe_int) pe_int) (pg_sub (pv 0) pe_int set_list))
  (pss_cons (ps_if (pt_cmpR op_ge (pv 3) (pe_op op_pow pe_int pe_int) (nomark _))
    (pss_one (ps_asg (pe_op op_fdivN (pv 3) (pv 1)) (pg_sub (pv 0) pe_int set_list)))
    pss_nil)
  (pss_one (ps_ret (pe_op op_modN (pv 3) (pv 1)))))))))), ?_⟩
  have hmn : m ≠ 0 := by omega
  have hdv : CDivN c m := ⟨hmn, by omega⟩
  have hrow2 : SqL K H r [.ref s, .int a, .int b, .int c] := SqL.of hrow
  refine Pst.go (K := K) ?_
  apply pst_when
  · walk_at "et"
  · intro hb1
    apply pst_asg
    · walk_at "ev"
    intro v H1 e1 t1
    cases t1
    have hrow3 : SqL K H1 r [.ref s, .int a, .int b, .int c] := ex_l e1 hrow2
    apply pst_setI
    · rfl
    · exact e1 _ _ hrow
    · walk_at "ev"
    · walk_at "ev"
    · rfl
    intro H2 e2
    obtain ⟨kk, ek, hk⟩ := fm_nat hm c
    have hd := fd_nn hm hc
    apply pst_ret
    · rw [ek]
      walk_at "ev"
    intro v H3 e3 t3
    cases t3
    have hr2 : H2 r = some (.lst [.ref s, .int a, .int b, .int c]) := e2 _ _ (e1 _ _ hrow)
    exact k kk H3 hk (((Fr.of (e1.trans e2)).trans (Fr.upd (List.mem_cons_self))).trans (Fr.of e3)) ((RowAt.upd hr2 (ex_l (e1.trans e2) hscr) ha hb hb2 hd).ex e3)
  · intro hb1
    apply pst_setI
    · rfl
    · exact hrow
    · walk_at "ev"
    · walk_at "ev"
    · rfl
    intro H1 e1
    have hr1 := e1 _ _ hrow
    have hs1 := seq_upd (ys := [.ref s, .int (a + 1), .int b, .int c]) hr1 (ex_l e1 hscr)
    have hR1 : RowAt K s ns (upd H1 r (.lst [.ref s, .int (a + 1), .int b, .int c])) r := RowAt.upd hr1 (ex_l e1 hscr) (by omega) hb hb2 hc
    have hF1 : Fr [r] H (upd H1 r (.lst [.ref s, .int (a + 1), .int b, .int c])) := (Fr.of e1).trans (Fr.upd (List.mem_cons_self))
    have hq1 : upd H1 r (.lst [.ref s, .int (a + 1), .int b, .int c]) r = some (.lst [.ref s, .int (a + 1), .int b, .int c]) := upd_same
    show Pst K _ _ _ (upd H1 r (.lst [.ref s, .int (a + 1), .int b, .int c]))
    generalize upd H1 r (.lst [.ref s, .int (a + 1), .int b, .int c]) = H2 at *
    have hl2 : SqL K H2 r [.ref s, .int (a + 1), .int b, .int c] := SqL.of hq1
    apply pst_when
    · walk_at "et"
    · intro hb3
      apply pst_setI
      · rfl
      · exact hq1
      · walk_at "ev"
      · walk_at "ev"
      · rfl
      intro H3 e3
      obtain ⟨bb, eb, hbb⟩ := fm_nat (m := 2147483647) (by decide) (b * 48271 + 11)
      have hr3 := e3 _ _ hq1
      have hR3 : RowAt K s ns (upd H3 r (.lst [.ref s, .int (a + 1), .int (bb : Int), .int c])) r := RowAt.upd hr3 (ex_l e3 hs1) (by omega) (by omega) hbb hc
      have hF3 : Fr [r] H (upd H3 r (.lst [.ref s, .int (a + 1), .int (bb : Int), .int c])) := (hF1.trans (Fr.of e3)).trans (Fr.upd (List.mem_cons_self))
      rw [eb]
      have hq3 : upd H3 r (.lst [.ref s, .int (a + 1), .int (bb : Int), .int c]) r = some (.lst [.ref s, .int (a + 1), .int (bb : Int), .int c]) := upd_same
      show Pst K _ _ _ (upd H3 r (.lst [.ref s, .int (a + 1), .int (bb : Int), .int c]))
      generalize upd H3 r (.lst [.ref s, .int (a + 1), .int (bb : Int), .int c]) = H4 at *
      have hl4 : SqL K H4 r [.ref s, .int (a + 1), .int (bb : Int), .int c] := SqL.of hq3
      have h7 : CDivN (bb : Int) 7 := ⟨by decide, by decide⟩
      obtain ⟨kk, ek, hk⟩ := fm_nat hm ((bb : Int).fdiv 7)
      apply pst_ret (d := .int (kk : Int))
      · rw [← ek]
        walk_at "ev"
      intro v H5 e5 t5
      cases t5
      exact k kk H5 hk (hF3.trans (Fr.of e5)) (hR3.ex e5)
    · intro hb3
      simp at hb3
      obtain ⟨x, hx⟩ : ∃ x, ns[a.toNat]? = some x := by
        have : a.toNat < ns.length := by omega
        exact ⟨ns[a.toNat], List.getElem?_eq_getElem this⟩
      have hat : atI (ns.map V.int) (a + 1 - 1) = some (.int x) := by
        have e : (a + 1 - 1 : Int) = ((a.toNat : Nat) : Int) := by omega
        rw [e]
        exact atI_nat (by rw [List.getElem?_map, hx] <;> rfl)
      apply pst_asg (d := .int x)
      · apply ed_i
        refine ev_op (ev_rowR (K := K) (i := 0) rfl hl2 ?_ rfl) (EvD.iv (K := K) (i := a + 1 - 1) ?_) (rv_ixL hs1 hat)
        · walk_at "ev"
        · walk_at "ev"
      intro v H3 e3 t3
      cases t3
      have hl3 : SqL K H3 r [.ref s, .int (a + 1), .int b, .int c] := ex_l e3 hl2
      apply pst_setI
      · rfl
      · exact e3 _ _ hq1
      · walk_at "ev"
      · walk_at "ev"
      · rfl
      intro H4 e4
      obtain ⟨bb, eb, hbb⟩ := fm_nat (m := 2147483647) (by decide) (b * 48271 + x + 11)
      have hr4 := e4 _ _ (e3 _ _ hq1)
      rw [eb]
      have hs4 := seq_upd (ys := [.ref s, .int (a + 1), .int (bb : Int), .int c]) hr4 (ex_l (e3.trans e4) hs1)
      have hR4 : RowAt K s ns (upd H4 r (.lst [.ref s, .int (a + 1), .int (bb : Int), .int c])) r := RowAt.upd hr4 (ex_l (e3.trans e4) hs1) (by omega) (by omega) hbb hc
      have hF4 : Fr [r] H (upd H4 r (.lst [.ref s, .int (a + 1), .int (bb : Int), .int c])) := (hF1.trans (Fr.of (e3.trans e4))).trans (Fr.upd (List.mem_cons_self))
      have hq4 : upd H4 r (.lst [.ref s, .int (a + 1), .int (bb : Int), .int c]) r = some (.lst [.ref s, .int (a + 1), .int (bb : Int), .int c]) := upd_same
      show Pst K _ _ _ (upd H4 r (.lst [.ref s, .int (a + 1), .int (bb : Int), .int c]))
      generalize upd H4 r (.lst [.ref s, .int (a + 1), .int (bb : Int), .int c]) = H5 at *
      have h18 : CPow 10 18 := ⟨by decide, by decide, by decide⟩
      have hdx : CDivN x m := ⟨hmn, by omega⟩
      obtain ⟨kk, ek, hk⟩ := fm_nat hm x
      apply pst_when
      · walk_at "et"
      · intro hb4
        simp at hb4
        apply pst_setI1
        · rfl
        · exact hq4
        · walk_at "ev"
        · walk_at "ev"
        · rfl
        intro H6 e6
        have hd := fd_nn (c := x) hm (by omega)
        dsimp only
        refine Pst.go (K := K) ?_
        have hR6 : RowAt K s ns (upd H6 r (.lst [.ref s, .int (a + 1), .int (bb : Int), .int (x.fdiv m)])) r := RowAt.upd (e6 _ _ hq4) (ex_l e6 hs4) (by omega) (by omega) hbb hd
        have hF6 : Fr [r] H (upd H6 r (.lst [.ref s, .int (a + 1), .int (bb : Int), .int (x.fdiv m)])) := (hF4.trans (Fr.of e6)).trans (Fr.upd (List.mem_cons_self))
        apply pst_ret (d := .int (kk : Int))
        · rw [← ek]
          walk_at "ev"
        intro v H7 e7 t7
        cases t7
        exact k kk H7 hk (hF6.trans (Fr.of e7)) (hR6.ex e7)
      · intro hb4
        apply pst_ret (d := .int (kk : Int))
        · rw [← ek]
          walk_at "ev"
        intro v H7 e7 t7
        cases t7
        exact k kk H7 hk (hF4.trans (Fr.of e7)) (hR4.ex e7)
end
end Hw

set_option maxRecDepth 100000
set_option maxHeartbeats 4000000
/-! PG2: drawn things and places -/
namespace Hw
open PySem PySem.Spec PyProof.Rows L2 Evl
local macro_rules | `(tactic| walk_at "dd") => `(tactic| first | rfl | decide | (simp; done) | omega)
local macro_rules | `(tactic| walk_at "td") => `(tactic| first | assumption | exact Td.int _ | exact Td.bl _ | exact Td.str _ | exact Td.non | exact Td.tup (by assumption) (by assumption))
local macro_rules | `(tactic| walk_at "ev") => `(tactic| first
  | exact ed_ci | exact ed_cs | exact ed_cb | exact ed_cn
  | (apply ed_cg; assumption)
  | (apply ed_var; (rfl); (walk_at "td"))
  | (apply ed_ixT; (walk_at "ev"); (walk_at "ev"); (first | rfl | assumption))
  | (apply ed_rowI; (rfl); (assumption); (walk_at "ev"); (rfl))
  | (apply ed_ixL; (apply EvDL.rd; walk_at "edl"); (walk_at "ev"); (rfl))
  | (apply ed_intb; (walk_at "ev"))
  | (apply ed_len; walk_at "ev")
  | (apply ed_lenV; (apply ev_rowR; (rfl); (assumption); (walk_at "ev"); (rfl)); (assumption))
  | (apply ed_Ii; (walk_at "ev"); (walk_at "ev"); (walk_at "cc"))
  | (apply ed_isi; (walk_at "ev"); (rfl))
  | (apply ed_I0i; (walk_at "ev"); (walk_at "ev"))
  | (apply ed_I0b; (walk_at "ev"); (walk_at "ev"))
  | (apply ed_eqi; (walk_at "ev"); (walk_at "ev"))
  | (apply ed_nei; (walk_at "ev"); (walk_at "ev"))
  | (apply ed_andF; walk_at "ev")
  | (apply ed_andV; (walk_at "ev"); (intro _; walk_at "ev"))
  | (apply ed_orT; walk_at "ev")
  | (apply ed_orV; (walk_at "ev"); (intro _; walk_at "ev"))
  | (apply ed_notT; walk_at "ev")
  | (apply ed_notF; walk_at "ev")
  | (apply ed_notV; walk_at "ev")
  | (apply ed_chain; (walk_at "ev"); (walk_at "ev"); (intro _; walk_at "ev"))
  | (apply ed_eqS; (walk_at "ev"); (walk_at "ev"); (walk_at "bb"); (walk_at "bb"))
  | (apply ed_neS; (walk_at "ev"); (walk_at "ev"); (walk_at "bb"); (walk_at "bb"))
  | (apply ed_inT; (walk_at "ev"); (walk_at "ev"); (rfl); (rfl))
  | (apply ed_niT; (walk_at "ev"); (walk_at "ev"); (rfl); (rfl))
  | (apply ed_tup; (walk_at "eva"); (walk_at "bb"))
  | (apply ed_sl; (walk_at "ev"); (walk_at "evo"); (walk_at "evo"))
  | (apply ed_eqN; (apply EvDL.rd; walk_at "edl"); (walk_at "edl"); (walk_at "bb"))
  | (apply ed_neN; (apply EvDL.rd; walk_at "edl"); (walk_at "edl"); (walk_at "bb"))
  | (apply ed_ixL; (apply edr_var; (rfl); (assumption); (assumption)); (walk_at "ev"); (first | rfl | assumption))
  | (apply ed_lenL; (apply edr_var; (rfl); (assumption); (assumption)))
  | (apply ed_call; (walk_at "eva"); (walk_at "post")))
local macro_rules | `(tactic| walk_at "edl") => `(tactic| first
  | assumption
  | (apply edl_lst; (walk_at "eva"); (walk_at "bb")))
local macro_rules | `(tactic| walk_at "eva") => `(tactic| first
  | exact eda_nil
  | (apply eda_cons; (walk_at "ev"); (walk_at "eva")))
local macro_rules | `(tactic| walk_at "evo") => `(tactic| first
  | exact eok_none
  | (apply eok_some; walk_at "ev"))
local macro_rules | `(tactic| walk_at "bb") => `(tactic| first | rfl | assumption | (simp; done) | (simp; omega) | decide +kernel)
local macro_rules | `(tactic| walk_at "et") => `(tactic| first
  | exact tk_yes
  | (apply tk_andF; walk_at "et")
  | (apply tk_and; (walk_at "et"); (intro _; walk_at "et"))
  | (apply tk_orT; walk_at "et")
  | (apply tk_or; (walk_at "et"); (intro _; walk_at "et"))
  | (apply tk_notT; walk_at "et")
  | (apply tk_notF; walk_at "et")
  | (apply tk_not; walk_at "et")
  | (apply tk_v; walk_at "ev")
  | (apply tk_vB; walk_at "ev"))
local macro_rules | `(tactic| walk_at "if") => `(tactic| first
  | (apply pst_whenF; (walk_at "et"); (walk_at "bb"))
  | (apply pst_whenT; (walk_at "et"); (walk_at "bb")))
local macro_rules | `(tactic| walk_at "post") => `(tactic| first | assumption | exact ⟨_, _, rfl, rfl⟩ | exact ⟨_, _, _, _, rfl, by omega, by omega, rfl⟩ | exact ⟨_, _, _, 0, rfl, by omega, by omega, rfl⟩)
local macro_rules | `(tactic| walk_at "cc") => `(tactic| first | assumption | decide | omega | (refine ⟨?_, ?_⟩ <;> first | decide | omega) | (exact Or.inl (by constructor <;> omega)))

def dpT : Th → Nat
  | .cell t => dpT t + 1
  | .sum a b => max (dpT a) (dpT b) + 1
  | _ => 0
def wfT (ps os : Nat) : Th → Bool
  | .num n => decide (n < 3)
  | .own k => decide (k < os)
  | .par k => decide (k < ps)
  | .cell t => wfT ps os t
  | .sum a b => wfT ps os a && wfT ps os b
theorem okT_of {ps os : Nat} : ∀ (t : Th) (j : Nat), wfT ps os t = true → dpT t + j ≤ 4 → okT ps os t j = true
  | .num n, j, h, hd => by simp [wfT] at h; simp [dpT] at hd; simp [okT]; omega
  | .own n, j, h, hd => by simp [wfT] at h; simp [dpT] at hd; simp [okT]; omega
  | .par n, j, h, hd => by simp [wfT] at h; simp [dpT] at hd; simp [okT]; omega
  | .cell t, j, h, hd => by
    simp only [wfT] at h
    simp only [dpT] at hd
    simp only [okT, okT_of t (j + 1) h (by omega), Bool.and_true, decide_eq_true_eq]
    omega
  | .sum a b, j, h, hd => by
    simp only [wfT, Bool.and_eq_true] at h
    simp only [dpT] at hd
    simp only [okT, okT_of a (j + 1) h.1 (by omega), okT_of b (j + 1) h.2 (by omega), Bool.and_true, decide_eq_true_eq]
    omega
def szD (ps os : Nat) : PyData := .tuple [.int (ps : Int), .int (os : Int)]
def spThing (K : PySem.W.Frag) (n : Nat) : Sp := fun vs H Q _ => ∃ (r s : Addr) (ns : List Int) (v : V) (ps os : Nat), vs = [.ref r, v, .int (n : Int)] ∧ RowAt K s ns H r ∧ ns.length ≤ 63 ∧ Td K H v (szD ps os) ∧ ps ≤ 99 ∧ os ≤ 99 ∧
  ∀ t x H', wfT ps os t = true → dpT t ≤ n + 1 → Fr [r] H H' → RowAt K s ns H' r → Td K H' x (encT t) → Q x H'
def spPlace (K : PySem.W.Frag) (n : Nat) : Sp := fun vs H Q _ => ∃ (r s : Addr) (ns : List Int) (v : V) (ps os : Nat), vs = [.ref r, v, .int (n : Int)] ∧ RowAt K s ns H r ∧ ns.length ≤ 63 ∧ Td K H v (szD ps os) ∧ ps ≤ 99 ∧ os ≤ 99 ∧
  ∀ t x H', wfT ps os t = true → isPlace t = true → dpT t ≤ n + 2 → Fr [r] H H' → RowAt K s ns H' r → Td K H' x (encT t) → Q x H'
section
variable {K : PySem.W.Frag} {σ : L2.St} {H H' : Hp} {te tx : TE} {Q : VK} {r s : Addr} {ns : List Int} {E : XK} {n i : Nat}
theorem RowAt.keep (h : RowAt K s ns H r) (f : Fr [r] H H') : Keep K H H' := f.keep fun a ha => by
  have e : a = r := by simpa using ha
  rw [e]
  exact h.mu
theorem w_taken {m : Int} (hs : σ[n]? = some (some (.ref r))) (hR : RowAt K s ns H r) (hn : ns.length ≤ 63) (hm : EvD K te σ H (.int m)) (h0 : 0 < m) (h1 : m < 1000001)
    (k : ∀ (k : Nat) H', (k : Int) < m → Fr [r] H H' → RowAt K s ns H' r → Q (.int (k : Int)) H') : tCall (spTaken K) [] E (tCons (tVar n) (tCons te tNil)) σ H Q :=
  ⟨.ref r, hs, hm.iv H (Ex.refl H) _ fun H1 e1 => ⟨r, s, ns, m, rfl, hR.ex e1, hn, h0, h1, fun j H' hj hf hR' => k j H' hj ((Fr.of e1).trans hf) hR'⟩⟩
theorem w_thing {m ps os : Nat} (hs : σ[n]? = some (some (.ref r))) (hR : RowAt K s ns H r) (hn : ns.length ≤ 63) (hz : EvD K tx σ H (szD ps os)) (hp : ps ≤ 99) (ho : os ≤ 99) (hm : EvD K te σ H (.int (m : Int)))
    (k : ∀ t x H', wfT ps os t = true → dpT t ≤ m + 1 → Fr [r] H H' → RowAt K s ns H' r → Td K H' x (encT t) → Q x H') : tCall (spThing K m) [] E (tCons (tVar n) (tCons tx (tCons te tNil))) σ H Q :=
  ⟨.ref r, hs, hz H (Ex.refl H) _ fun v H1 e1 tv => hm.iv H1 e1 _ fun H2 e2 => ⟨r, s, ns, v, ps, os, rfl, hR.ex (e1.trans e2), hn, tv.ex e2, hp, ho, fun t x H' h1 h2 hf hR' td => k t x H' h1 h2 ((Fr.of (e1.trans e2)).trans hf) hR' td⟩⟩
theorem w_place {m ps os : Nat} (hs : σ[n]? = some (some (.ref r))) (hR : RowAt K s ns H r) (hn : ns.length ≤ 63) (hz : EvD K tx σ H (szD ps os)) (hp : ps ≤ 99) (ho : os ≤ 99) (hm : EvD K te σ H (.int (m : Int)))
    (k : ∀ t x H', wfT ps os t = true → isPlace t = true → dpT t ≤ m + 2 → Fr [r] H H' → RowAt K s ns H' r → Td K H' x (encT t) → Q x H') : tCall (spPlace K m) [] E (tCons (tVar n) (tCons tx (tCons te tNil))) σ H Q :=
  ⟨.ref r, hs, hz H (Ex.refl H) _ fun v H1 e1 tv => hm.iv H1 e1 _ fun H2 e2 => ⟨r, s, ns, v, ps, os, rfl, hR.ex (e1.trans e2), hn, tv.ex e2, hp, ho, fun t x H' h1 h2 h3 hf hR' td => k t x H' h1 h2 h3 ((Fr.of (e1.trans e2)).trans hf) hR' td⟩⟩
end
theorem pick58 (n : Nat) : atI [PyData.int 5, PyData.int 8] (if decide (0 < (n : Int)) = true then 1 else 0) = some (.int (if n = 0 then 5 else 8)) := by
  cases n with
  | zero => rfl
  | succ n =>
    rw [if_pos (decide_eq_true (by omega)), if_neg (by omega)]
    rfl
section
variable {P : Program} {w : World} {K : PySem.W.Frag} {mg : Str → Option Value} {base : Heap} (T : Tx K mg)
include T
theorem ok_thing (GT : Fn__law_taken T P w base CX0 1 (spTaken K)) : ∀ n : Nat, Fn__law_thing T P w base CX0 (n + 2) (spThing K n) := by
  have all : ∀ (n : Nat) (spI : Sp) (hspI : 0 < n → spI = spThing K (n - 1)), Fn__law_thing T P w base CX0 (n + 1) spI → Fn__law_thing T P w base CX0 (n + 2) (spThing K n) := by
    intro n spI hspI G_I
    have G__law_taken := GT
    have G__law_thing := G_I
    refine T.F__law_thing.ok sc__law_thing (fun vs H Q E h => by obtain ⟨r, s, ns, v, ps, os, rfl, _⟩ := h; rfl) fun cdv A outer s0 H vs Q E hr h => ?_
    obtain ⟨r, s, ns, v, ps, os, rfl, hR, hn, tz, hps, hos, k⟩ := h
    refine ⟨_, (pss_cons (ps_set (i := 3) sc__law_thing.nd rfl (Or.inl rfl) (pe_call G__law_taken (hr.mono (by omega)) (by rfl) T.g__law_taken T.k__law_taken T.bd__law_taken .nil pass0 (pa_cons (pv 0) (pa_cons (pe_ix (kix_list K) (pe_lst (pa_cons pe_int (pa_cons pe_int pa_nil))) (pe_callTy kc_int rfl T.b_int (by decide +kernel) (pa_cons (pe_cmpR op_gt (pv 2) pe_int (nomark _)) pa_nil)) (fun _ _ => rfl)) pa_nil))))
  (pss_cons (ps_if (PW.pt (pw_and (pt_cmpR op_lt (pv 3) pe_int (nomark _)) (pw_and1 (pt_cmpR op_gt (pe_ix (kix_tup K) (pv 1) pe_int (fun _ _ => rfl)) pe_int (nomark _)))))
    (pss_one (ps_ret (pe_tup (pa_cons pe_str (pa_cons (pe_call G__law_taken (hr.mono (by omega)) (by rfl) T.g__law_taken T.k__law_taken T.bd__law_taken .nil pass0 (pa_cons (pv 0) (pa_cons (pe_ix (kix_tup K) (pv 1) pe_int (fun _ _ => rfl)) pa_nil))) pa_nil)))))
    pss_nil)
  (pss_cons (ps_if (PW.pt (pw_and (pt_cmpR op_eq (pv 3) pe_int (nomark _)) (pw_and1 (pt_cmpR op_gt (pe_ix (kix_tup K) (pv 1) pe_int (fun _ _ => rfl)) pe_int (nomark _)))))
    (pss_one (ps_ret (pe_tup (pa_cons pe_str (pa_cons (pe_call G__law_taken (hr.mono (by omega)) (by rfl) T.g__law_taken T.k__law_taken T.bd__law_taken .nil pass0 (pa_cons (pv 0) (pa_cons (pe_ix (kix_tup K) (pv 1) pe_int (fun _ _ => rfl)) pa_nil))) pa_nil)))))
    pss_nil)
  (pss_cons (ps_if (pt_cmpR op_gt (pv 3) pe_int (nomark _))
    (pss_one (ps_ret (pe_tup (pa_cons pe_str (pa_cons (pe_call G__law_thing (hr.mono (by omega)) (by rfl) T.g__law_thing T.k__law_thing T.bd__law_thing .nil pass0 (pa_cons (pv 0) (pa_cons (pv 1) (pa_cons (pe_op op_sub (pv 2) pe_int) pa_nil)))) (pa_cons (pe_call G__law_thing (hr.mono (by omega)) (by rfl) T.g__law_thing T.k__law_thing T.bd__law_thing .nil pass0 (pa_cons (pv 0) (pa_cons (pv 1) (pa_cons (pe_op op_sub (pv 2) pe_int) pa_nil)))) pa_nil))))))
    pss_nil)
  (pss_cons (ps_if (pt_cmpR op_gt (pv 3) pe_int (nomark _))
    (pss_one (ps_ret (pe_tup (pa_cons pe_str (pa_cons (pe_ifExp (pt_cmpR op_gt (pv 2) pe_int (nomark _)) (pe_call G__law_thing (hr.mono (by omega)) (by rfl) T.g__law_thing T.k__law_thing T.bd__law_thing .nil pass0 (pa_cons (pv 0) (pa_cons (pv 1) (pa_cons (pe_op op_sub (pv 2) pe_int) pa_nil)))) (pe_tup (pa_cons pe_str (pa_cons (pe_call G__law_taken (hr.mono (by omega)) (by rfl) T.g__law_taken T.k__law_taken T.bd__law_taken .nil pass0 (pa_cons (pv 0) (pa_cons pe_int pa_nil))) pa_nil)))) pa_nil)))))
    pss_nil)
  (pss_one (ps_ret (pe_tup (pa_cons pe_str (pa_cons (pe_call G__law_taken (hr.mono (by omega)) (by rfl) T.g__law_taken T.k__law_taken T.bd__law_taken .nil pass0 (pa_cons (pv 0) (pa_cons pe_int pa_nil))) pa_nil)))))))))), ?_⟩
    refine w_seq (w_asg (w_taken rfl hR hn (m := if n = 0 then 5 else 8) ?_ (by split <;> decide) (by split <;> decide) fun k1 H1 hk1 f1 R1 => ?_))
    · apply ed_ixL
      · apply EvDL.rd
        walk_at "edl"
      · walk_at "ev"
      · exact pick58 n
    have tz1 : Td K H1 v (.tuple [.int (ps : Int), .int (os : Int)]) := tz.kp (hR.keep f1)
    dsimp only
    refine Pst.go (K := K) ?_
    apply pst_when
    · walk_at "et"
    · intro hb H2 e2
      simp at hb
      have tz2 := tz1.ex e2
      refine w_ret (w_tup (w_cons (w_c (w_cons (w_taken rfl (R1.ex e2) hn (m := (ps : Int)) ?_ (by omega) (by omega) fun k2 H3 hk2 f3 R3 => w_nil ⟨by show 2 ≤ sizeLine; decide, fun p hp => ?_⟩)))))
      · walk_at "ev"
      exact k (.par k2) _ _ (by simp [wfT]; omega) (by simp [dpT]) (((f1.trans (Fr.of e2)).trans f3).trans (Fr.of (Ex.new hp))) (R3.ex (Ex.new hp)) (td_new hp (tdall2 (.str _) (.int _)))
    intro hb
    apply pst_when
    · walk_at "et"
    · intro hb H2 e2
      simp at hb
      have tz2 := tz1.ex e2
      refine w_ret (w_tup (w_cons (w_c (w_cons (w_taken rfl (R1.ex e2) hn (m := (os : Int)) ?_ (by omega) (by omega) fun k2 H3 hk2 f3 R3 => w_nil ⟨by show 2 ≤ sizeLine; decide, fun p hp => ?_⟩)))))
      · walk_at "ev"
      exact k (.own k2) _ _ (by simp [wfT]; omega) (by simp [dpT]) (((f1.trans (Fr.of e2)).trans f3).trans (Fr.of (Ex.new hp))) (R3.ex (Ex.new hp)) (td_new hp (tdall2 (.str _) (.int _)))
    intro hb
    apply pst_when
    · walk_at "et"
    · intro hb H2 e2
      simp at hb
      have tz2 := tz1.ex e2
      have hn0 : n ≠ 0 := by
        intro e
        rw [if_pos e] at hk1
        omega
      obtain ⟨m, rfl⟩ : ∃ m, n = m + 1 := ⟨n - 1, by omega⟩
      rw [hspI (by omega)]
      have em : m + 1 - 1 = m := by omega
      rw [em]
      have eI : ∀ H, EvD K (tOp (rI0 fun i j => .int (i - j)) (tVar 2) (tC (.int 1))) (List.set (L2.start ["_law_row", "_law_sizes", "_law_within", "_law_way"] [.ref r, v, .int ((m + 1 : Nat) : Int)]) 3 (some (.int (k1 : Int)))) H (.int (m : Int)) := by
        intro H
        apply ed_is
        · walk_at "ev"
        · simp
      refine w_ret (w_tup (w_cons (w_c (w_cons (w_thing (ps := ps) (os := os) rfl (R1.ex e2) hn ?_ hps hos (eI _) fun ta xa H3 wa da f3 R3 tda => ?_)))))
      · unfold szD
        walk_at "ev"
      have tz3 := tz2.kp ((R1.ex e2).keep f3)
      refine w_cons (w_thing (ps := ps) (os := os) rfl R3 hn ?_ hps hos (eI _) fun tb xb H4 wb db f4 R4 tdb => w_nil ⟨by show 3 ≤ sizeLine; decide, fun p hp => ?_⟩)
      · unfold szD
        walk_at "ev"
      have tda4 := tda.kp (R3.keep f4)
      exact k (.sum ta tb) _ _ (by simp [wfT, wa, wb]) (by simp only [dpT]; omega) ((((f1.trans (Fr.of e2)).trans f3).trans f4).trans (Fr.of (Ex.new hp))) (R4.ex (Ex.new hp)) (td_new hp (tdall3 (.str _) tda4 tdb))
    intro hb
    apply pst_when
    · walk_at "et"
    · intro hb H2 e2
      have tz2 := tz1.ex e2
      refine w_ret (w_tup (w_cons (w_c (w_cons (w_if (w_t (K := K) (b := decide (0 < (n : Int))) ?_ fun H3 e3 => ?_))))))
      · walk_at "et"
      have tz3 := tz2.ex e3
      have R3 := (R1.ex e2).ex e3
      have f3 : Fr [r] H H3 := (f1.trans (Fr.of e2)).trans (Fr.of e3)
      by_cases hn0 : n = 0
      · subst hn0
        refine iteF ?_
        refine w_tup (w_cons (w_c (w_cons (w_taken rfl R3 hn (m := 3) ?_ (by decide) (by decide) fun k2 H4 hk2 f4 R4 => w_nil ⟨by show 2 ≤ sizeLine; decide, fun p hp => ?_⟩))))
        · walk_at "ev"
        refine w_nil ⟨by show 2 ≤ sizeLine; decide, fun p2 hp2 => ?_⟩
        have t5 : Td K (upd H4 p (.tup [.str "num", .int (k2 : Int)])) (.ref p) (encT (.num k2)) := td_new hp (tdall2 (.str _) (.int _))
        exact k (.cell (.num k2)) _ _ (by simp [wfT]; omega) (by simp [dpT]) (((f3.trans f4).trans (Fr.of (Ex.new hp))).trans (Fr.of (Ex.new hp2))) ((R4.ex (Ex.new hp)).ex (Ex.new hp2)) (td_new hp2 (tdall2 (.str _) t5))
      · obtain ⟨m, rfl⟩ : ∃ m, n = m + 1 := ⟨n - 1, by omega⟩
        rw [hspI (by omega)]
        have em : m + 1 - 1 = m := by omega
        rw [em]
        rw [if_pos (decide_eq_true (by omega))]
        refine w_thing (ps := ps) (os := os) rfl R3 hn ?_ hps hos ?_ fun ta xa H4 wa da f4 R4 tda => ?_
        · unfold szD
          walk_at "ev"
        · apply ed_is
          · walk_at "ev"
          · simp
        refine w_nil ⟨by show 2 ≤ sizeLine; decide, fun p hp => ?_⟩
        exact k (.cell ta) _ _ (by simp [wfT, wa]) (by simp only [dpT]; omega) ((f3.trans f4).trans (Fr.of (Ex.new hp))) (R4.ex (Ex.new hp)) (td_new hp (tdall2 (.str _) tda))
    intro hb H2 e2
    refine w_ret (w_tup (w_cons (w_c (w_cons (w_taken rfl (R1.ex e2) hn (m := 3) ?_ (by omega) (by omega) fun k2 H3 hk2 f3 R3 => w_nil ⟨by show 2 ≤ sizeLine; decide, fun p hp => ?_⟩)))))
    · walk_at "ev"
    exact k (.num k2) _ _ (by simp [wfT]; omega) (by simp [dpT]) (((f1.trans (Fr.of e2)).trans f3).trans (Fr.of (Ex.new hp))) (R3.ex (Ex.new hp)) (td_new hp (tdall2 (.str _) (.int _)))
  intro n
  induction n with
  | zero => exact all 0 (fun _ _ _ _ => False) (fun h => absurd h (Nat.lt_irrefl _)) (fn_vac fun _ _ _ _ h => h)
  | succ n ih => exact all (n + 1) (spThing K n) (fun _ => rfl) ih
theorem ok_place {n : Nat} (GT : Fn__law_thing T P w base CX0 (n + 2) (spThing K n)) : Fn__law_place T P w base CX0 (n + 3) (spPlace K n) := by
  have G__law_thing := GT
  refine T.F__law_place.ok sc__law_place (fun vs H Q E h => by obtain ⟨r, s, ns, v, ps, os, rfl, _⟩ := h; rfl) fun cdv A outer s0 H vs Q E hr h => ?_
  obtain ⟨r, s, ns, v, ps, os, rfl, hR, hn, tz, hps, hos, k⟩ := h
  refine ⟨_, (pss_cons (ps_set (i := 3) sc__law_place.nd rfl (Or.inl rfl) (pe_call G__law_thing (hr.mono (by omega)) (by rfl) T.g__law_thing T.k__law_thing T.bd__law_thing .nil pass0 (pa_cons (pv 0) (pa_cons (pv 1) (pa_cons (pv 2) pa_nil)))))
  (pss_one (ps_ret (pe_ifExp (pt_cmpR (kop_in K) (pe_ix (kix_tup K) (pv 3) pe_int (fun _ _ => rfl)) (pe_tup (pa_cons pe_str (pa_cons pe_str (pa_cons pe_str pa_nil)))) rfl) (pv 3) (pe_tup (pa_cons pe_str (pa_cons (pv 3) pa_nil))))))), ?_⟩
  refine w_seq (w_asg (w_thing (ps := ps) (os := os) rfl hR hn ?_ hps hos ?_ fun t x H1 wt dt f1 R1 td => ?_))
  · walk_at "ev"
  · walk_at "ev"
  dsimp only
  refine w_ret (w_if (w_t (K := K) (b := isPlace t) ?_ fun H2 e2 => ?_))
  · cases t <;> (apply tk_is; (walk_at "et"); (simp [isPlace]))
  obtain hp | hp : isPlace t = true ∨ isPlace t = false := by cases isPlace t <;> simp
  · rw [hp]
    refine iteT (w_v rfl ?_)
    exact k t x H2 wt hp (by omega) (f1.trans (Fr.of e2)) (R1.ex e2) (td.ex e2)
  · rw [hp]
    refine iteF (w_tup (w_cons (w_c (w_cons (w_v rfl (w_nil ⟨by show 2 ≤ sizeLine; decide, fun p hp => ?_⟩))))))
    exact k (.cell t) _ _ (by simp [wfT, wt]) rfl (by simp only [dpT]; omega) ((f1.trans (Fr.of e2)).trans (Fr.of (Ex.new hp))) ((R1.ex e2).ex (Ex.new hp)) (td_new hp (tdall2 (.str _) (td.ex e2)))
end
end Hw

set_option maxRecDepth 100000
set_option maxHeartbeats 4000000
/-! PG3: drawn steps and bodies -/
namespace Hw
open PySem PySem.Spec PyProof.Rows L2 Evl
local macro_rules | `(tactic| walk_at "dd") => `(tactic| first | rfl | decide | (simp; done) | omega)
local macro_rules | `(tactic| walk_at "td") => `(tactic| first | assumption | exact Td.int _ | exact Td.bl _ | exact Td.str _ | exact Td.non | exact Td.tup (by assumption) (by assumption))
local macro_rules | `(tactic| walk_at "ev") => `(tactic| first
  | exact ed_ci | exact ed_cs | exact ed_cb | exact ed_cn
  | (apply ed_cg; assumption)
  | (apply ed_var; (rfl); (walk_at "td"))
  | (apply ed_ixT; (walk_at "ev"); (walk_at "ev"); (first | rfl | assumption))
  | (apply ed_rowI; (rfl); (assumption); (walk_at "ev"); (rfl))
  | (apply ed_ixL; (apply EvDL.rd; walk_at "edl"); (walk_at "ev"); (rfl))
  | (apply ed_intb; (walk_at "ev"))
  | (apply ed_len; walk_at "ev")
  | (apply ed_lenV; (apply ev_rowR; (rfl); (assumption); (walk_at "ev"); (rfl)); (assumption))
  | (apply ed_Ii; (walk_at "ev"); (walk_at "ev"); (walk_at "cc"))
  | (apply ed_isi; (walk_at "ev"); (rfl))
  | (apply ed_I0i; (walk_at "ev"); (walk_at "ev"))
  | (apply ed_I0b; (walk_at "ev"); (walk_at "ev"))
  | (apply ed_eqi; (walk_at "ev"); (walk_at "ev"))
  | (apply ed_nei; (walk_at "ev"); (walk_at "ev"))
  | (apply ed_andF; walk_at "ev")
  | (apply ed_andV; (walk_at "ev"); (intro _; walk_at "ev"))
  | (apply ed_orT; walk_at "ev")
  | (apply ed_orV; (walk_at "ev"); (intro _; walk_at "ev"))
  | (apply ed_notT; walk_at "ev")
  | (apply ed_notF; walk_at "ev")
  | (apply ed_notV; walk_at "ev")
  | (apply ed_chain; (walk_at "ev"); (walk_at "ev"); (intro _; walk_at "ev"))
  | (apply ed_eqS; (walk_at "ev"); (walk_at "ev"); (walk_at "bb"); (walk_at "bb"))
  | (apply ed_neS; (walk_at "ev"); (walk_at "ev"); (walk_at "bb"); (walk_at "bb"))
  | (apply ed_inT; (walk_at "ev"); (walk_at "ev"); (rfl); (rfl))
  | (apply ed_niT; (walk_at "ev"); (walk_at "ev"); (rfl); (rfl))
  | (apply ed_tup; (walk_at "eva"); (walk_at "bb"))
  | (apply ed_sl; (walk_at "ev"); (walk_at "evo"); (walk_at "evo"))
  | (apply ed_eqN; (apply EvDL.rd; walk_at "edl"); (walk_at "edl"); (walk_at "bb"))
  | (apply ed_neN; (apply EvDL.rd; walk_at "edl"); (walk_at "edl"); (walk_at "bb"))
  | (apply ed_ixL; (apply edr_var; (rfl); (assumption); (assumption)); (walk_at "ev"); (first | rfl | assumption))
  | (apply ed_lenL; (apply edr_var; (rfl); (assumption); (assumption)))
  | (apply ed_call; (walk_at "eva"); (walk_at "post")))
local macro_rules | `(tactic| walk_at "edl") => `(tactic| first
  | assumption
  | (apply edl_lst; (walk_at "eva"); (walk_at "bb")))
local macro_rules | `(tactic| walk_at "eva") => `(tactic| first
  | exact eda_nil
  | (apply eda_cons; (walk_at "ev"); (walk_at "eva")))
local macro_rules | `(tactic| walk_at "evo") => `(tactic| first
  | exact eok_none
  | (apply eok_some; walk_at "ev"))
local macro_rules | `(tactic| walk_at "bb") => `(tactic| first | rfl | assumption | (simp; done) | (simp; omega) | decide +kernel)
local macro_rules | `(tactic| walk_at "et") => `(tactic| first
  | exact tk_yes
  | (apply tk_andF; walk_at "et")
  | (apply tk_and; (walk_at "et"); (intro _; walk_at "et"))
  | (apply tk_orT; walk_at "et")
  | (apply tk_or; (walk_at "et"); (intro _; walk_at "et"))
  | (apply tk_notT; walk_at "et")
  | (apply tk_notF; walk_at "et")
  | (apply tk_not; walk_at "et")
  | (apply tk_v; walk_at "ev")
  | (apply tk_vB; walk_at "ev"))
local macro_rules | `(tactic| walk_at "if") => `(tactic| first
  | (apply pst_whenF; (walk_at "et"); (walk_at "bb"))
  | (apply pst_whenT; (walk_at "et"); (walk_at "bb")))
local macro_rules | `(tactic| walk_at "post") => `(tactic| first | assumption | exact ⟨_, _, rfl, rfl⟩ | exact ⟨_, _, _, _, rfl, by omega, by omega, rfl⟩ | exact ⟨_, _, _, 0, rfl, by omega, by omega, rfl⟩)
local macro_rules | `(tactic| walk_at "cc") => `(tactic| first | assumption | decide | omega | (refine ⟨?_, ?_⟩ <;> first | decide | omega) | (exact Or.inl (by constructor <;> omega)))

section
variable {K : PySem.W.Frag} {σ : L2.St} {H H' : Hp} {D : Ends} {tu : TS} {ta : TA} {ds : List PyData} {te tx tv tw ty : TE} {Q : VK} {r s sh l : Addr} {ns : List Int} {E : XK}
theorem Fr.fresh {p : Addr} {S : List Addr} (h : Fr (p :: S) H H') (hp : H p = none) : Fr S H H' := fun q o hq e => h q o (fun z => by
  rcases List.mem_cons.mp z with z | z
  · subst z
    rw [hp] at e
    cases e
  · exact hq z) e
/-- for i in range(n) -/
theorem w_forR {n j : Nat} (h : EvDA K ta σ H [.int (n : Int)]) (hn : n ≤ 100000) (Pv : Nat → L2.St → Hp → Prop) (h0 : ∀ H1, Ex H H1 → Pv 0 σ H1)
    (hs : ∀ i σ' H', i < n → Pv i σ' H' → tu { D with nx := Pv (i + 1), ct := Pv (i + 1), bk := D.nx } (σ'.set j (some (.int (i : Int)))) H') (hd : ∀ σ' H', Pv n σ' H' → D.nx σ' H') : tFor (iRng1 ta) (gName j) tu D σ H :=
  h H (Ex.refl H) _ fun ws H1 e tw => by
    obtain _ | ⟨w1, _ | _⟩ := tw
    cases w1
    refine ⟨(n : Int), rfl, by omega, by omega, ?_⟩
    have en : ((n : Int)).toNat = n := by simp
    rw [en]
    refine for_range (lo := 0) (n := n) Pv (h0 H1 e) (fun i σ' H' hi p => ?_) hd
    have e0 : (0 : Int) + (i : Int) = (i : Int) := Int.zero_add _
    show tu _ (σ'.set j (some (.int ((0 : Int) + (i : Int))))) H'
    rw [e0]
    exact hs i σ' H' hi p
def RngGo (g : TG) (tu : TS) (D : Ends) (σ : L2.St) (ws : List V) (H1 : Hp) : Prop := ∃ j : Int, ws = [.int j] ∧ -(2 ^ 62) ≤ j ∧ j < 2 ^ 62 ∧ ∃ W : Nat → Nat → L2.St → Hp → Prop, (∃ m, W 0 m σ H1) ∧ ∀ i m σ H, W i m σ H →
  ((Itr 0 j.toNat).stop i H ∧ D.nx σ H) ∨ ((Itr 0 j.toNat).go i H ∧ ∃ N : L2.St → Hp → Prop, (∀ σ' H', N σ' H' → ∃ m', m' < m ∧ W (i + 1) m' σ' H') ∧ ∀ x H', (Itr 0 j.toNat).yld i H x H' → g x σ H' fun σ2 H2 => tu { D with nx := N, ct := N, bk := D.nx } σ2 H2)
theorem w_forR0 {g : TG} (h : ta σ H (RngGo g tu D σ)) : tFor (iRng1 ta) g tu D σ H := h
theorem rng_go {n j : Nat} (hn : n ≤ 100000) (Pv : Nat → L2.St → Hp → Prop) (h0 : Pv 0 σ H) (hs : ∀ i σ' H', i < n → Pv i σ' H' → tu { D with nx := Pv (i + 1), ct := Pv (i + 1), bk := D.nx } (σ'.set j (some (.int (i : Int)))) H') (hd : ∀ σ' H', Pv n σ' H' → D.nx σ' H') : RngGo (gName j) tu D σ [.int (n : Int)] H := by
  refine ⟨(n : Int), rfl, by omega, by omega, ?_⟩
  have en : ((n : Int)).toNat = n := by simp
  rw [en]
  refine for_range (lo := 0) (n := n) Pv h0 (fun i σ' H' hi p => ?_) hd
  have e0 : (0 : Int) + (i : Int) = (i : Int) := Int.zero_add _
  show tu _ (σ'.set j (some (.int ((0 : Int) + (i : Int))))) H'
  rw [e0]
  exact hs i σ' H' hi p
theorem pst_of {t : TS} (h : ∀ H1, Ex H H1 → t D σ H1) : Pst K t D σ H := h
/-- what the law's drawing stands on: its row, the works' shapes, what is left -/
structure Gs (K : PySem.W.Frag) (s r sh l : Addr) (ns : List Int) (shs : List (Nat × Nat)) (a b : Nat) (H : Hp) : Prop where
  row : RowAt K s ns H r
  shp : ∃ xs, H sh = some (.lst xs) ∧ TdAll K H xs (shs.map fun x => szD x.1 x.2)
  lft : H l = some (.lst [.int (a : Int), .int (b : Int)])
  n1 : sh ≠ r
  n2 : sh ≠ l
  n3 : l ≠ r
  n4 : s ≠ l ∨ SqL K (fun _ => none) s (ns.map V.int)
variable {shs : List (Nat × Nat)} {a b c d : Nat}
theorem sql_none {xs : List V} (h : SqL K (fun _ => none) s xs) : SqL K H s xs := by
  rcases h with (h | ⟨o, h⟩) | h
  · cases h
  · cases h
  · exact .inr h
theorem sql_split {xs : List V} (h : SqL K H s xs) : (∃ u, H s = some u) ∨ SqL K (fun _ => none) s xs := by
  rcases h with (h | ⟨o, h⟩) | h
  · exact .inl ⟨_, h⟩
  · exact .inl ⟨_, h⟩
  · exact .inr (.inr h)
theorem sql_upd {xs : List V} {o : HO} (h : SqL K H s xs) (n : s ≠ l ∨ SqL K (fun _ => none) s xs) : SqL K (upd H l o) s xs := by
  rcases n with n | n
  · rcases h with (h | ⟨o2, h⟩) | h
    · exact .inl (.inl (by rw [upd_ne n]; exact h))
    · exact .inl (.inr ⟨o2, by rw [upd_ne n]; exact h⟩)
    · exact .inr h
  · exact sql_none n
theorem Gs.ex (g : Gs K s r sh l ns shs a b H) (e : Ex H H') : Gs K s r sh l ns shs a b H' := by
  obtain ⟨xs, h1, h2⟩ := g.shp
  exact ⟨g.row.ex e, ⟨xs, e _ _ h1, h2.ex e⟩, e _ _ g.lft, g.n1, g.n2, g.n3, g.n4⟩
theorem Gs.fr (g : Gs K s r sh l ns shs a b H) (f : Fr [r] H H') (R : RowAt K s ns H' r) : Gs K s r sh l ns shs a b H' := by
  obtain ⟨xs, h1, h2⟩ := g.shp
  exact ⟨R, ⟨xs, f _ _ (by simpa using g.n1) h1, h2.kp (g.row.keep f)⟩, f _ _ (by simpa using g.n3) g.lft, g.n1, g.n2, g.n3, g.n4⟩
theorem Gs.mu (g : Gs K s r sh l ns shs a b H) : ∀ a ∈ [r, l], ∃ u, H a = some u ∧ Mut (some u) := fun x hx => by
  rcases List.mem_cons.mp hx with e | hx
  · rw [e]; exact g.row.mu
  · have e : x = l := by simpa using hx
    rw [e]
    exact ⟨_, g.lft, True.intro⟩
theorem Gs.keep (g : Gs K s r sh l ns shs a b H) (f : Fr [r, l] H H') : Keep K H H' := f.keep g.mu
theorem Gs.setl (g : Gs K s r sh l ns shs a b H) {i j : Int} (hi : i = (c : Int)) (hj : j = (d : Int)) : Gs K s r sh l ns shs c d (upd H l (.lst [.int i, .int j])) := by
  subst hi hj
  obtain ⟨xs, h1, h2⟩ := g.shp
  obtain ⟨p, q, t, h3, h4, h5⟩ := g.row
  refine ⟨⟨p, q, t, ?_, sql_upd h4 g.n4, h5⟩, ⟨xs, ?_, h2.kp (Keep.upd g.lft True.intro)⟩, upd_same, g.n1, g.n2, g.n3, g.n4⟩
  · rw [upd_ne (Ne.symm g.n3)]
    exact h3
  · rw [upd_ne g.n2]
    exact h1
/-- a list beside what the drawing stands on -/
structure Off (K : PySem.W.Frag) (s r sh l : Addr) (ns : List Int) (p : Addr) : Prop where
  o1 : p ≠ r
  o2 : p ≠ l
  o3 : p ≠ sh
  o4 : s ≠ p ∨ SqL K (fun _ => none) s (ns.map V.int)
theorem Gs.off {p : Addr} (g : Gs K s r sh l ns shs a b H) (hp : H p = none) : Off K s r sh l ns p := by
  obtain ⟨xs, h1, h2⟩ := g.shp
  obtain ⟨p0, q, t, h3, h4, h5⟩ := g.row
  refine ⟨fun e => ?_, fun e => ?_, fun e => ?_, ?_⟩
  · subst e; rw [hp] at h3; cases h3
  · subst e; have := g.lft; rw [hp] at this; cases this
  · subst e; rw [hp] at h1; cases h1
  · rcases sql_split h4 with ⟨u, h⟩ | h
    · refine .inl fun e => ?_
      subst e; rw [hp] at h; cases h
    · exact .inr h
theorem Gs.updo {p : Addr} {xs ys : List V} (g : Gs K s r sh l ns shs a b H) (o : Off K s r sh l ns p) (hp : H p = some (.lst xs)) : Gs K s r sh l ns shs a b (upd H p (.lst ys)) := by
  obtain ⟨zs, h1, h2⟩ := g.shp
  obtain ⟨p0, q, t, h3, h4, h5⟩ := g.row
  refine ⟨⟨p0, q, t, ?_, sql_upd h4 o.o4, h5⟩, ⟨zs, ?_, h2.kp (Keep.upd hp True.intro)⟩, ?_, g.n1, g.n2, g.n3, g.n4⟩
  · rw [upd_ne (Ne.symm o.o1)]; exact h3
  · rw [upd_ne (Ne.symm o.o3)]; exact h1
  · rw [upd_ne (Ne.symm o.o2)]; exact g.lft
theorem Fr.rl (f : Fr [r] H H') : Fr [r, l] H H' := f.sub (by simp)
end
/-! what is drawn -/
def goT (shs : List (Nat × Nat)) (at_ : Nat) (t : Th) : Bool := wfT (shP shs at_) (shO shs at_) t && decide (dpT t ≤ 3)
mutual
def goS (shs : List (Nat × Nat)) (at_ : Nat) : Nat → Stm → Bool
  | _, .set p t => goT shs at_ p && (isPlace p && goT shs at_ t)
  | _, .say t => goT shs at_ t
  | 0, .ite _ _ _ => false
  | n + 1, .ite t a b => goT shs at_ t && ((decide (a.length ≤ 13) && goB shs at_ n a) && (decide (b.length ≤ 13) && goB shs at_ n b))
  | _, .call c ts => decide (at_ < c) && (decide (c < shs.length) && (decide (ts.length = shP shs c) && ts.all (goT shs at_)))
def goB (shs : List (Nat × Nat)) (at_ : Nat) : Nat → List Stm → Bool
  | _, [] => true
  | n, s :: r => goS shs at_ n s && goB shs at_ n r
end
mutual
def clS : Stm → Nat
  | .ite _ a b => clB a + clB b
  | .call _ _ => 1
  | _ => 0
def clB : List Stm → Nat
  | [] => 0
  | s :: r => clS s + clB r
end
theorem goB_app {shs : List (Nat × Nat)} {at_ n : Nat} : ∀ {xs ys : List Stm}, goB shs at_ n xs = true → goB shs at_ n ys = true → goB shs at_ n (xs ++ ys) = true
  | [], ys, _, h => by simpa using h
  | x :: xs, ys, h1, h2 => by
    simp only [goB, Bool.and_eq_true] at h1
    simp only [List.cons_append, goB, h1.1, goB_app h1.2 h2, Bool.and_self]
theorem cntB_app : ∀ xs ys : List Stm, cntB (xs ++ ys) = cntB xs + cntB ys
  | [], ys => by simp [cntB]
  | x :: xs, ys => by simp only [List.cons_append, cntB, cntB_app xs ys]; omega
theorem clB_app : ∀ xs ys : List Stm, clB (xs ++ ys) = clB xs + clB ys
  | [], ys => by simp [clB]
  | x :: xs, ys => by simp only [List.cons_append, clB, clB_app xs ys]; omega
def shOk (shs : List (Nat × Nat)) : Prop := shs.length ≤ 4 ∧ ∀ x ∈ shs, x.1 ≤ 3 ∧ x.2 ≤ 10
def spStep (K : PySem.W.Frag) (n : Nat) : Sp := fun vs H Q _ => ∃ (r s sh l : Addr) (ns : List Int) (shs : List (Nat × Nat)) (at_ a b : Nat), vs = [.ref r, .ref sh, .int (at_ : Int), .ref l, .int (n : Int)] ∧ Gs K s r sh l ns shs a b H ∧ ns.length ≤ 63 ∧ shOk shs ∧ at_ < shs.length ∧
  ∀ st x H' a' b', goS shs at_ n st = true → cntS st + a' ≤ a + 1 → clS st + b' ≤ b → Fr [r, l] H H' → Gs K s r sh l ns shs a' b' H' → Td K H' x (encS st) → Q x H'
def spBody (K : PySem.W.Frag) (n : Nat) : Sp := fun vs H Q _ => ∃ (r s sh l : Addr) (ns : List Int) (shs : List (Nat × Nat)) (at_ a b : Nat), vs = [.ref r, .ref sh, .int (at_ : Int), .ref l, .int (n : Int)] ∧ Gs K s r sh l ns shs a b H ∧ ns.length ≤ 63 ∧ shOk shs ∧ at_ < shs.length ∧
  ∀ bd x H' a' b', bd.length ≤ 13 → goB shs at_ n bd = true → cntB bd + a' ≤ a → clB bd + b' ≤ b → Fr [r, l] H H' → Gs K s r sh l ns shs a' b' H' → Td K H' x (.tuple (encB bd)) → Q x H'
section
variable {K : PySem.W.Frag} {σ : L2.St} {H H' : Hp} {te t1 t2 t3 t4 : TE} {Q : VK} {r s sh l : Addr} {ns : List Int} {E : XK} {shs : List (Nat × Nat)} {at_ a b m n0 n1 n2 n3 : Nat}
theorem w_step (g : Gs K s r sh l ns shs a b H) (hn : ns.length ≤ 63) (ho : shOk shs) (ha : at_ < shs.length) (h0 : σ[n0]? = some (some (.ref r))) (h1 : σ[n1]? = some (some (.ref sh))) (h2 : EvD K te σ H (.int (at_ : Int))) (h3 : σ[n3]? = some (some (.ref l))) (h4 : EvD K t4 σ H (.int (m : Int)))
    (k : ∀ st x H' a' b', goS shs at_ m st = true → cntS st + a' ≤ a + 1 → clS st + b' ≤ b → Fr [r, l] H H' → Gs K s r sh l ns shs a' b' H' → Td K H' x (encS st) → Q x H') :
    tCall (spStep K m) [] E (tCons (tVar n0) (tCons (tVar n1) (tCons te (tCons (tVar n3) (tCons t4 tNil))))) σ H Q :=
  ⟨_, h0, _, h1, h2.iv H (Ex.refl H) _ fun H1 e1 => ⟨_, h3, h4.iv H1 e1 _ fun H2 e2 => ⟨r, s, sh, l, ns, shs, at_, a, b, rfl, g.ex (e1.trans e2), hn, ho, ha, fun st x H' a' b' q1 q2 q3 f g' td => k st x H' a' b' q1 q2 q3 ((Fr.of (e1.trans e2)).trans f) g' td⟩⟩⟩
theorem w_body (g : Gs K s r sh l ns shs a b H) (hn : ns.length ≤ 63) (ho : shOk shs) (ha : at_ < shs.length) (h0 : σ[n0]? = some (some (.ref r))) (h1 : σ[n1]? = some (some (.ref sh))) (h2 : EvD K te σ H (.int (at_ : Int))) (h3 : σ[n3]? = some (some (.ref l))) (h4 : EvD K t4 σ H (.int (m : Int)))
    (k : ∀ bd x H' a' b', bd.length ≤ 13 → goB shs at_ m bd = true → cntB bd + a' ≤ a → clB bd + b' ≤ b → Fr [r, l] H H' → Gs K s r sh l ns shs a' b' H' → Td K H' x (.tuple (encB bd)) → Q x H') :
    tCall (spBody K m) [] E (tCons (tVar n0) (tCons (tVar n1) (tCons te (tCons (tVar n3) (tCons t4 tNil))))) σ H Q :=
  ⟨_, h0, _, h1, h2.iv H (Ex.refl H) _ fun H1 e1 => ⟨_, h3, h4.iv H1 e1 _ fun H2 e2 => ⟨r, s, sh, l, ns, shs, at_, a, b, rfl, g.ex (e1.trans e2), hn, ho, ha, fun st x H' a' b' q0 q1 q2 q3 f g' td => k st x H' a' b' q0 q1 q2 q3 ((Fr.of (e1.trans e2)).trans f) g' td⟩⟩⟩
end
section
variable {P : Program} {w : World} {K : PySem.W.Frag} {mg : Str → Option Value} {base : Heap} (T : Tx K mg)
include T
theorem ok_body {n lv : Nat} (hl : 1 ≤ lv) (GS : Fn__law_step T P w base CX0 lv (spStep K n)) (GT : Fn__law_taken T P w base CX0 1 (spTaken K)) : Fn__law_body T P w base CX0 (lv + 1) (spBody K n) := by
  have G__law_step := GS
  have G__law_taken := GT
  refine T.F__law_body.ok sc__law_body (fun vs H Q E h => by obtain ⟨r, s, sh, l, ns, shs, at_, a, b, rfl, _⟩ := h; rfl) fun cdv A outer s0 H vs Q E hr h => ?_
  obtain ⟨r, s, sh, l, ns, shs, at_, a, b, rfl, g, hn, ho, hat, k⟩ := h
  refine ⟨_, (pss_cons (ps_set (i := 5) sc__law_body.nd rfl (Or.inl rfl) (pe_lst pa_nil))
  (pss_cons (ps_for (passes_of rfl) rfl (pi_range1 rfl T.b_range (pa_cons (pe_call G__law_taken (hr.mono (by omega)) (by rfl) T.g__law_taken T.k__law_taken T.bd__law_taken .nil pass0 (pa_cons (pv 0) (pa_cons (pe_ix (kix_list K) (pe_lst (pa_cons pe_int (pa_cons pe_int pa_nil))) (pe_callTy kc_int rfl T.b_int (by decide +kernel) (pa_cons (pe_cmpR op_gt (pe_ix (kix_list K) (pv 3) pe_int (fun _ _ => rfl)) pe_int (nomark _)) pa_nil)) (fun _ _ => rfl)) pa_nil))) pa_nil)) (pg_name (i := 6) sc__law_body.nd rfl (Or.inl rfl))
    (pss_one (ps_if (pt_cmpR op_gt (pe_ix (kix_list K) (pv 3) pe_int (fun _ _ => rfl)) pe_int (nomark _))
      (pss_cons (ps_asg (pe_op op_sub (pe_ix (kix_list K) (pv 3) pe_int (fun _ _ => rfl)) pe_int) (pg_sub (pv 3) pe_int set_list))
      (pss_one (ps_expr (pe_bm PySem.F.plainAttrs_list PySem.F.slot_list_append PySem.F.type_list_append mt_append (pv 5) (pa_cons (pe_call G__law_step (hr.mono (by omega)) (by rfl) T.g__law_step T.k__law_step T.bd__law_step .nil pass0 (pa_cons (pv 0) (pa_cons (pv 1) (pa_cons (pv 2) (pa_cons (pv 3) (pa_cons (pv 4) pa_nil)))))) pa_nil)))))
      pss_nil)))
  (pss_one (ps_ret (pe_callTy (kc_tuple K) rfl T.b_tuple (by decide +kernel) (pa_cons (pv 5) pa_nil)))))), ?_⟩
  refine Pst.go (K := K) ?_
  refine pst_asgL (edl_lst eda_nil (by simp)) fun fl xs0 H1 hfl e1 hx0 ht0 => ?_
  cases ht0
  have g1 := g.ex e1
  have off := g.off hfl
  refine pst_of fun H2 e2 => ?_
  have g2 := g1.ex e2
  have hl2 : SqL K H2 l [.int (a : Int), .int (b : Int)] := SqL.of g2.lft
  refine w_seq (w_forR0 (w_cons (w_taken rfl g2.row hn (m := if 12 < a then 14 else 5) ?_ (by split <;> decide) (by split <;> decide) fun k1 H3 hk1 f3 R3 => w_nil ?_)))
  · apply ed_ixL
    · apply EvDL.rd
      walk_at "edl"
    · walk_at "ev"
    · by_cases h12 : 12 < a
      · rw [if_pos (decide_eq_true (by omega)), if_pos h12] <;> rfl
      · rw [if_neg (by simp; omega), if_neg h12] <;> rfl
  have hk13 : k1 ≤ 13 := by
    split at hk1 <;> omega
  refine rng_go (by omega) (fun i σ' H' => ∃ (bd : List Stm) (xs : List V) (a' b' : Nat) (u : Option V), σ' = [some (.ref r), some (.ref sh), some (.int (at_ : Int)), some (.ref l), some (.int (n : Int)), some (.ref fl), u] ∧ H' fl = some (.lst xs) ∧ TdAll K H' xs (encB bd) ∧ bd.length ≤ i ∧ goB shs at_ n bd = true ∧ cntB bd + a' ≤ a ∧ clB bd + b' ≤ b ∧ Fr [fl, r, l] H1 H' ∧ Gs K s r sh l ns shs a' b' H') ?_ ?_ ?_
  · exact ⟨[], [], a, b, _, rfl, f3 _ _ (by simpa using off.o1) (e2 _ _ hx0), .nil, Nat.le_refl _, rfl, by simp [cntB], by simp [clB], (Fr.of e2).trans (f3.sub (by simp)), g2.fr f3 R3⟩
  · rintro i σ' H' hi ⟨bd, xs, a', b', u, rfl, hxs, hall, hlen, hgo, hc, hcl, hf, g'⟩
    have hl' : SqL K H' l [.int (a' : Int), .int (b' : Int)] := SqL.of g'.lft
    dsimp only
    refine Pst.go (K := K) ?_
    refine pst_if (K := K) (b := decide (0 < (a' : Int))) ?_ (fun hb => ?_) (fun hb => ?_)
    · walk_at "et"
    · simp at hb
      obtain ⟨a1, rfl⟩ : ∃ a1, a' = a1 + 1 := ⟨a' - 1, by omega⟩
      apply pst_setI
      · rfl
      · exact g'.lft
      · walk_at "ev"
      · walk_at "ev"
      · rfl
      intro H4 e4
      have g4 : Gs K s r sh l ns shs a1 b' (upd H4 l (.lst [.int (((a1 + 1 : Nat) : Int) - 1), .int (b' : Int)])) := (g'.ex e4).setl (by omega) rfl
      have f4 : Fr [fl, r, l] H1 (upd H4 l (.lst [.int (((a1 + 1 : Nat) : Int) - 1), .int (b' : Int)])) := (hf.trans (Fr.of e4)).trans (Fr.upd (by simp))
      have hx4 : upd H4 l (.lst [.int (((a1 + 1 : Nat) : Int) - 1), .int (b' : Int)]) fl = some (.lst xs) := by
        rw [upd_ne off.o2]
        exact e4 _ _ hxs
      have ht4 := (hall.ex e4).kp (Keep.upd (o := .lst [.int (((a1 + 1 : Nat) : Int) - 1), .int (b' : Int)]) (g'.ex e4).lft True.intro)
      show Pst K _ _ _ (upd H4 l (.lst [.int (((a1 + 1 : Nat) : Int) - 1), .int (b' : Int)]))
      generalize upd H4 l (.lst [.int (((a1 + 1 : Nat) : Int) - 1), .int (b' : Int)]) = H5 at *
      refine pst_of fun H6 e6 => ?_
      have g6 := g4.ex e6
      refine w_app rfl (e6 _ _ hx4) (w_step g6 hn ho hat rfl rfl ?_ rfl ?_ fun st x H7 a2 b2 q1 q2 q3 f7 g7 t7 => ?_)
      · walk_at "ev"
      · walk_at "ev"
      have hx7 : H7 fl = some (.lst xs) := f7 _ _ (by simp [off.o1, off.o2]) (e6 _ _ hx4)
      have ht7 := (ht4.ex e6).kp (g6.keep f7)
      refine ⟨xs, hx7, by rw [hall.length, encB_length]; exact sz_lt (by omega), bd ++ [st], xs ++ [x], a2, b2, _, rfl, upd_same, ?_, by simp; omega, goB_app hgo (by simp [goB, q1]), ?_, ?_, ((f4.trans (Fr.of e6)).trans (f7.sub (by simp))).trans (Fr.upd (by simp)), g7.updo off hx7⟩
      · have kk : Keep K H7 (upd H7 fl (.lst (xs ++ [x]))) := Keep.upd hx7 True.intro
        rw [encB_map, List.map_append, ← encB_map]
        exact (ht7.kp kk).snoc (t7.kp kk)
      · rw [cntB_app]; simp only [cntB]; omega
      · rw [clB_app]; simp only [clB]; omega
    · refine pst_of fun H4 e4 => ?_
      exact ⟨bd, xs, a', b', _, rfl, e4 _ _ hxs, hall.ex e4, by omega, hgo, hc, hcl, hf.trans (Fr.of e4), g'.ex e4⟩
  · rintro σ' H' ⟨bd, xs, a', b', u, rfl, hxs, hall, hlen, hgo, hc, hcl, hf, g'⟩
    dsimp only
    refine w_ret (w_d (ed_tupL (edr_var rfl (SqL.of hxs) hall)) fun v H4 e4 t4 => ?_)
    exact k bd v H4 a' b' (by omega) hgo hc hcl (((Fr.of e1).trans hf).fresh hfl |>.trans (Fr.of e4)) (g'.ex e4) t4
end
end Hw

set_option maxRecDepth 100000
set_option maxHeartbeats 4000000
/-! PG4: drawn steps -/
namespace Hw
open PySem PySem.Spec PyProof.Rows L2 Evl
local macro_rules | `(tactic| walk_at "dd") => `(tactic| first | rfl | decide | (simp; done) | omega)
local macro_rules | `(tactic| walk_at "td") => `(tactic| first | assumption | exact Td.int _ | exact Td.bl _ | exact Td.str _ | exact Td.non | exact Td.tup (by assumption) (by assumption))
local macro_rules | `(tactic| walk_at "ev") => `(tactic| first
  | exact ed_ci | exact ed_cs | exact ed_cb | exact ed_cn
  | (apply ed_cg; assumption)
  | (apply ed_var; (rfl); (walk_at "td"))
  | (apply ed_ixT; (walk_at "ev"); (walk_at "ev"); (first | rfl | assumption))
  | (apply ed_rowI; (rfl); (assumption); (walk_at "ev"); (rfl))
  | (apply ed_ixL; (apply EvDL.rd; walk_at "edl"); (walk_at "ev"); (rfl))
  | (apply ed_intb; (walk_at "ev"))
  | (apply ed_len; walk_at "ev")
  | (apply ed_lenV; (apply ev_rowR; (rfl); (assumption); (walk_at "ev"); (rfl)); (assumption))
  | (apply ed_Ii; (walk_at "ev"); (walk_at "ev"); (walk_at "cc"))
  | (apply ed_isi; (walk_at "ev"); (rfl))
  | (apply ed_I0i; (walk_at "ev"); (walk_at "ev"))
  | (apply ed_I0b; (walk_at "ev"); (walk_at "ev"))
  | (apply ed_eqi; (walk_at "ev"); (walk_at "ev"))
  | (apply ed_nei; (walk_at "ev"); (walk_at "ev"))
  | (apply ed_andF; walk_at "ev")
  | (apply ed_andV; (walk_at "ev"); (intro _; walk_at "ev"))
  | (apply ed_orT; walk_at "ev")
  | (apply ed_orV; (walk_at "ev"); (intro _; walk_at "ev"))
  | (apply ed_notT; walk_at "ev")
  | (apply ed_notF; walk_at "ev")
  | (apply ed_notV; walk_at "ev")
  | (apply ed_chain; (walk_at "ev"); (walk_at "ev"); (intro _; walk_at "ev"))
  | (apply ed_eqS; (walk_at "ev"); (walk_at "ev"); (walk_at "bb"); (walk_at "bb"))
  | (apply ed_neS; (walk_at "ev"); (walk_at "ev"); (walk_at "bb"); (walk_at "bb"))
  | (apply ed_inT; (walk_at "ev"); (walk_at "ev"); (rfl); (rfl))
  | (apply ed_niT; (walk_at "ev"); (walk_at "ev"); (rfl); (rfl))
  | (apply ed_tup; (walk_at "eva"); (walk_at "bb"))
  | (apply ed_sl; (walk_at "ev"); (walk_at "evo"); (walk_at "evo"))
  | (apply ed_eqN; (apply EvDL.rd; walk_at "edl"); (walk_at "edl"); (walk_at "bb"))
  | (apply ed_neN; (apply EvDL.rd; walk_at "edl"); (walk_at "edl"); (walk_at "bb"))
  | (apply ed_ixL; (apply edr_var; (rfl); (assumption); (assumption)); (walk_at "ev"); (first | rfl | assumption))
  | (apply ed_lenL; (apply edr_var; (rfl); (assumption); (assumption)))
  | (apply ed_call; (walk_at "eva"); (walk_at "post")))
local macro_rules | `(tactic| walk_at "edl") => `(tactic| first
  | assumption
  | (apply edl_lst; (walk_at "eva"); (walk_at "bb")))
local macro_rules | `(tactic| walk_at "eva") => `(tactic| first
  | exact eda_nil
  | (apply eda_cons; (walk_at "ev"); (walk_at "eva")))
local macro_rules | `(tactic| walk_at "evo") => `(tactic| first
  | exact eok_none
  | (apply eok_some; walk_at "ev"))
local macro_rules | `(tactic| walk_at "bb") => `(tactic| first | rfl | assumption | (simp; done) | (simp; omega) | decide +kernel)
local macro_rules | `(tactic| walk_at "et") => `(tactic| first
  | exact tk_yes
  | (apply tk_andF; walk_at "et")
  | (apply tk_and; (walk_at "et"); (intro _; walk_at "et"))
  | (apply tk_orT; walk_at "et")
  | (apply tk_or; (walk_at "et"); (intro _; walk_at "et"))
  | (apply tk_notT; walk_at "et")
  | (apply tk_notF; walk_at "et")
  | (apply tk_not; walk_at "et")
  | (apply tk_v; walk_at "ev")
  | (apply tk_vB; walk_at "ev"))
local macro_rules | `(tactic| walk_at "if") => `(tactic| first
  | (apply pst_whenF; (walk_at "et"); (walk_at "bb"))
  | (apply pst_whenT; (walk_at "et"); (walk_at "bb")))
local macro_rules | `(tactic| walk_at "post") => `(tactic| first | assumption | exact ⟨_, _, rfl, rfl⟩ | exact ⟨_, _, _, _, rfl, by omega, by omega, rfl⟩ | exact ⟨_, _, _, 0, rfl, by omega, by omega, rfl⟩)
local macro_rules | `(tactic| walk_at "cc") => `(tactic| first | assumption | decide | omega | (refine ⟨?_, ?_⟩ <;> first | decide | omega) | (exact Or.inl (by constructor <;> omega)))

def spThings (K : PySem.W.Frag) : Sp := fun vs H Q E => ∃ n, n ≤ 2 ∧ spThing K n vs H Q E
section
variable {K : PySem.W.Frag} {σ : L2.St} {H H' : Hp} {te tx : TE} {Q : VK} {r s : Addr} {ns : List Int} {E : XK} {n : Nat}
theorem w_things {m ps os : Nat} (hm2 : m ≤ 2) (hs : σ[n]? = some (some (.ref r))) (hR : RowAt K s ns H r) (hn : ns.length ≤ 63) (hz : EvD K tx σ H (szD ps os)) (hp : ps ≤ 99) (ho : os ≤ 99) (hm : EvD K te σ H (.int (m : Int)))
    (k : ∀ t x H', wfT ps os t = true → dpT t ≤ m + 1 → Fr [r] H H' → RowAt K s ns H' r → Td K H' x (encT t) → Q x H') : tCall (spThings K) [] E (tCons (tVar n) (tCons tx (tCons te tNil))) σ H Q :=
  ⟨.ref r, hs, hz H (Ex.refl H) _ fun v H1 e1 tv => hm.iv H1 e1 _ fun H2 e2 => ⟨m, hm2, r, s, ns, v, ps, os, rfl, hR.ex (e1.trans e2), hn, tv.ex e2, hp, ho, fun t x H' h1 h2 hf hR' td => k t x H' h1 h2 ((Fr.of (e1.trans e2)).trans hf) hR' td⟩⟩
end
section
variable {P : Program} {w : World} {K : PySem.W.Frag} {mg : Str → Option Value} {base : Heap} (T : Tx K mg)
include T
theorem ok_step {n lv : Nat} (hl : 4 ≤ lv) (spI : Sp) (hspI : 0 < n → spI = spBody K (n - 1)) (GB : Fn__law_body T P w base CX0 lv spI) (GT : Fn__law_taken T P w base CX0 1 (spTaken K)) (GH : Fn__law_thing T P w base CX0 4 (spThings K)) (GP : Fn__law_place T P w base CX0 4 (spPlace K 1)) :
    Fn__law_step T P w base CX0 (lv + 1) (spStep K n) := by
  have G__law_body := GB
  have G__law_taken := GT
  have G__law_thing := GH
  have G__law_place := GP
  refine T.F__law_step.ok sc__law_step (fun vs H Q E h => by obtain ⟨r, s, sh, l, ns, shs, at_, a, b, rfl, _⟩ := h; rfl) fun cdv A outer s0 H vs Q E hr h => ?_
  obtain ⟨r, s, sh, l, ns, shs, at_, a, b, rfl, g, hn, ho, hat, k⟩ := h
  refine ⟨_, (pss_cons (ps_set (i := 5) sc__law_step.nd rfl (Or.inl rfl) (pe_ix (kix_list K) (pv 1) (pv 2) (fun _ _ => rfl)))
  (pss_cons (ps_set (i := 6) sc__law_step.nd rfl (Or.inl rfl) (pe_call G__law_taken (hr.mono (by omega)) (by rfl) T.g__law_taken T.k__law_taken T.bd__law_taken .nil pass0 (pa_cons (pv 0) (pa_cons pe_int pa_nil))))
  (pss_cons (ps_if (PW.pt (pw_and (pt_cmpR op_gt (pv 6) pe_int (nomark _)) (pw_and (pt_cmpR op_lt (pe_op op_add (pv 2) pe_int) (pe_callB (kc_len K) rfl T.b_len PySem.boot_len (pa_cons (pv 1) pa_nil)) (nomark _)) (pw_and1 (pt_cmpR op_gt (pe_ix (kix_list K) (pv 3) pe_int (fun _ _ => rfl)) pe_int (nomark _))))))
    (pss_cons (ps_asg (pe_op op_sub (pe_ix (kix_list K) (pv 3) pe_int (fun _ _ => rfl)) pe_int) (pg_sub (pv 3) pe_int set_list))
    (pss_cons (ps_set (i := 7) sc__law_step.nd rfl (Or.inl rfl) (pe_op op_add (pe_op op_add (pv 2) pe_int) (pe_call G__law_taken (hr.mono (by omega)) (by rfl) T.g__law_taken T.k__law_taken T.bd__law_taken .nil pass0 (pa_cons (pv 0) (pa_cons (pe_op op_sub (pe_op op_sub (pe_callB (kc_len K) rfl T.b_len PySem.boot_len (pa_cons (pv 1) pa_nil)) (pv 2)) pe_int) pa_nil)))))
    (pss_cons (ps_set (i := 8) sc__law_step.nd rfl (Or.inl rfl) (pe_lst pa_nil))
    (pss_cons (ps_for (passes_of rfl) rfl (pi_range1 rfl T.b_range (pa_cons (pe_ix (kix_tup K) (pe_ix (kix_list K) (pv 1) (pv 7) (fun _ _ => rfl)) pe_int (fun _ _ => rfl)) pa_nil)) (pg_name (i := 9) sc__law_step.nd rfl (Or.inl rfl))
      (pss_cons (ps_set (i := 10) sc__law_step.nd rfl (Or.inl rfl) (pe_call G__law_thing (hr.mono (by omega)) (by rfl) T.g__law_thing T.k__law_thing T.bd__law_thing .nil pass0 (pa_cons (pv 0) (pa_cons (pv 5) (pa_cons pe_int pa_nil)))))
      (pss_one (ps_expr (pe_bm PySem.F.plainAttrs_list PySem.F.slot_list_append PySem.F.type_list_append mt_append (pv 8) (pa_cons (pe_ifExp (pt_cmpR op_eq (pe_call G__law_taken (hr.mono (by omega)) (by rfl) T.g__law_taken T.k__law_taken T.bd__law_taken .nil pass0 (pa_cons (pv 0) (pa_cons pe_int pa_nil))) pe_int (nomark _)) (pv 10) (pe_call G__law_place (hr.mono (by omega)) (by rfl) T.g__law_place T.k__law_place T.bd__law_place .nil pass0 (pa_cons (pv 0) (pa_cons (pv 5) (pa_cons pe_int pa_nil))))) pa_nil))))))
    (pss_one (ps_ret (pe_tup (pa_cons pe_str (pa_cons (pv 7) (pa_cons (pe_callTy (kc_tuple K) rfl T.b_tuple (by decide +kernel) (pa_cons (pv 8) pa_nil)) pa_nil))))))))))
    pss_nil)
  (pss_cons (ps_if (PW.pt (pw_and (pt_cmpR op_eq (pv 6) pe_int (nomark _)) (pw_and1 (pt_cmpR op_gt (pv 4) pe_int (nomark _)))))
    (pss_cons (ps_set (i := 11) sc__law_step.nd rfl (Or.inl rfl) (pe_call G__law_body (hr.mono (by omega)) (by rfl) T.g__law_body T.k__law_body T.bd__law_body .nil pass0 (pa_cons (pv 0) (pa_cons (pv 1) (pa_cons (pv 2) (pa_cons (pv 3) (pa_cons (pe_op op_sub (pv 4) pe_int) pa_nil)))))))
    (pss_one (ps_ret (pe_tup (pa_cons pe_str (pa_cons (pe_call G__law_thing (hr.mono (by omega)) (by rfl) T.g__law_thing T.k__law_thing T.bd__law_thing .nil pass0 (pa_cons (pv 0) (pa_cons (pv 5) (pa_cons pe_int pa_nil)))) (pa_cons (pv 11) (pa_cons (pe_call G__law_body (hr.mono (by omega)) (by rfl) T.g__law_body T.k__law_body T.bd__law_body .nil pass0 (pa_cons (pv 0) (pa_cons (pv 1) (pa_cons (pv 2) (pa_cons (pv 3) (pa_cons (pe_op op_sub (pv 4) pe_int) pa_nil)))))) pa_nil))))))))
    pss_nil)
  (pss_cons (ps_if (pt_cmpR op_eq (pv 6) pe_int (nomark _))
    (pss_one (ps_ret (pe_tup (pa_cons pe_str (pa_cons (pe_call G__law_thing (hr.mono (by omega)) (by rfl) T.g__law_thing T.k__law_thing T.bd__law_thing .nil pass0 (pa_cons (pv 0) (pa_cons (pv 5) (pa_cons pe_int pa_nil)))) pa_nil)))))
    pss_nil)
  (pss_one (ps_ret (pe_tup (pa_cons pe_str (pa_cons (pe_call G__law_place (hr.mono (by omega)) (by rfl) T.g__law_place T.k__law_place T.bd__law_place .nil pass0 (pa_cons (pv 0) (pa_cons (pv 5) (pa_cons pe_int pa_nil)))) (pa_cons (pe_call G__law_thing (hr.mono (by omega)) (by rfl) T.g__law_thing T.k__law_thing T.bd__law_thing .nil pass0 (pa_cons (pv 0) (pa_cons (pv 5) (pa_cons pe_int pa_nil)))) pa_nil))))))))))), ?_⟩
  obtain ⟨⟨ps, os⟩, hsz⟩ : ∃ z, shs[at_]? = some z := ⟨_, List.getElem?_eq_getElem hat⟩
  have hbd := ho.2 _ (List.mem_of_getElem? hsz)
  have hps : ps ≤ 99 := Nat.le_trans hbd.1 (by decide)
  have hos : os ≤ 99 := Nat.le_trans hbd.2 (by decide)
  have eP : shP shs at_ = ps := by simp [shP, List.getD, hsz]
  have eO : shO shs at_ = os := by simp [shO, List.getD, hsz]
  have goes : ∀ {t : Th}, wfT ps os t = true → dpT t ≤ 3 → goT shs at_ t = true := fun h1 h2 => by
    unfold goT
    rw [eP, eO, h1, decide_eq_true h2]
    rfl
  obtain ⟨sxs, hsx, hsa⟩ := g.shp
  have hat2 : atI (shs.map fun x => szD x.1 x.2) (at_ : Int) = some (szD ps os) := atI_nat (by rw [List.getElem?_map, hsz] <;> rfl)
  refine Pst.go (K := K) ?_
  refine pst_asg (d := szD ps os) ?_ fun vz H1 e1 tz => ?_
  · have hsl : SqL K H sh sxs := SqL.of hsx
    walk_at "ev"
  refine pst_of fun H2 e2 => ?_
  have g2 := g.ex (e1.trans e2)
  refine w_seq (w_asg (w_taken rfl g2.row hn (m := 10) ?_ (by decide) (by decide) fun way H3 hway f3 R3 => ?_))
  · walk_at "ev"
  have g3 := g2.fr f3 R3
  have tz3 : Td K H3 vz (szD ps os) := (tz.ex e2).kp (g2.row.keep f3)
  have fr3 : Fr [r, l] H H3 := (Fr.of (e1.trans e2)).trans f3.rl
  clear g2 f3 R3 tz e1 e2 hsx hsa
  obtain ⟨sxs, hsx, hsa⟩ := g3.shp
  have hsl : SqL K H3 sh sxs := SqL.of hsx
  have hll : SqL K H3 l [.int (a : Int), .int (b : Int)] := SqL.of g3.lft
  dsimp only
  refine Pst.go (K := K) ?_
  apply pst_when
  · walk_at "et"
  · intro hb
    simp only [Bool.and_eq_true, decide_eq_true_eq] at hb
    rw [List.length_map] at hb
    obtain ⟨b1, rfl⟩ : ∃ b1, b = b1 + 1 := ⟨b - 1, by omega⟩
    apply pst_setI
    · rfl
    · exact g3.lft
    · walk_at "ev"
    · walk_at "ev"
    · rfl
    intro H4 e4
    have g4 : Gs K s r sh l ns shs a b1 (upd H4 l (.lst [.int (a : Int), .int (((b1 + 1 : Nat) : Int) - 1)])) := (g3.ex e4).setl rfl (by omega)
    have f4 : Fr [r, l] H (upd H4 l (.lst [.int (a : Int), .int (((b1 + 1 : Nat) : Int) - 1)])) := (fr3.trans (Fr.of e4)).trans (Fr.upd (by simp))
    have tz4 := (tz3.ex e4).kp (Keep.upd (o := .lst [.int (a : Int), .int (((b1 + 1 : Nat) : Int) - 1)]) (g3.ex e4).lft True.intro)
    show Pst K _ _ _ (upd H4 l (.lst [.int (a : Int), .int (((b1 + 1 : Nat) : Int) - 1)]))
    generalize upd H4 l (.lst [.int (a : Int), .int (((b1 + 1 : Nat) : Int) - 1)]) = H5 at *
    clear hsx hsa hsl hll
    obtain ⟨sxs, hsx, hsa⟩ := g4.shp
    have hsl : SqL K H5 sh sxs := SqL.of hsx
    refine pst_of fun H6 e6 => ?_
    have g6 := g4.ex e6
    have hsl6 : SqL K H6 sh sxs := ex_l e6 hsl
    have hsa6 := hsa.ex e6
    refine w_seq (w_asg (w_op (w_d (K := K) (d := .int ((at_ : Int) + 1)) ?_ fun v7 H7 e7 t7 => ?_)))
    · walk_at "ev"
    cases t7
    have hsl7 : SqL K H7 sh sxs := ex_l e7 hsl6
    have hsa7 := hsa6.ex e7
    have g7 := g6.ex e7
    refine w_taken rfl g7.row hn (m := (shs.length : Int) - (at_ : Int) - 1) ?_ (by omega) (by have := ho.1; omega) fun kw H8 hkw f8 R8 => ?_
    · apply ed_is
      · walk_at "ev"
      · rw [List.length_map]
    refine ⟨_, _, rfl, rfl, ?_⟩
    have g8 := g7.fr f8 R8
    have tz8 : Td K H8 vz (szD ps os) := ((tz4.ex e6).ex e7).kp (g7.row.keep f8)
    have fr8 : Fr [r, l] H H8 := ((f4.trans (Fr.of e6)).trans (Fr.of e7)).trans f8.rl
    obtain ⟨c, hc⟩ : ∃ c : Nat, c = at_ + 1 + kw := ⟨_, rfl⟩
    have ec : ((at_ : Int) + 1 + (kw : Int)) = (c : Int) := by omega
    have hcl : c < shs.length := by omega
    obtain ⟨⟨cp, co⟩, hcz⟩ : ∃ z, shs[c]? = some z := ⟨_, List.getElem?_eq_getElem hcl⟩
    have hcp : cp ≤ 3 := (ho.2 _ (List.mem_of_getElem? hcz)).1
    have ecp : shP shs c = cp := by simp [shP, List.getD, hcz]
    have hcat : atI (shs.map fun x => szD x.1 x.2) (c : Int) = some (.tuple [.int (cp : Int), .int (co : Int)]) := atI_nat (by rw [List.getElem?_map, hcz] <;> rfl)
    dsimp only
    rw [ec]
    refine Pst.go (K := K) ?_
    refine pst_asgL (edl_lst eda_nil (by simp)) fun fl xs0 H9 hfl e9 hx0 ht0 => ?_
    cases ht0
    have off := g8.off hfl
    have g9 := g8.ex e9
    refine pst_of fun H10 e10 => ?_
    have g10 := g9.ex e10
    clear hsx hsa hsl hsl6 hsa6 hsl7 hsa7
    obtain ⟨sxs, hsx, hsa⟩ := g10.shp
    have hsl : SqL K H10 sh sxs := SqL.of hsx
    refine w_seq (w_forR (K := K) (n := cp) ?_ (by omega) (fun i σ' H' => ∃ (ts : List Th) (xs : List V) (u1 u2 u3 : Option V), σ' = [some (.ref r), some (.ref sh), some (.int (at_ : Int)), some (.ref l), some (.int (n : Int)), some vz, some (.int (way : Int)), some (.int (c : Int)), some (.ref fl), u1, u2, u3] ∧ H' fl = some (.lst xs) ∧ TdAll K H' xs (ts.map encT) ∧ ts.length = i ∧ ts.all (goT shs at_) = true ∧ Fr [fl, r, l] H9 H' ∧ Td K H' vz (szD ps os) ∧ Gs K s r sh l ns shs a b1 H') ?_ ?_ ?_)
    · apply eda_cons
      · walk_at "ev"
      · exact eda_nil
    · intro H11 e11
      exact ⟨[], [], _, _, _, rfl, e11 _ _ (e10 _ _ hx0), .nil, rfl, rfl, (Fr.of e10).trans (Fr.of e11), ((tz8.ex e9).ex e10).ex e11, g10.ex e11⟩
    · rintro i σ' H' hi ⟨ts, xs, u1, u2, u3, rfl, hxs, hall, hlen, hgo, hf, tz', g'⟩
      refine w_seq (w_asg (w_things (m := 1) (ps := ps) (os := os) (by decide) rfl g'.row hn ?_ hps hos ?_ fun t xt H11 wt dt f11 R11 tt => ?_))
      · walk_at "ev"
      · exact ed_ci
      have g11 := g'.fr f11 R11
      have hx11 : H11 fl = some (.lst xs) := f11 _ _ (by simpa using off.o1) hxs
      have k11 := g'.row.keep f11
      dsimp only
      refine w_app rfl hx11 (w_if (w_test (w_op (w_taken rfl R11 hn (m := 3) ?_ (by decide) (by decide) fun kk H12 hkk f12 R12 => ?_))))
      · walk_at "ev"
      refine ⟨by rfl, decide (V.int (kk : Int) = V.int 2), rfl, ?_⟩
      have g12 := g11.fr f12 R12
      have hx12 : H12 fl = some (.lst xs) := f12 _ _ (by simpa using off.o1) hx11
      have k12 := R11.keep f12
      have hfin : ∀ (t : Th) (x : V) (H13 : Hp), goT shs at_ t = true → Fr [r] H12 H13 → RowAt K s ns H13 r → Td K H13 x (encT t) → ∃ xs, H13 fl = some (.lst xs) ∧ xs.length < sizeLine ∧ (∃ (ts : List Th) (xs' : List V) (y1 y2 y3 : Option V), ([some (V.ref r), some (.ref sh), some (.int (at_ : Int)), some (.ref l), some (.int (n : Int)), some vz, some (.int (way : Int)), some (.int (c : Int)), some (.ref fl), some (.int (i : Int)), some xt, u3] : L2.St) = [some (.ref r), some (.ref sh), some (.int (at_ : Int)), some (.ref l), some (.int (n : Int)), some vz, some (.int (way : Int)), some (.int (c : Int)), some (.ref fl), y1, y2, y3] ∧ upd H13 fl (.lst (xs ++ [x])) fl = some (.lst xs') ∧ TdAll K (upd H13 fl (.lst (xs ++ [x]))) xs' (ts.map encT) ∧ ts.length = i + 1 ∧ ts.all (goT shs at_) = true ∧ Fr [fl, r, l] H9 (upd H13 fl (.lst (xs ++ [x]))) ∧ Td K (upd H13 fl (.lst (xs ++ [x]))) vz (szD ps os) ∧ Gs K s r sh l ns shs a b1 (upd H13 fl (.lst (xs ++ [x])))) := by
        intro t x H13 hg f13 R13 t13
        have hx13 : H13 fl = some (.lst xs) := f13 _ _ (by simpa using off.o1) hx12
        have k13 := R12.keep f13
        have kk : Keep K H13 (upd H13 fl (.lst (xs ++ [x]))) := Keep.upd hx13 True.intro
        refine ⟨xs, hx13, by rw [hall.length, List.length_map]; exact sz_lt (by omega), ts ++ [t], xs ++ [x], _, _, _, rfl, upd_same, ?_, by simp [hlen], by simp [hgo, hg], (((hf.trans (f11.sub (by simp))).trans (f12.sub (by simp))).trans (f13.sub (by simp))).trans (Fr.upd (by simp)), ((((tz'.kp k11).kp k12).kp k13).kp kk), (g12.fr f13 R13).updo off hx13⟩
        rw [List.map_append]
        exact ((((hall.kp k11).kp k12).kp k13).kp kk).snoc (t13.kp kk)
      by_cases hk2 : V.int (kk : Int) = V.int 2
      · rw [decide_eq_true hk2]
        refine iteT (w_v rfl ?_)
        exact hfin t xt H12 (goes wt (by omega)) Fr.refl R12 (tt.kp k12)
      · rw [decide_eq_false hk2]
        refine iteF (w_place (m := 1) (ps := ps) (os := os) rfl R12 hn ?_ hps hos ?_ fun t2 x2 H13 w2 i2 d2 f13 R13 t13 => ?_)
        · have tz12 := (tz'.kp k11).kp k12
          walk_at "ev"
        · exact ed_ci
        exact hfin t2 x2 H13 (goes w2 (by omega)) f13 R13 t13
    · rintro σ' H' ⟨ts, xs, u1, u2, u3, rfl, hxs, hall, hlen, hgo, hf, tz', g'⟩
      dsimp only
      have hxl : SqL K H' fl xs := SqL.of hxs
      refine w_ret (w_d (K := K) (d := encS (.call c ts)) ?_ fun v H11 e11 t11 => ?_)
      · unfold encS
        apply ed_tup
        · apply eda_cons
          · walk_at "ev"
          apply eda_cons
          · walk_at "ev"
          apply eda_cons
          · exact ed_tupL (edr_var rfl hxl hall)
          · exact eda_nil
        · simp
      exact k (.call c ts) v H11 a b1 (by simp only [goS, Bool.and_eq_true, decide_eq_true_eq]; exact ⟨by omega, hcl, by rw [ecp, hlen], hgo⟩) (by simp [cntS]; omega) (by simp [clS]; omega) ((fr8.trans ((Fr.of e9).trans hf |>.fresh hfl)).trans (Fr.of e11)) (g'.ex e11) t11
  intro hb
  apply pst_when
  · walk_at "et"
  · intro hb
    simp at hb
    obtain ⟨m, rfl⟩ : ∃ m, n = m + 1 := ⟨n - 1, by omega⟩
    rw [hspI (by omega)]
    have em : m + 1 - 1 = m := by omega
    rw [em]
    refine pst_of fun H4 e4 => ?_
    have g4 := g3.ex e4
    have eI : ∀ (σ : L2.St) H, σ[4]? = some (some (V.int ((m + 1 : Nat) : Int))) → EvD K (tOp (rI0 fun i j => .int (i - j)) (tVar 4) (tC (.int 1))) σ H (.int (m : Int)) := by
      intro σ H hσ
      apply ed_is
      · apply ed_I0i
        · exact ed_var hσ (.int _)
        · walk_at "ev"
      · simp
    refine w_seq (w_asg (w_body g4 hn ho hat rfl rfl ?_ rfl (eI _ _ rfl) fun b1 x1 H5 a5 b5 l1 q1 c1 d1 f5 g5 t5 => ?_))
    · walk_at "ev"
    have tz5 := (tz3.ex e4).kp (g4.keep f5)
    dsimp only
    refine w_ret (w_tup (w_cons (w_c (w_cons (w_things (m := 1) (ps := ps) (os := os) (by decide) rfl g5.row hn ?_ hps hos ed_ci fun t xt H6 wt dt f6 R6 tt => ?_)))))
    · walk_at "ev"
    have g6 := g5.fr f6 R6
    refine w_cons (w_v rfl (w_cons (w_body g6 hn ho hat rfl rfl ?_ rfl (eI _ _ rfl) fun b2 x2 H7 a7 b7 l2 q2 c2 d2 f7 g7 t7 => w_nil ⟨by show 4 ≤ sizeLine; decide, fun p hp => ?_⟩)))
    · walk_at "ev"
    refine k (.ite t b1 b2) _ _ a7 b7 (by simp [goS, goes wt (by omega : dpT t ≤ 3), l1, l2, q1, q2]) (by simp only [cntS]; omega) (by simp only [clS]; omega) (((((fr3.trans (Fr.of e4)).trans f5).trans f6.rl).trans f7).trans (Fr.of (Ex.new hp))) (g7.ex (Ex.new hp)) ?_
    unfold encS
    exact td_new hp (.cons (.str _) (.cons (tt.kp (g6.keep f7)) (.cons ((t5.kp (g5.row.keep f6)).kp (g6.keep f7)) (.cons t7 .nil))))
  intro hb
  apply pst_when
  · walk_at "et"
  · intro hb
    refine pst_of fun H4 e4 => ?_
    have g4 := g3.ex e4
    have tz4 := tz3.ex e4
    refine w_ret (w_tup (w_cons (w_c (w_cons (w_things (m := 2) (ps := ps) (os := os) (by decide) rfl g4.row hn ?_ hps hos ed_ci fun t xt H6 wt dt f6 R6 tt => w_nil ⟨by show 2 ≤ sizeLine; decide, fun p hp => ?_⟩)))))
    · walk_at "ev"
    refine k (.say t) _ _ a b (by simp [goS, goes wt (by omega : dpT t ≤ 3)]) (by simp [cntS]; omega) (by simp [clS]) (((fr3.trans (Fr.of e4)).trans f6.rl).trans (Fr.of (Ex.new hp))) ((g4.fr f6 R6).ex (Ex.new hp)) ?_
    unfold encS
    exact td_new hp (tdall2 (.str _) tt)
  intro hb
  refine pst_of fun H4 e4 => ?_
  have g4 := g3.ex e4
  have tz4 := tz3.ex e4
  refine w_ret (w_tup (w_cons (w_c (w_cons (w_place (m := 1) (ps := ps) (os := os) rfl g4.row hn ?_ hps hos ed_ci fun pt xp H5 wp ip dp f5 R5 tp => ?_)))))
  · walk_at "ev"
  have tz5 := tz4.kp (g4.row.keep f5)
  refine w_cons (w_things (m := 2) (ps := ps) (os := os) (by decide) rfl R5 hn ?_ hps hos ed_ci fun t xt H6 wt dt f6 R6 tt => w_nil ⟨by show 3 ≤ sizeLine; decide, fun p hp => ?_⟩)
  · walk_at "ev"
  refine k (.set pt t) _ _ a b (by simp [goS, goes wp (by omega : dpT pt ≤ 3), ip, goes wt (by omega : dpT t ≤ 3)]) (by simp [cntS]; omega) (by simp [clS]) ((((fr3.trans (Fr.of e4)).trans f5.rl).trans f6.rl).trans (Fr.of (Ex.new hp))) (((g4.fr f5 R5).fr f6 R6).ex (Ex.new hp)) ?_
  unfold encS
  exact td_new hp (tdall3 (.str _) (tp.kp (R5.keep f6)) tt)
end
end Hw

set_option maxRecDepth 100000
set_option maxHeartbeats 4000000
/-! PG5: drawn programs -/
namespace Hw
open PySem PySem.Spec PyProof.Rows L2 Evl
local macro_rules | `(tactic| walk_at "dd") => `(tactic| first | rfl | decide | (simp; done) | omega)
local macro_rules | `(tactic| walk_at "td") => `(tactic| first | assumption | exact Td.int _ | exact Td.bl _ | exact Td.str _ | exact Td.non | exact Td.tup (by assumption) (by assumption))
local macro_rules | `(tactic| walk_at "ev") => `(tactic| first
  | exact ed_ci | exact ed_cs | exact ed_cb | exact ed_cn
  | (apply ed_cg; assumption)
  | (apply ed_var; (rfl); (walk_at "td"))
  | (apply ed_ixT; (walk_at "ev"); (walk_at "ev"); (first | rfl | assumption))
  | (apply ed_rowI; (rfl); (assumption); (walk_at "ev"); (rfl))
  | (apply ed_ixL; (apply EvDL.rd; walk_at "edl"); (walk_at "ev"); (rfl))
  | (apply ed_intb; (walk_at "ev"))
  | (apply ed_len; walk_at "ev")
  | (apply ed_lenV; (apply ev_rowR; (rfl); (assumption); (walk_at "ev"); (rfl)); (assumption))
  | (apply ed_Ii; (walk_at "ev"); (walk_at "ev"); (walk_at "cc"))
  | (apply ed_isi; (walk_at "ev"); (rfl))
  | (apply ed_I0i; (walk_at "ev"); (walk_at "ev"))
  | (apply ed_I0b; (walk_at "ev"); (walk_at "ev"))
  | (apply ed_eqi; (walk_at "ev"); (walk_at "ev"))
  | (apply ed_nei; (walk_at "ev"); (walk_at "ev"))
  | (apply ed_andF; walk_at "ev")
  | (apply ed_andV; (walk_at "ev"); (intro _; walk_at "ev"))
  | (apply ed_orT; walk_at "ev")
  | (apply ed_orV; (walk_at "ev"); (intro _; walk_at "ev"))
  | (apply ed_notT; walk_at "ev")
  | (apply ed_notF; walk_at "ev")
  | (apply ed_notV; walk_at "ev")
  | (apply ed_chain; (walk_at "ev"); (walk_at "ev"); (intro _; walk_at "ev"))
  | (apply ed_eqS; (walk_at "ev"); (walk_at "ev"); (walk_at "bb"); (walk_at "bb"))
  | (apply ed_neS; (walk_at "ev"); (walk_at "ev"); (walk_at "bb"); (walk_at "bb"))
  | (apply ed_inT; (walk_at "ev"); (walk_at "ev"); (rfl); (rfl))
  | (apply ed_niT; (walk_at "ev"); (walk_at "ev"); (rfl); (rfl))
  | (apply ed_tup; (walk_at "eva"); (walk_at "bb"))
  | (apply ed_sl; (walk_at "ev"); (walk_at "evo"); (walk_at "evo"))
  | (apply ed_eqN; (apply EvDL.rd; walk_at "edl"); (walk_at "edl"); (walk_at "bb"))
  | (apply ed_neN; (apply EvDL.rd; walk_at "edl"); (walk_at "edl"); (walk_at "bb"))
  | (apply ed_ixL; (apply edr_var; (rfl); (assumption); (assumption)); (walk_at "ev"); (first | rfl | assumption))
  | (apply ed_lenL; (apply edr_var; (rfl); (assumption); (assumption)))
  | (apply ed_call; (walk_at "eva"); (walk_at "post")))
local macro_rules | `(tactic| walk_at "edl") => `(tactic| first
  | assumption
  | (apply edl_lst; (walk_at "eva"); (walk_at "bb")))
local macro_rules | `(tactic| walk_at "eva") => `(tactic| first
  | exact eda_nil
  | (apply eda_cons; (walk_at "ev"); (walk_at "eva")))
local macro_rules | `(tactic| walk_at "evo") => `(tactic| first
  | exact eok_none
  | (apply eok_some; walk_at "ev"))
local macro_rules | `(tactic| walk_at "bb") => `(tactic| first | rfl | assumption | (simp; done) | (simp; omega) | decide +kernel)
local macro_rules | `(tactic| walk_at "et") => `(tactic| first
  | exact tk_yes
  | (apply tk_andF; walk_at "et")
  | (apply tk_and; (walk_at "et"); (intro _; walk_at "et"))
  | (apply tk_orT; walk_at "et")
  | (apply tk_or; (walk_at "et"); (intro _; walk_at "et"))
  | (apply tk_notT; walk_at "et")
  | (apply tk_notF; walk_at "et")
  | (apply tk_not; walk_at "et")
  | (apply tk_v; walk_at "ev")
  | (apply tk_vB; walk_at "ev"))
local macro_rules | `(tactic| walk_at "if") => `(tactic| first
  | (apply pst_whenF; (walk_at "et"); (walk_at "bb"))
  | (apply pst_whenT; (walk_at "et"); (walk_at "bb")))
local macro_rules | `(tactic| walk_at "post") => `(tactic| first | assumption | exact ⟨_, _, rfl, rfl⟩ | exact ⟨_, _, _, _, rfl, by omega, by omega, rfl⟩ | exact ⟨_, _, _, 0, rfl, by omega, by omega, rfl⟩)
local macro_rules | `(tactic| walk_at "cc") => `(tactic| first | assumption | decide | omega | (refine ⟨?_, ?_⟩ <;> first | decide | omega) | (exact Or.inl (by constructor <;> omega)))

section
variable {K : PySem.W.Frag} {σ : L2.St} {H H' : Hp} {D : Ends} {tu tz : TS} {ta : TA} {te : TE} {Q : VK} {r s p : Addr} {ns : List Int}
theorem w_lst (h : ta σ H fun xs H1 => xs.length ≤ sizeLine ∧ ∀ p, H1 p = none → Q (.ref p) (upd H1 p (.lst xs))) : tLst ta σ H Q := h
/-- one step, by what holds behind it -/
theorem seq_cut (R : L2.St → Hp → Prop) (h2 : ∀ σ' H', R σ' H' → tz D σ' H') (h1 : ∀ N : L2.St → Hp → Prop, (∀ σ' H', R σ' H' → N σ' H') → tu { D with nx := N } σ H) : tSeq tu tz D σ H := h1 _ h2
/-- [e for j in range(n)], whatever e does -/
theorem w_lcR {n j : Nat} {vs : List Nat} (h : EvDA K ta σ H [.int (n : Int)]) (hz : n ≤ 40000) (hw : ∀ x, wipe ((wipe σ vs).set j (some x)) vs = wipe σ vs) (Pv : Addr → Nat → Hp → Prop)
    (h0 : ∀ H1 p, Ex H H1 → H1 p = none → Pv p 0 (upd H1 p (.lst [])))
    (hs : ∀ p i H1, i < n → Pv p i H1 → te ((wipe σ vs).set j (some (.int (i : Int)))) H1 fun y H4 => ∃ acc, H4 p = some (.lst acc) ∧ acc.length < sizeLine ∧ Pv p (i + 1) (upd H4 p (.lst (acc ++ [y]))))
    (hd : ∀ p H1, Pv p n H1 → Q (.ref p) H1) : tLc (iRng1 ta) (gName j) tYes te vs σ H Q := h H (Ex.refl H) _ fun ws H1 e1 tw => by
  obtain _ | ⟨w1, _ | _⟩ := tw
  cases w1
  refine ⟨(n : Int), rfl, by omega, by omega, fun Dl hD => ?_⟩
  have en : ((n : Int)).toNat = n := by simp
  rw [en]
  refine lc_range (lo := 0) (n := n) (fun i H' => Pv Dl i H') (h0 H1 Dl e1 hD) (fun i H' hi c => ?_) (fun H' c => hd Dl H' c)
  have e0 : (0 : Int) + (i : Int) = (i : Int) := Int.zero_add _
  show wipe ((wipe σ vs).set j (some (.int ((0 : Int) + (i : Int))))) vs = wipe σ vs ∧ _
  rw [e0]
  refine ⟨hw _, ?_⟩
  exact hs Dl i H' hi c
theorem w_tupl (h : te σ H fun x H1 => rTupS K [x] H1 Q) : tCB (rTupS K) (tCons te tNil) σ H Q := h
theorem tupl_go {ys : List V} (hp : H p = some (.lst ys)) (h : ∀ l, H l = none → Q (.ref l) (upd H l (.tup ys))) : rTupS K [.ref p] H Q := ⟨p, ys, rfl, .inl ⟨SqL.of hp, h⟩⟩
/-- a list beside the row -/
def OffR (K : PySem.W.Frag) (s r : Addr) (ns : List Int) (p : Addr) : Prop := p ≠ r ∧ (s ≠ p ∨ SqL K (fun _ => none) s (ns.map V.int))
theorem RowAt.off (h : RowAt K s ns H r) (hp : H p = none) : OffR K s r ns p := by
  obtain ⟨p0, q, t, h3, h4, h5⟩ := h
  refine ⟨fun e => ?_, ?_⟩
  · subst e; rw [hp] at h3; cases h3
  · rcases sql_split h4 with ⟨u, h⟩ | h
    · refine .inl fun e => ?_
      subst e; rw [hp] at h; cases h
    · exact .inr h
theorem RowAt.updo {o : HO} (h : RowAt K s ns H r) (f : OffR K s r ns p) : RowAt K s ns (L2.upd H p o) r := by
  obtain ⟨p0, q, t, h3, h4, h5⟩ := h
  refine ⟨p0, q, t, ?_, sql_upd h4 f.2, h5⟩
  rw [upd_ne (Ne.symm f.1)]
  exact h3
theorem Fr.none (f : Fr [r] H H') (R : RowAt K s ns H' r) (hp : H' p = none) : H p = none := by
  cases h : H p with
  | none => rfl
  | some o =>
    by_cases e : p = r
    · subst e
      obtain ⟨u, hu, _⟩ := R.mu
      rw [hp] at hu
      cases hu
    · have := f p o (by simpa using e) h
      rw [hp] at this
      cases this
/-- one of a list of ints, drawn -/
theorem w_pick {ms : List Int} {n : Nat} {tl te : TE} {E : XK} (hl : EvDL K tl σ H (ms.map PyData.int)) (hs : σ[n]? = some (some (.ref r))) (hR : RowAt K s ns H r) (hn : ns.length ≤ 63) (hm : ∀ H, EvD K te σ H (.int (ms.length : Int))) (h0 : 0 < ms.length) (h1 : ms.length ≤ 1000)
    (k : ∀ (m : Int) H', m ∈ ms → Fr [r] H H' → RowAt K s ns H' r → Q (.int m) H') : tOp (rIxL K) tl (tCall (spTaken K) [] E (tCons (tVar n) (tCons te tNil))) σ H Q :=
  w_op (w_dl hl fun p xs H1 hp e1 hx ht => by
    have off := hR.off hp
    have ex := td_ints ht
    subst ex
    refine w_taken hs (hR.ex e1) hn (hm H1) (by omega) (by omega) fun kk H2 hk f2 R2 => ?_
    have hkk : kk < ms.length := by omega
    exact ⟨p, _, (kk : Int), .int ms[kk], rfl, rfl, SqL.of (f2 _ _ (by simpa using off.1) hx), atI_nat (by rw [List.getElem?_map, List.getElem?_eq_getElem hkk] <;> rfl), k _ _ (List.getElem_mem hkk) ((Fr.of e1).trans f2) R2⟩)
/-- the shapes stand at sh -/
def Shp (K : PySem.W.Frag) (sh : Addr) (shs : List (Nat × Nat)) (H : Hp) : Prop := ∃ xs, H sh = some (.lst xs) ∧ TdAll K H xs (shs.map fun x => szD x.1 x.2)
theorem Shp.ex {sh : Addr} {shs : List (Nat × Nat)} (h : Shp K sh shs H) (e : Ex H H') : Shp K sh shs H' := by
  obtain ⟨xs, h1, h2⟩ := h
  exact ⟨xs, e _ _ h1, h2.ex e⟩
theorem Shp.fr {sh : Addr} {shs : List (Nat × Nat)} {S : List Addr} (h : Shp K sh shs H) (f : Fr S H H') (hs : sh ∉ S) (k : Keep K H H') : Shp K sh shs H' := by
  obtain ⟨xs, h1, h2⟩ := h
  exact ⟨xs, f _ _ hs h1, h2.kp k⟩
/-- in the midst of a work: its body so far is bd -/
def Mid (K : PySem.W.Frag) (s r sh fl : Addr) (ns : List Int) (shs : List (Nat × Nat)) (H0 : Hp) (xs : List V) (ds : List PyData) (i cn cl ln : Nat) (bd : List Stm) (x : V) (H : Hp) : Prop :=
  (goB shs i 2 bd = true ∧ cntB bd ≤ cn ∧ clB bd ≤ cl ∧ bd.length ≤ ln) ∧ Td K H x (.tuple (encB bd)) ∧ H fl = some (.lst xs) ∧ TdAll K H xs ds ∧ Fr [fl, r] H0 H ∧ RowAt K s ns H r ∧ Shp K sh shs H
theorem Mid.fr {sh fl : Addr} {shs : List (Nat × Nat)} {H0 : Hp} {xs : List V} {ds : List PyData} {i cn cl ln : Nat} {bd : List Stm} {x : V} (h : Mid K s r sh fl ns shs H0 xs ds i cn cl ln bd x H) (f : Fr [r] H H') (R : RowAt K s ns H' r) (h1 : sh ≠ r) (h2 : fl ≠ r) : Mid K s r sh fl ns shs H0 xs ds i cn cl ln bd x H' := by
  obtain ⟨a, b, c, d, e, g, j⟩ := h
  have k := g.keep f
  exact ⟨a, b.kp k, f _ _ (by simpa using h2) c, d.kp k, e.trans (f.sub (by simp)), R, j.fr f (by simpa using h1) k⟩
theorem Mid.ex {sh fl : Addr} {shs : List (Nat × Nat)} {H0 : Hp} {xs : List V} {ds : List PyData} {i cn cl ln : Nat} {bd : List Stm} {x : V} (h : Mid K s r sh fl ns shs H0 xs ds i cn cl ln bd x H) (e : Ex H H') : Mid K s r sh fl ns shs H0 xs ds i cn cl ln bd x H' := by
  obtain ⟨a, b, c, d, f, g, j⟩ := h
  exact ⟨a, b.ex e, e _ _ c, d.ex e, f.trans (Fr.of e), g.ex e, j.ex e⟩
/-- a step more -/
theorem Mid.go {sh fl : Addr} {shs : List (Nat × Nat)} {H0 : Hp} {xs : List V} {ds : List PyData} {i cn cl ln cn' cl' ln' : Nat} {bd bd' : List Stm} {x x' : V} (h : Mid K s r sh fl ns shs H0 xs ds i cn cl ln bd x H) (hg : goB shs i 2 bd' = true ∧ cntB bd' ≤ cn' ∧ clB bd' ≤ cl' ∧ bd'.length ≤ ln') (t : Td K H x' (.tuple (encB bd'))) : Mid K s r sh fl ns shs H0 xs ds i cn' cl' ln' bd' x' H := ⟨hg, t, h.2.2⟩
end
/-- a drawn work -/
structure GoW (shs : List (Nat × Nat)) (most i : Nat) (w : Wk) : Prop where
  sh : shs[i]? = some (w.params, w.owns)
  go : goB shs i 2 w.body = true
  cnt : cntB w.body ≤ most + 2
  cl : clB w.body ≤ 4
  len : w.body.length ≤ 15
/-- drawn shapes -/
structure GoH (shs : List (Nat × Nat)) : Prop where
  len : 1 ≤ shs.length ∧ shs.length ≤ 4
  fst : shP shs 0 = 0
  ok : ∀ x ∈ shs, x.1 ≤ 3 ∧ x.2 ≤ 10
structure GoP (most : Nat) (p : List Wk) : Prop where
  hs : GoH (shapes p)
  ws : ∀ i w, p[i]? = some w → GoW (shapes p) most i w
def spProg (K : PySem.W.Frag) : Sp := fun vs H Q _ => ∃ (r s : Addr) (ns : List Int) (most : Nat), vs = [.ref r, .int (most : Int)] ∧ RowAt K s ns H r ∧ ns.length ≤ 63 ∧ 2 ≤ most ∧
  ∀ p x H', GoP most p → Fr [r] H H' → RowAt K s ns H' r → Td K H' x (encP p) → Q x H'
theorem goB_take {shs : List (Nat × Nat)} {at_ n : Nat} : ∀ (xs : List Stm) (k : Nat), goB shs at_ n xs = true → goB shs at_ n (xs.take k) = true
  | [], k, _ => by simp [goB]
  | x :: xs, 0, _ => by simp [goB]
  | x :: xs, k + 1, h => by
    simp only [goB, Bool.and_eq_true] at h
    simp only [List.take_succ_cons, goB, h.1, goB_take xs k h.2, Bool.and_self]
theorem cntB_take : ∀ (xs : List Stm) (k : Nat), cntB (xs.take k) ≤ cntB xs
  | [], k => by simp [cntB]
  | x :: xs, 0 => by simp [cntB]
  | x :: xs, k + 1 => by
    have := cntB_take xs k
    simp only [List.take_succ_cons, cntB]
    omega
theorem clB_take : ∀ (xs : List Stm) (k : Nat), clB (xs.take k) ≤ clB xs
  | [], k => by simp [clB]
  | x :: xs, 0 => by simp [clB]
  | x :: xs, k + 1 => by
    have := clB_take xs k
    simp only [List.take_succ_cons, clB]
    omega
theorem cutD_take {xs : List Stm} {k : Nat} : cutD (encB xs) none (some (k : Int)) = encB (xs.take k) := by
  unfold cutD
  rw [HT.sIx_none, HT.sIx_nat, List.drop_zero, Nat.sub_zero, encB_map, encB_map, List.map_take, List.length_map]
  rcases Nat.le_total k xs.length with h | h
  · rw [Nat.min_eq_left h]
  · rw [Nat.min_eq_right h, List.take_of_length_le (by simp), List.take_of_length_le (by simpa using h)]
section
variable {P : Program} {w : World} {K : PySem.W.Frag} {mg : Str → Option Value} {base : Heap} (T : Tx K mg)
include T
theorem ok_program (GT : Fn__law_taken T P w base CX0 1 (spTaken K)) (GP : Fn__law_place T P w base CX0 4 (spPlace K 1)) (GB : Fn__law_body T P w base CX0 11 (spBody K 2)) : Fn__law_program T P w base CX0 12 (spProg K) := by
  have G__law_body := GB
  have G__law_taken := GT
  have G__law_place := GP
  refine T.F__law_program.ok sc__law_program (fun vs H Q E h => by obtain ⟨r, s, ns, most, rfl, _⟩ := h; rfl) fun cdv A outer s0 H vs Q E hr h => ?_
  obtain ⟨r, s, ns, most, rfl, hR, hn, hm2, k⟩ := h
  refine ⟨_, (pss_cons (ps_set (i := 2) sc__law_program.nd rfl (Or.inr rfl) (pe_lst (pa_cons (pe_tup (pa_cons pe_int (pa_cons (pe_call G__law_taken (hr.mono (by omega)) (by rfl) T.g__law_taken T.k__law_taken T.bd__law_taken .nil pass0 (pa_cons (pv 0) (pa_cons pe_int pa_nil))) pa_nil))) pa_nil)))
  (pss_cons (ps_for (passes_of rfl) rfl (pi_range1 rfl T.b_range (pa_cons (pe_call G__law_taken (hr.mono (by omega)) (by rfl) T.g__law_taken T.k__law_taken T.bd__law_taken .nil pass0 (pa_cons (pv 0) (pa_cons pe_int pa_nil))) pa_nil)) (pg_name (i := 3) sc__law_program.nd rfl (Or.inl rfl))
    (pss_cons (ps_set (i := 4) sc__law_program.nd rfl (Or.inl rfl) (pe_call G__law_taken (hr.mono (by omega)) (by rfl) T.g__law_taken T.k__law_taken T.bd__law_taken .nil pass0 (pa_cons (pv 0) (pa_cons (pe_ix (kix_list K) (pe_lst (pa_cons pe_int (pa_cons pe_int (pa_cons pe_int (pa_cons pe_int (pa_cons pe_int (pa_cons pe_int pa_nil))))))) (pe_call G__law_taken (hr.mono (by omega)) (by rfl) T.g__law_taken T.k__law_taken T.bd__law_taken .nil pass0 (pa_cons (pv 0) (pa_cons pe_int pa_nil))) (fun _ _ => rfl)) pa_nil))))
    (pss_one (ps_expr (pe_bm PySem.F.plainAttrs_list PySem.F.slot_list_append PySem.F.type_list_append mt_append (pv 2) (pa_cons (pe_tup (pa_cons (pe_ix (kix_list K) (pe_lst (pa_cons pe_int (pa_cons pe_int (pa_cons pe_int (pa_cons pe_int (pa_cons pe_int pa_nil)))))) (pe_call G__law_taken (hr.mono (by omega)) (by rfl) T.g__law_taken T.k__law_taken T.bd__law_taken .nil pass0 (pa_cons (pv 0) (pa_cons pe_int pa_nil))) (fun _ _ => rfl)) (pa_cons (pv 4) pa_nil))) pa_nil))))))
  (pss_cons (ps_set (i := 5) sc__law_program.nd rfl (Or.inl rfl) (pe_lst pa_nil))
  (pss_cons (ps_for (passes_of rfl) rfl (pi_range1 rfl T.b_range (pa_cons (pe_callB (kc_len K) rfl T.b_len PySem.boot_len (pa_cons (pv 2) pa_nil)) pa_nil)) (pg_name (i := 6) sc__law_program.nd rfl (Or.inr rfl))
    (pss_cons (ps_set (i := 7) sc__law_program.nd rfl (Or.inl rfl) (pe_call G__law_body (hr.mono (by omega)) (by rfl) T.g__law_body T.k__law_body T.bd__law_body .nil pass0 (pa_cons (pv 0) (pa_cons (pv 2) (pa_cons (pv 6) (pa_cons (pe_lst (pa_cons (pv 1) (pa_cons pe_int pa_nil))) (pa_cons pe_int pa_nil)))))))
    (pss_cons (ps_if (PW.pt (pw_and (pt_cmpR op_lt (pe_op op_add (pv 6) pe_int) (pe_callB (kc_len K) rfl T.b_len PySem.boot_len (pa_cons (pv 2) pa_nil)) (nomark _)) (pw_and1 (pt_cmpR op_gt (pe_call G__law_taken (hr.mono (by omega)) (by rfl) T.g__law_taken T.k__law_taken T.bd__law_taken .nil pass0 (pa_cons (pv 0) (pa_cons pe_int pa_nil))) pe_int (nomark _)))))
      (pss_cons (ps_set (i := 8) sc__law_program.nd rfl (Or.inl rfl) (pe_callTy (kc_tuple K) rfl T.b_tuple (by decide +kernel) (pa_cons (pe_lc (own := [("_law_k", 3)]) (g := gName 3) (tt := tYes) rfl sc__law_program.nd (pi_range1 rfl T.b_range (pa_cons (pe_ix (kix_tup K) (pe_ix (kix_list K) (pv 2) (pe_op op_add (pv 6) pe_int) (fun _ _ => rfl)) pe_int (fun _ _ => rfl)) pa_nil)) (blkOk_by (N := ["_law_row", "_law_most", "_law_shapes", "_law_k", "_law_owns", "_law_found", "_law_at", "_law_body_here", "_law_things"]) (sc := defScope s__law_program) (by decide +kernel)) (fun _ _ _ _ _ => (pg_name (i := 3) sc__law_program.nd rfl (Or.inl rfl))) (fun _ _ _ _ _ => pts_nil) (fun _ _ _ _ _ => (pe_call G__law_place (hr.mono (by omega)) (by rfl) T.g__law_place T.k__law_place T.bd__law_place .nil pass0 (pa_cons (pv 0) (pa_cons (pe_ix (kix_list K) (pv 2) (pv 6) (fun _ _ => rfl)) (pa_cons pe_int pa_nil)))))) pa_nil)))
      (pss_one (ps_set (i := 7) sc__law_program.nd rfl (Or.inl rfl) (pe_op (kop_cat K) (pe_slice (ksl_tup K) (pv 7) po_none (po_some (pe_op op_sub (pv 1) pe_int))) (pe_tup (pa_cons (pe_tup (pa_cons pe_str (pa_cons (pe_op op_add (pv 6) pe_int) (pa_cons (pv 8) pa_nil)))) pa_nil))))))
      pss_nil)
    (pss_cons (ps_if (PW.pt (pw_and (pt_cmpR op_gt (pv 6) pe_int (nomark _)) (pw_and (pt_cmpR op_gt (pe_ix (kix_tup K) (pe_ix (kix_list K) (pv 2) (pv 6) (fun _ _ => rfl)) pe_int (fun _ _ => rfl)) pe_int (nomark _)) (pw_and1 (pt_cmpR op_eq (pe_call G__law_taken (hr.mono (by omega)) (by rfl) T.g__law_taken T.k__law_taken T.bd__law_taken .nil pass0 (pa_cons (pv 0) (pa_cons pe_int pa_nil))) pe_int (nomark _))))))
      (pss_one (ps_set (i := 7) sc__law_program.nd rfl (Or.inl rfl) (pe_op (kop_cat K) (pe_slice (ksl_tup K) (pv 7) po_none (po_some (pe_op op_sub (pv 1) pe_int))) (pe_tup (pa_cons (pe_tup (pa_cons pe_str (pa_cons (pe_tup (pa_cons pe_str (pa_cons pe_int pa_nil))) (pa_cons (pe_tup (pa_cons pe_str (pa_cons (pe_tup (pa_cons pe_str (pa_cons pe_int pa_nil))) (pa_cons (pe_tup (pa_cons pe_str (pa_cons pe_int pa_nil))) pa_nil)))) pa_nil)))) pa_nil)))))
      pss_nil)
    (pss_one (ps_expr (pe_bm PySem.F.plainAttrs_list PySem.F.slot_list_append PySem.F.type_list_append mt_append (pv 5) (pa_cons (pe_op (kop_cat K) (pe_ix (kix_list K) (pv 2) (pv 6) (fun _ _ => rfl)) (pe_tup (pa_cons (pv 7) pa_nil))) pa_nil))))))))
  (pss_one (ps_ret (pe_callTy (kc_tuple K) rfl T.b_tuple (by decide +kernel) (pa_cons (pv 5) pa_nil)))))))), ?_⟩
  refine w_seq (w_asg (w_lst (w_cons (w_tup (w_cons (w_c (w_cons (w_taken rfl hR hn (m := 3) ?_ (by decide) (by decide) fun o0 H1 ho0 f1 R1 => w_nil ⟨by show 2 ≤ sizeLine; decide, fun p1 hp1 => w_nil ⟨by show 1 ≤ sizeLine; decide, fun sh hsh => ?_⟩⟩))))))))
  · walk_at "ev"
  have hR1 := R1.ex (Ex.new (o := .tup [.int 0, .int (o0 : Int)]) hp1)
  have offs := hR1.off hsh
  have hsh0 : H sh = none := f1.none R1 (fresh_back (Ex.new hp1) hsh)
  have e2 : Ex H1 (upd (upd H1 p1 (.tup [.int 0, .int (o0 : Int)])) sh (.lst [.ref p1])) := (Ex.new hp1).trans (Ex.new hsh)
  have R2 := R1.ex e2
  have f2 := f1.trans (Fr.of e2)
  have ht2 : TdAll K (upd (upd H1 p1 (.tup [.int 0, .int (o0 : Int)])) sh (.lst [.ref p1])) [.ref p1] ([(0, o0)].map fun x => szD x.1 x.2) := .cons ((td_new hp1 (tdall2 (.int 0) (.int _))).ex (Ex.new hsh)) .nil
  have hx2 : upd (upd H1 p1 (.tup [.int 0, .int (o0 : Int)])) sh (.lst [.ref p1]) sh = some (.lst [.ref p1]) := upd_same
  dsimp only
  generalize upd (upd H1 p1 (.tup [.int 0, .int (o0 : Int)])) sh (.lst [.ref p1]) = H2 at *
  refine w_seq (w_forR0 (w_cons (w_taken rfl R2 hn (m := 4) ?_ (by decide) (by decide) fun n1 H3 hn1 f3 R3 => w_nil (rng_go (by omega) (fun i σ' H' => ∃ (shs : List (Nat × Nat)) (xs : List V) (u3 u4 : Option V), σ' = [some (.ref r), some (.int (most : Int)), some (.ref sh), u3, u4, none, none, none, none] ∧ H' sh = some (.lst xs) ∧ TdAll K H' xs (shs.map fun x => szD x.1 x.2) ∧ shs.length = i + 1 ∧ shP shs 0 = 0 ∧ (∀ x ∈ shs, x.1 ≤ 3 ∧ x.2 ≤ 10) ∧ Fr [sh, r] H H' ∧ RowAt K s ns H' r) ?_ ?_ ?_))))
  · walk_at "ev"
  · refine ⟨[(0, o0)], [.ref p1], _, _, rfl, f3 _ _ (by simpa using offs.1) hx2, ht2.kp (R2.keep f3), rfl, rfl, ?_, (f2.trans f3).sub (by simp), R3⟩
    intro x hx
    have : x = (0, o0) := by simpa using hx
    subst this
    exact ⟨by simp, by simp; omega⟩
  · rintro i σ' H' hi ⟨shs, xs, u3, u4, rfl, hxs, hall, hlen, h0, hok, hf, hR'⟩
    refine w_seq (w_asg (w_call (w_cons (w_v rfl (w_cons (w_pick (K := K) (ms := [3, 3, 3, 3, 3, 11]) ?_ rfl hR' hn ?_ (by decide) (by decide) fun m H4 hm f4 R4 => w_nil ⟨r, s, ns, m, rfl, R4, hn, ?_, ?_, fun ow H5 how f5 R5 => ?_⟩))))))
    · exact edl_lst (by walk_at "eva") (by simp)
    · intro H
      exact ed_ci
    · simp at hm; omega
    · simp at hm; omega
    have how10 : ow ≤ 10 := by simp at hm; omega
    have hx5 : H5 sh = some (.lst xs) := f5 _ _ (by simpa using offs.1) (f4 _ _ (by simpa using offs.1) hxs)
    have hall5 := (hall.kp (hR'.keep f4)).kp (R4.keep f5)
    dsimp only
    refine w_app rfl hx5 (w_tup (w_cons (w_pick (K := K) (ms := [1, 2, 2, 3, 0]) ?_ rfl R5 hn ?_ (by decide) (by decide) fun pm H6 hpm f6 R6 => w_cons (w_v rfl (w_nil ⟨by show 2 ≤ sizeLine; decide, fun p hp => ?_⟩)))))
    · exact edl_lst (by walk_at "eva") (by simp)
    · intro H
      exact ed_ci
    obtain ⟨pn, rfl, hpn⟩ : ∃ pn : Nat, pm = (pn : Int) ∧ pn ≤ 3 := ⟨pm.toNat, by simp at hpm; omega, by simp at hpm; omega⟩
    have hx6 : H6 sh = some (.lst xs) := f6 _ _ (by simpa using offs.1) hx5
    have e7 : Ex H6 (upd H6 p (.tup [.int (pn : Int), .int (ow : Int)])) := Ex.new hp
    have t7 : Td K (upd H6 p (.tup [.int (pn : Int), .int (ow : Int)])) (.ref p) (szD pn ow) := td_new hp (tdall2 (.int _) (.int _))
    have hx7 := e7 _ _ hx6
    have hall7 := (hall5.kp (R5.keep f6)).ex e7
    have R7 := R6.ex e7
    have F7 : Fr [sh, r] H (upd H6 p (.tup [.int (pn : Int), .int (ow : Int)])) := (((hf.trans (f4.sub (by simp))).trans (f5.sub (by simp))).trans (f6.sub (by simp))).trans (Fr.of e7)
    generalize upd H6 p (.tup [.int (pn : Int), .int (ow : Int)]) = H7 at *
    have kk : Keep K H7 (upd H7 sh (.lst (xs ++ [.ref p]))) := Keep.upd hx7 True.intro
    refine ⟨xs, hx7, by rw [hall.length, List.length_map]; exact sz_lt (by omega), shs ++ [(pn, ow)], xs ++ [.ref p], _, _, rfl, upd_same, ?_, by simp [hlen], ?_, ?_, F7.trans (Fr.upd (by simp)), R7.updo offs⟩
    · rw [List.map_append]
      exact (hall7.kp kk).snoc (t7.kp kk)
    · cases shs with
      | nil => simp at hlen
      | cons z zs => simpa [shP] using h0
    · intro x hx
      rcases List.mem_append.mp hx with hx | hx
      · exact hok x hx
      · have : x = (pn, ow) := by simpa using hx
        subst this
        exact ⟨hpn, how10⟩
  rintro σ' H' ⟨shs, xs, u3, u4, rfl, hxs, hall, hlen, h0, hok, hf, hR'⟩
  have gh : GoH shs := ⟨by omega, h0, hok⟩
  have hsho : shOk shs := ⟨by omega, hok⟩
  have hshp : Shp K sh shs H' := ⟨xs, hxs, hall⟩
  have ff : Fr [r] H H' := Fr.fresh hf hsh0
  clear hf hxs hall f2 f1 f3 R1 R2 R3 hR1 e2 ht2 hx2
  dsimp only
  refine Pst.go (K := K) ?_
  refine pst_asgL (edl_lst eda_nil (by simp)) fun fl xs0 H8 hfl e8 hx8 ht8 => ?_
  cases ht8
  have offf := hR'.off hfl
  have hshfl : sh ≠ fl := by
    intro e
    obtain ⟨ys, h1, _⟩ := hshp
    rw [e, hfl] at h1
    cases h1
  refine pst_of fun H9 e9 => ?_
  have hshp9 := (hshp.ex e8).ex e9
  obtain ⟨sxs, hsx, hsa⟩ := hshp9
  have hsl : SqL K H9 sh sxs := SqL.of hsx
  refine w_seq (w_forR (K := K) (n := shs.length) ?_ (by have := gh.len; omega) (fun i σ' H1 => ∃ (ws : List Wk) (xs : List V) (u6 u7 u8 : Option V), σ' = [some (.ref r), some (.int (most : Int)), some (.ref sh), u3, u4, some (.ref fl), u6, u7, u8] ∧ H1 fl = some (.lst xs) ∧ TdAll K H1 xs (ws.map encW) ∧ ws.length = i ∧ (∀ j w, ws[j]? = some w → GoW shs most j w) ∧ Fr [fl, r] H9 H1 ∧ RowAt K s ns H1 r ∧ Shp K sh shs H1) ?_ ?_ ?_)
  · apply eda_cons
    · apply ed_is
      · walk_at "ev"
      · rw [List.length_map]
    · exact eda_nil
  · intro H10 e10
    exact ⟨[], [], _, _, _, rfl, e10 _ _ (e9 _ _ hx8), .nil, rfl, by simp, Fr.of e10, ((hR'.ex e8).ex e9).ex e10, ((hshp.ex e8).ex e9).ex e10⟩
  · rintro i σ' H10 hi ⟨ws, xs, u6, u7, u8, rfl, hxs, hall, hlen, hws, hf, hR1, hsp⟩
    obtain ⟨⟨cp, co⟩, hcz⟩ : ∃ z, shs[i]? = some z := ⟨_, List.getElem?_eq_getElem hi⟩
    have hcb := hok _ (List.mem_of_getElem? hcz)
    have ecp : shP shs i = cp := by simp [shP, List.getD, hcz]
    have eco : shO shs i = co := by simp [shO, List.getD, hcz]
    have hcat : atI (shs.map fun x => szD x.1 x.2) (i : Int) = some (.tuple [.int (cp : Int), .int (co : Int)]) := atI_nat (by rw [List.getElem?_map, hcz] <;> rfl)
    have h1 : sh ≠ r := offs.1
    have h2 : fl ≠ r := offf.1
    have goes : ∀ {t : Th}, wfT cp co t = true → dpT t ≤ 3 → goT shs i t = true := fun h1 h2 => by
      unfold goT
      rw [ecp, eco, h1, decide_eq_true h2]
      rfl
    dsimp only
    refine seq_cut (fun σ1 H1 => ∃ bd x, σ1 = [some (.ref r), some (.int (most : Int)), some (.ref sh), u3, u4, some (.ref fl), some (.int (i : Int)), some x, u8] ∧ Mid K s r sh fl ns shs H9 xs (ws.map encW) i most 3 13 bd x H1) ?_ fun N hN => ?_
    · rintro σ1 H11 ⟨bd, x, rfl, M⟩
      refine seq_cut (fun σ1 H1 => ∃ bd x u8, σ1 = [some (.ref r), some (.int (most : Int)), some (.ref sh), u3, u4, some (.ref fl), some (.int (i : Int)), some x, u8] ∧ Mid K s r sh fl ns shs H9 xs (ws.map encW) i (most + 1) 4 14 bd x H1) ?_ fun N hN => ?_
      · clear M
        rintro σ1 H11 ⟨bd, x, u8, rfl, M⟩
        refine seq_cut (fun σ1 H1 => ∃ bd x u8, σ1 = [some (.ref r), some (.int (most : Int)), some (.ref sh), u3, u4, some (.ref fl), some (.int (i : Int)), some x, u8] ∧ Mid K s r sh fl ns shs H9 xs (ws.map encW) i (most + 2) 4 15 bd x H1) ?_ fun N hN => ?_
        · clear M
          rintro σ1 H11 ⟨bd, x, u8, rfl, M⟩
          obtain ⟨⟨g1, g2, g3, g4⟩, tb, hx, ha, hf', hR2, hsp2⟩ := M
          obtain ⟨sxs, hsx, hsa⟩ := hsp2
          have hsl : SqL K H11 sh sxs := SqL.of hsx
          refine w_app rfl hx (w_d (K := K) (d := encW ⟨cp, co, bd⟩) ?_ fun v H12 e12 t12 => ?_)
          · refine ed_is (ed_cat (ds := [.int (cp : Int), .int (co : Int)]) (es := [.tuple (encB bd)]) ?_ ?_ (by simp)) rfl
            · walk_at "ev"
            · walk_at "ev"
          have hx12 := e12 _ _ hx
          have kk : Keep K H12 (upd H12 fl (.lst (xs ++ [v]))) := Keep.upd hx12 True.intro
          refine ⟨xs, hx12, by rw [hall.length, List.length_map]; exact sz_lt (by have := gh.len; omega), ws ++ [⟨cp, co, bd⟩], xs ++ [v], _, _, _, rfl, upd_same, ?_, by simp [hlen], ?_, (hf'.trans (Fr.of e12)).trans (Fr.upd (by simp)), (hR2.ex e12).updo offf, ?_⟩
          · rw [List.map_append]
            exact ((ha.ex e12).kp kk).snoc (t12.kp kk)
          · intro j w hj
            rw [List.getElem?_append] at hj
            split at hj
            · exact hws j w hj
            · rename_i hjl
              have e0 : j - ws.length = 0 := by
                have := List.getElem?_eq_some_iff.mp hj
                obtain ⟨h, _⟩ := this
                simp at h
                exact h
              have ej : j = i := by omega
              rw [e0] at hj
              simp at hj
              subst hj ej
              exact ⟨hcz, g1, g2, g3, g4⟩
          · exact ⟨sxs, by rw [upd_ne hshfl]; exact e12 _ _ hsx, (hsa.ex e12).kp kk⟩
        · -- the second if
          have skip : ∀ H1 bd' x', Mid K s r sh fl ns shs H9 xs (ws.map encW) i (most + 1) 4 14 bd' x' H1 → Mid K s r sh fl ns shs H9 xs (ws.map encW) i (most + 2) 4 15 bd' x' H1 := fun H1 bd' x' M => M.go ⟨M.1.1, by have := M.1; omega, by have := M.1; omega, by have := M.1; omega⟩ M.2.1
          refine w_ifs (w_and (w_t (K := K) (b := decide (0 < (i : Int))) ?_ fun H12 e12 => ?_))
          · walk_at "et"
          have M12 := M.ex e12
          clear M
          by_cases hi0 : 0 < (i : Int)
          · rw [decide_eq_true hi0]
            refine iteT (w_and (w_t (K := K) (b := decide (0 < (cp : Int))) ?_ fun H13 e13 => ?_))
            · obtain ⟨_, _, _, _, _, _, ⟨sxs, hsx, hsa⟩⟩ := M12
              have hsl : SqL K H12 sh sxs := SqL.of hsx
              walk_at "et"
            have M13 := M12.ex e13
            clear M12
            by_cases hc0 : 0 < (cp : Int)
            · rw [decide_eq_true hc0]
              refine iteT (w_test (w_op (w_taken rfl M13.2.2.2.2.2.1 hn (m := 2) ?_ (by decide) (by decide) fun k4 H14 hk4 f14 R14 => w_c ⟨by rfl, _, rfl, ?_⟩)))
              · walk_at "ev"
              have M14 := M13.fr f14 R14 h1 h2
              clear M13
              by_cases hk : V.int (k4 : Int) = V.int 1
              · rw [decide_eq_true hk]
                refine iteT ?_
                have tbd := M14.2.1
                obtain ⟨g1, g2, g3, g4⟩ := M14.1
                refine w_asg (w_d (K := K) (d := .tuple (encB (bd.take (most - 1) ++ [.set (.par 0) (.sum (.par 0) (.num 1))]))) ?_ fun v H16 e16 t16 => ?_)
                · refine ed_is (ed_cat (ds := cutD (encB bd) none (some (((most - 1 : Nat)) : Int))) (es := [.tuple [.str "set", .tuple [.str "par", .int 0], .tuple [.str "sum", .tuple [.str "par", .int 0], .tuple [.str "num", .int 1]]]]) (ed_sl ?_ eok_none (eok_some ?_)) ?_ ?_) ?_
                  · walk_at "ev"
                  · apply ed_is
                    · walk_at "ev"
                    · exact congrArg PyData.int (by omega)
                  · walk_at "ev"
                  · rw [cutD_take, encB_length]
                    simp
                    omega
                  · rw [cutD_take, encB_map, encB_map, List.map_append]
                    simp [encS, encT]
                have hw0 : goT shs i (.par 0) = true := goes (by simp [wfT]; omega) (by simp [dpT])
                have hw1 : goT shs i (.sum (.par 0) (.num 1)) = true := goes (by simp [wfT]; omega) (by simp [dpT])
                refine hN _ _ ⟨_, v, _, rfl, (M14.ex e16).go ⟨goB_app (goB_take _ _ g1) ?_, ?_, ?_, ?_⟩ t16⟩
                · simp only [goB, goS, Bool.and_true, Bool.and_eq_true]
                  exact ⟨hw0, rfl, hw1⟩
                · rw [cntB_app]
                  have := cntB_take bd (most - 1)
                  simp only [cntB, cntS]
                  omega
                · rw [clB_app]
                  have := clB_take bd (most - 1)
                  simp only [clB, clS]
                  omega
                · simp
                  omega
              · rw [decide_eq_false hk]
                exact iteF (hN _ _ ⟨bd, x, _, rfl, skip _ _ _ M14⟩)
            · rw [decide_eq_false hc0]
              exact iteF (iteF (hN _ _ ⟨bd, x, _, rfl, skip _ _ _ M13⟩))
          · rw [decide_eq_false hi0]
            exact iteF (iteF (hN _ _ ⟨bd, x, _, rfl, skip _ _ _ M12⟩))
      · -- the first if
        refine w_ifs (w_and (w_t (K := K) (b := decide ((i : Int) + 1 < (shs.length : Int))) ?_ fun H12 e12 => ?_))
        · obtain ⟨_, _, _, _, _, _, ⟨sxs, hsx, hsa⟩⟩ := M
          have hsl : SqL K H11 sh sxs := SqL.of hsx
          apply tk_is
          · walk_at "et"
          · rw [List.length_map]
        have M12 := M.ex e12
        clear M
        by_cases hlt : (i : Int) + 1 < (shs.length : Int)
        · rw [decide_eq_true hlt]
          refine iteT (w_test (w_op (w_taken rfl M12.2.2.2.2.2.1 hn (m := 4) ?_ (by decide) (by decide) fun k4 H13 hk4 f13 R13 => w_c ⟨_, _, rfl, rfl, _, rfl, ?_⟩)))
          · walk_at "ev"
          have M13 := M12.fr f13 R13 h1 h2
          clear M12
          by_cases hk : 0 < (k4 : Int)
          · rw [decide_eq_true hk]
            refine iteT ?_
            obtain ⟨⟨np, no⟩, hnz⟩ : ∃ z, shs[i + 1]? = some z := ⟨_, List.getElem?_eq_getElem (by omega)⟩
            have hnb := hok _ (List.mem_of_getElem? hnz)
            have enp : shP shs (i + 1) = np := by simp [shP, List.getD, hnz]
            have ei : ((i : Int) + 1) = ((i + 1 : Nat) : Int) := by omega
            have hnat : atI (shs.map fun x => szD x.1 x.2) ((i : Int) + 1) = some (.tuple [.int (np : Int), .int (no : Int)]) := by
              rw [ei]
              exact atI_nat (by rw [List.getElem?_map, hnz] <;> rfl)
            have S13 := M13.2.2.2.2.2
            obtain ⟨sxs, hsx, hsa⟩ := S13.2
            have hsl : SqL K H13 sh sxs := SqL.of hsx
            refine w_seq (w_asg (w_tupl (w_lcR (K := K) (n := np) ?_ (by omega) (fun _ => rfl) (fun p j H14 => H13 p = none ∧ ∃ (ts : List Th) (acc : List V), H14 p = some (.lst acc) ∧ TdAll K H14 acc (ts.map encT) ∧ ts.length = j ∧ ts.all (goT shs i) = true ∧ Fr [p, r] H13 H14 ∧ RowAt K s ns H14 r ∧ Shp K sh shs H14) ?_ ?_ ?_)))
            · apply eda_cons
              · walk_at "ev"
              · exact eda_nil
            · intro H14 p e14 hp
              exact ⟨fresh_back e14 hp, [], [], upd_same, .nil, rfl, rfl, Fr.of (e14.trans (Ex.new hp)), S13.1.ex (e14.trans (Ex.new hp)), S13.2.ex (e14.trans (Ex.new hp))⟩
            · rintro p j H14 hj ⟨hp0, ts, acc, hx, ht, hl, hg, hf14, R14, S14⟩
              have off := S13.1.off hp0
              have hpsh : sh ≠ p := by
                intro e
                rw [e, hp0] at hsx
                cases hsx
              clear hsl hsa
              obtain ⟨sxs, hsx, hsa⟩ := S14
              have hsl : SqL K H14 sh sxs := SqL.of hsx
              refine w_place (m := 1) (ps := cp) (os := co) rfl R14 hn ?_ (by omega) (by omega) ed_ci fun t xt H15 wt it dt f15 R15 tt => ?_
              · unfold szD
                walk_at "ev"
              have hx15 := f15 p _ (by simpa using off.1) hx
              have kk : Keep K H15 (upd H15 p (.lst (acc ++ [xt]))) := Keep.upd hx15 True.intro
              refine ⟨acc, hx15, by rw [ht.length, List.length_map]; exact sz_lt (by omega), hp0, ts ++ [t], acc ++ [xt], upd_same, ?_, by simp [hl], by simp [hg, goes wt (by omega)], (hf14.trans (f15.sub (by simp))).trans (Fr.upd (by simp)), R15.updo off, ⟨sxs, ?_, (hsa.kp (R14.keep f15)).kp kk⟩⟩
              · rw [List.map_append]
                exact ((ht.kp (R14.keep f15)).kp kk).snoc (tt.kp kk)
              · rw [upd_ne hpsh]
                exact f15 _ _ (by simpa using h1) hsx
            · rintro p H14 ⟨hp0, ts, acc, hx, ht, hl, hg, hf14, R14, S14⟩
              refine tupl_go hx fun l hl2 => ?_
              have M15 := (M13.fr (Fr.fresh hf14 hp0) R14 h1 h2).ex (Ex.new (o := .tup acc) hl2)
              have tts : Td K (upd H14 l (.tup acc)) (.ref l) (.tuple (ts.map encT)) := .tup (SqT.of upd_same) (ht.ex (Ex.new hl2))
              generalize upd H14 l (.tup acc) = H15 at *
              dsimp only
              have tbd := M15.2.1
              obtain ⟨g1, g2, g3, g4⟩ := M15.1
              refine w_asg (w_d (K := K) (d := .tuple (encB (bd.take (most - 1) ++ [.call (i + 1) ts]))) ?_ fun v H16 e16 t16 => ?_)
              · refine ed_is (ed_cat (ds := cutD (encB bd) none (some (((most - 1 : Nat)) : Int))) (es := [.tuple [.str "call", .int ((i : Int) + 1), .tuple (ts.map encT)]]) (ed_sl ?_ eok_none (eok_some ?_)) ?_ ?_) ?_
                · walk_at "ev"
                · apply ed_is
                  · walk_at "ev"
                  · exact congrArg PyData.int (by omega)
                · apply ed_tup
                  · apply eda_cons
                    · apply ed_tup
                      · apply eda_cons
                        · walk_at "ev"
                        apply eda_cons
                        · walk_at "ev"
                        apply eda_cons
                        · walk_at "ev"
                        exact eda_nil
                      · simp
                    · exact eda_nil
                  · simp
                · rw [cutD_take, encB_length]
                  simp
                  omega
                · rw [cutD_take, encB_map, encB_map, List.map_append]
                  simp [encS]
              refine hN _ _ ⟨_, v, _, rfl, (M15.ex e16).go ⟨goB_app (goB_take _ _ g1) ?_, ?_, ?_, ?_⟩ t16⟩
              · simp only [goB, goS, Bool.and_true, Bool.and_eq_true, decide_eq_true_eq]
                exact ⟨by omega, by omega, by rw [enp, hl], hg⟩
              · rw [cntB_app]
                have := cntB_take bd (most - 1)
                simp only [cntB, cntS]
                omega
              · rw [clB_app]
                have := clB_take bd (most - 1)
                simp only [clB, clS]
                omega
              · simp
                omega
          · rw [decide_eq_false hk]
            exact iteF (hN _ _ ⟨bd, x, _, rfl, M13.go ⟨M13.1.1, by have := M13.1; omega, by have := M13.1; omega, by have := M13.1; omega⟩ M13.2.1⟩)
        · rw [decide_eq_false hlt]
          exact iteF (iteF (hN _ _ ⟨bd, x, _, rfl, M12.go ⟨M12.1.1, by have := M12.1; omega, by have := M12.1; omega, by have := M12.1; omega⟩ M12.2.1⟩))
    · -- the body
      have offl : ∀ l, H10 l = none → OffR K s r ns l := fun l hl => hR1.off hl
      refine w_asg (w_call (w_cons (w_v rfl (w_cons (w_v rfl (w_cons (w_v rfl ?_)))))))
      refine w_cons (w_lst (w_cons (w_v rfl (w_cons (w_c (w_nil ⟨by show 2 ≤ sizeLine; decide, fun l hl => ?_⟩))))))
      refine w_cons (w_c (w_nil ⟨r, s, sh, l, ns, shs, i, most, 3, rfl, ⟨hR1.ex (Ex.new hl), hsp.ex (Ex.new hl), upd_same, h1, ?_, (offl l hl).1, (offl l hl).2⟩, hn, hsho, hi, fun bd x H11 a' b' q0 q1 q2 q3 f11 g11 t11 => ?_⟩))
      · intro e
        obtain ⟨ys, hy, _⟩ := hsp
        rw [e, hl] at hy
        cases hy
      · have f12 : Fr [r] H10 H11 := Fr.fresh (((Fr.of (Ex.new hl)).trans f11).sub (by simp)) hl
        exact hN _ _ ⟨bd, x, rfl, ⟨q1, by omega, by omega, q0⟩, t11, f12 _ _ (by simpa using h2) hxs, hall.kp (hR1.keep f12), hf.trans (f12.sub (by simp)), g11.row, hsp.fr f12 (by simpa using h1) (hR1.keep f12)⟩
  · rintro σ' H10 ⟨ws, xs, u6, u7, u8, rfl, hxs, hall, hlen, hws, hf, hR1, hsp⟩
    dsimp only
    refine w_ret (w_d (K := K) (ed_tupL (edr_var rfl (SqL.of hxs) hall)) fun v H11 e11 t11 => ?_)
    have esh : shapes ws = shs := by
      unfold shapes
      refine List.ext_getElem? fun j => ?_
      rw [List.getElem?_map]
      cases h : ws[j]? with
      | none =>
        have : shs[j]? = none := by
          rw [List.getElem?_eq_none_iff] at h ⊢
          omega
        rw [this]
        rfl
      | some w => rw [(hws j w h).sh]; rfl
    refine k ws v H11 ⟨by rw [esh]; exact gh, by rw [esh]; exact hws⟩ ((ff.trans (((Fr.of e8).trans ((Fr.of e9).trans hf)).fresh hfl)).trans (Fr.of e11)) (hR1.ex e11) t11
end
end Hw

set_option maxRecDepth 100000
set_option maxHeartbeats 4000000
/-! XA: data with lists in it, alike -/
namespace Hw
open PySem PySem.Spec PyProof.Rows L2 Evl
local macro_rules | `(tactic| walk_at "dd") => `(tactic| first | rfl | decide | (simp; done) | omega)
local macro_rules | `(tactic| walk_at "td") => `(tactic| first | assumption | exact Td.int _ | exact Td.bl _ | exact Td.str _ | exact Td.non | exact Td.tup (by assumption) (by assumption))
local macro_rules | `(tactic| walk_at "ev") => `(tactic| first
  | exact ed_ci | exact ed_cs | exact ed_cb | exact ed_cn
  | (apply ed_cg; assumption)
  | (apply ed_var; (rfl); (walk_at "td"))
  | (apply ed_ixT; (walk_at "ev"); (walk_at "ev"); (first | rfl | assumption))
  | (apply ed_rowI; (rfl); (assumption); (walk_at "ev"); (rfl))
  | (apply ed_ixL; (apply EvDL.rd; walk_at "edl"); (walk_at "ev"); (rfl))
  | (apply ed_intb; (walk_at "ev"))
  | (apply ed_len; walk_at "ev")
  | (apply ed_lenV; (apply ev_rowR; (rfl); (assumption); (walk_at "ev"); (rfl)); (assumption))
  | (apply ed_Ii; (walk_at "ev"); (walk_at "ev"); (walk_at "cc"))
  | (apply ed_isi; (walk_at "ev"); (rfl))
  | (apply ed_I0i; (walk_at "ev"); (walk_at "ev"))
  | (apply ed_I0b; (walk_at "ev"); (walk_at "ev"))
  | (apply ed_eqi; (walk_at "ev"); (walk_at "ev"))
  | (apply ed_nei; (walk_at "ev"); (walk_at "ev"))
  | (apply ed_andF; walk_at "ev")
  | (apply ed_andV; (walk_at "ev"); (intro _; walk_at "ev"))
  | (apply ed_orT; walk_at "ev")
  | (apply ed_orV; (walk_at "ev"); (intro _; walk_at "ev"))
  | (apply ed_notT; walk_at "ev")
  | (apply ed_notF; walk_at "ev")
  | (apply ed_notV; walk_at "ev")
  | (apply ed_chain; (walk_at "ev"); (walk_at "ev"); (intro _; walk_at "ev"))
  | (apply ed_eqS; (walk_at "ev"); (walk_at "ev"); (walk_at "bb"); (walk_at "bb"))
  | (apply ed_neS; (walk_at "ev"); (walk_at "ev"); (walk_at "bb"); (walk_at "bb"))
  | (apply ed_inT; (walk_at "ev"); (walk_at "ev"); (rfl); (rfl))
  | (apply ed_niT; (walk_at "ev"); (walk_at "ev"); (rfl); (rfl))
  | (apply ed_tup; (walk_at "eva"); (walk_at "bb"))
  | (apply ed_sl; (walk_at "ev"); (walk_at "evo"); (walk_at "evo"))
  | (apply ed_eqN; (apply EvDL.rd; walk_at "edl"); (walk_at "edl"); (walk_at "bb"))
  | (apply ed_neN; (apply EvDL.rd; walk_at "edl"); (walk_at "edl"); (walk_at "bb"))
  | (apply ed_ixL; (apply edr_var; (rfl); (assumption); (assumption)); (walk_at "ev"); (first | rfl | assumption))
  | (apply ed_lenL; (apply edr_var; (rfl); (assumption); (assumption)))
  | (apply ed_call; (walk_at "eva"); (walk_at "post")))
local macro_rules | `(tactic| walk_at "edl") => `(tactic| first
  | assumption
  | (apply edl_lst; (walk_at "eva"); (walk_at "bb")))
local macro_rules | `(tactic| walk_at "eva") => `(tactic| first
  | exact eda_nil
  | (apply eda_cons; (walk_at "ev"); (walk_at "eva")))
local macro_rules | `(tactic| walk_at "evo") => `(tactic| first
  | exact eok_none
  | (apply eok_some; walk_at "ev"))
local macro_rules | `(tactic| walk_at "bb") => `(tactic| first | rfl | assumption | (simp; done) | (simp; omega) | decide +kernel)
local macro_rules | `(tactic| walk_at "et") => `(tactic| first
  | exact tk_yes
  | (apply tk_andF; walk_at "et")
  | (apply tk_and; (walk_at "et"); (intro _; walk_at "et"))
  | (apply tk_orT; walk_at "et")
  | (apply tk_or; (walk_at "et"); (intro _; walk_at "et"))
  | (apply tk_notT; walk_at "et")
  | (apply tk_notF; walk_at "et")
  | (apply tk_not; walk_at "et")
  | (apply tk_v; walk_at "ev")
  | (apply tk_vB; walk_at "ev"))
local macro_rules | `(tactic| walk_at "if") => `(tactic| first
  | (apply pst_whenF; (walk_at "et"); (walk_at "bb"))
  | (apply pst_whenT; (walk_at "et"); (walk_at "bb")))
local macro_rules | `(tactic| walk_at "post") => `(tactic| first | assumption | exact ⟨_, _, rfl, rfl⟩ | exact ⟨_, _, _, _, rfl, by omega, by omega, rfl⟩ | exact ⟨_, _, _, 0, rfl, by omega, by omega, rfl⟩)
local macro_rules | `(tactic| walk_at "cc") => `(tactic| first | assumption | decide | omega | (refine ⟨?_, ?_⟩ <;> first | decide | omega) | (exact Or.inl (by constructor <;> omega)))

theorem kix_seq {X : Cx} (K : PySem.W.Frag) (h : X.K = K := by rfl) : IxR X (rIx K) := by subst h; exact ix_seq
mutual
/-- data as it stands now, lists and tuples -/
inductive Tl (K : PySem.W.Frag) (H : Hp) : V → PyData → Prop
  | non : Tl K H .non .none
  | bl (b : Bool) : Tl K H (.bl b) (.bool b)
  | int (i : Int) : Tl K H (.int i) (.int i)
  | str (x : Str) : Tl K H (.str x) (.str x)
  | lst {a : Addr} {xs : List V} {ds : List PyData} : H a = some (.lst xs) → TlAll K H xs ds → Tl K H (.ref a) (.list ds)
  | tup {a : Addr} {xs : List V} {ds : List PyData} : SqT K H a xs → TlAll K H xs ds → Tl K H (.ref a) (.tuple ds)
inductive TlAll (K : PySem.W.Frag) (H : Hp) : List V → List PyData → Prop
  | nil : TlAll K H [] []
  | cons {v : V} {vs : List V} {d : PyData} {ds : List PyData} : Tl K H v d → TlAll K H vs ds → TlAll K H (v :: vs) (d :: ds)
end
section
variable {K : PySem.W.Frag} {σ : L2.St} {H H' : Hp} {te ta tb : TE} {v : V} {d : PyData} {ds es : List PyData}
mutual
theorem Tl.ex (e : Ex H H') : ∀ (d : PyData) {v : V}, Tl K H v d → Tl K H' v d
  | .none, _, h => by cases h; exact .non
  | .bool _, _, h => by cases h; exact .bl _
  | .int _, _, h => by cases h; exact .int _
  | .str _, _, h => by cases h; exact .str _
  | .list ds, _, h => by
    cases h with
    | lst hs ha => exact .lst (e _ _ hs) (TlAll.ex e ds ha)
  | .tuple ds, _, h => by
    cases h with
    | tup hs ha => exact .tup (ex_t e hs) (TlAll.ex e ds ha)
  | .dict _, _, h => by cases h
theorem TlAll.ex (e : Ex H H') : ∀ (ds : List PyData) {vs : List V}, TlAll K H vs ds → TlAll K H' vs ds
  | [], _, h => by cases h; exact .nil
  | d :: ds, _, h => by
    cases h with
    | cons a b => exact .cons (Tl.ex e d a) (TlAll.ex e ds b)
end
mutual
theorem Tl.dp : ∀ (d : PyData) {v : V}, Tl K H v d → Dp K H v d
  | .none, _, h => by cases h; exact .non
  | .bool _, _, h => by cases h; exact .bl _
  | .int _, _, h => by cases h; exact .int _
  | .str _, _, h => by cases h; exact .str _
  | .list ds, _, h => by
    cases h with
    | lst hs ha => exact .lst (SqL.of hs) (TlAll.dp ds ha)
  | .tuple ds, _, h => by
    cases h with
    | tup hs ha => exact .tup hs (TlAll.dp ds ha)
  | .dict _, _, h => by cases h
theorem TlAll.dp : ∀ (ds : List PyData) {vs : List V}, TlAll K H vs ds → DpAll K H vs ds
  | [], _, h => by cases h; exact .nil
  | d :: ds, _, h => by
    cases h with
    | cons a b => exact .cons (Tl.dp d a) (TlAll.dp ds b)
end
mutual
theorem Td.tl : ∀ (d : PyData) {v : V}, Td K H v d → Tl K H v d
  | .none, _, h => by cases h; exact .non
  | .bool _, _, h => by cases h; exact .bl _
  | .int _, _, h => by cases h; exact .int _
  | .str _, _, h => by cases h; exact .str _
  | .list ds, _, h => by cases h
  | .tuple ds, _, h => by
    cases h with
    | tup hs ha => exact .tup hs (TdAll.tl ds ha)
  | .dict _, _, h => by cases h
theorem TdAll.tl : ∀ (ds : List PyData) {vs : List V}, TdAll K H vs ds → TlAll K H vs ds
  | [], _, h => by cases h; exact .nil
  | d :: ds, _, h => by
    cases h with
    | cons a b => exact .cons (Td.tl d a) (TdAll.tl ds b)
end
theorem TlAll.length : ∀ {ds : List PyData} {vs : List V}, TlAll K H vs ds → vs.length = ds.length
  | [], _, h => by cases h; rfl
  | d :: ds, _, h => by
    cases h with
    | cons a b => simp [TlAll.length b]
theorem TlAll.get : ∀ {ds : List PyData} {vs : List V} {i : Nat} {d : PyData}, TlAll K H vs ds → ds[i]? = some d → ∃ v, vs[i]? = some v ∧ Tl K H v d
  | [], _, _, _, _, e => by simp at e
  | d :: ds, _, i, d', h, e => by
    cases h with
    | cons a b =>
      cases i with
      | zero => simp at e; subst e; exact ⟨_, rfl, a⟩
      | succ i => simp at e; simpa using TlAll.get b e
theorem tyx_tl (h : Tl K H v d) : TyX K H v (.type (tyD d)) := by
  cases h with
  | non => exact .base .non
  | bl b => exact .base (.bl b)
  | int i => exact .base (.int i)
  | str x => exact .base (.str x)
  | lst hs _ => exact .base (.lst hs)
  | tup hs _ =>
    rcases hs with (hs | ⟨o, hs⟩) | ⟨o, its, n, hk, hc, _⟩
    · exact .base (.tup hs)
    · exact .fTuple hs
    · exact .kTuple hk hc
def EvX (K : PySem.W.Frag) (te : TE) (σ : L2.St) (H : Hp) (d : PyData) : Prop := ∀ H1, Ex H H1 → ∀ Q : VK, (∀ v H2, Ex H1 H2 → Tl K H2 v d → Q v H2) → te σ H1 Q
theorem xd_var {n : Nat} (h : σ[n]? = some (some v)) (td : Tl K H v d) : EvX K (tVar n) σ H d := fun H1 e1 _ q => ⟨v, h, q v H1 (Ex.refl _) (td.ex e1)⟩
def seqD : PyData → Option (List PyData)
  | .list ds => some ds
  | .tuple ds => some ds
  | _ => none
theorem xd_ix {i : Nat} {e : PyData} (ha : EvX K ta σ H d) (hs : seqD d = some ds) (hb : EvD K tb σ H (.int (i : Int))) (hd : ds[i]? = some e) : EvX K (tOp (rIx K) ta tb) σ H e := fun H1 a Q q =>
  ha H1 a _ fun v H2 e2 t2 => hb.iv H2 (a.trans e2) _ fun H3 e3 => by
    cases t2 with
    | lst hs2 hall =>
      cases hs
      obtain ⟨w, hw, tw⟩ := hall.get hd
      exact .inl ⟨_, _, (i : Int), w, rfl, rfl, SqL.of (e3 _ _ hs2), atI_nat hw, q w H3 (e2.trans e3) (tw.ex e3)⟩
    | tup hs2 hall =>
      cases hs
      obtain ⟨w, hw, tw⟩ := hall.get hd
      exact .inr (.inl ⟨_, _, (i : Int), w, rfl, rfl, ex_t e3 hs2, atI_nat hw, q w H3 (e2.trans e3) (tw.ex e3)⟩)
    | _ => cases hs
theorem xd_len (ha : EvX K ta σ H d) (hs : seqD d = some ds) : EvD K (tCB (rLenS K) (tCons ta tNil)) σ H (.int (ds.length : Int)) := fun H1 a Q q =>
  ha H1 a _ fun v H2 e2 t2 => by
    cases t2 with
    | lst hs2 hall =>
      cases hs
      rw [← hall.length] at q
      exact ⟨_, _, rfl, .inl (SqL.of hs2), q _ H2 e2 (.int _)⟩
    | tup hs2 hall =>
      cases hs
      rw [← hall.length] at q
      exact ⟨_, _, rfl, .inr hs2, q _ H2 e2 (.int _)⟩
    | _ => cases hs
theorem xd_isi {b : Bool} {n : String} (ha : EvX K ta σ H d) (hk : kitB (tyD d) n = some b) : EvD K (tCB (rIsi K) (tCons ta (tCons (tC (.ty n)) tNil))) σ H (.bool b) := fun H1 a Q q =>
  ha H1 a _ fun v H2 e2 t2 => ⟨v, .ty n, _, _, b, rfl, .ty n, tyx_tl t2, kit_ty hk, q _ H2 e2 (.bl _)⟩
theorem xd_isi2 {b1 b2 : Bool} {n1 n2 : String} (ha : EvX K ta σ H d) (hk : kitB (tyD d) n1 = some b1) (hk2 : kitB (tyD d) n2 = some b2) : EvD K (tCB (rIsiT K) (tCons ta (tCons (tTup (tCons (tC (.ty n1)) (tCons (tC (.ty n2)) tNil))) tNil))) σ H (.bool (b1 || b2)) := fun H1 a Q q =>
  ha H1 a _ fun v H2 e2 t2 => ⟨by show 2 ≤ sizeLine; decide, fun p hp => ⟨v, p, [.ty n1, .ty n2], _, [.type n1, .type n2], b1 || b2, rfl, upd_same, .cons (.ty n1) (.cons (.ty n2) .nil), tyx_tl (t2.ex (Ex.new hp)),
    kitAny_cons (kit_ty hk) (fun e => by rw [e]; exact kitAny_cons (kit_ty hk2) (fun e => by rw [e]; exact kitAny_nil) (fun e => by rw [e]; rfl)) (fun e => by rw [e]; rfl), q _ _ (e2.trans (Ex.new hp)) (.bl _)⟩⟩
theorem xd_isN (ha : EvX K ta σ H d) : EvD K (tIsN ta) σ H (.bool (noneD d)) := fun H1 a Q q => ha H1 a _ fun v H2 e2 t2 => by
  have e : decide (v = .non) = noneD d := by cases t2 <;> simp [noneD]
  rw [e]
  exact q _ H2 e2 (.bl _)
theorem xd_eq {e : PyData} (ha : EvX K ta σ H d) (hb : EvX K tb σ H e) (sd : d.canLay0 = true) (se : e.canLay0 = true) (hm : min d.depth e.depth ≤ 64) : EvD K (tOp (rEqM K) ta tb) σ H (.bool (PyData.eqv d e)) := fun H1 a Q q =>
  ha H1 a _ fun v H2 e2 t2 => hb H2 (a.trans e2) _ fun w H3 e3 t3 => ⟨d, e, (t2.ex e3).dp, t3.dp, sd, se, hm, q _ H3 (e2.trans e3) (.bl _)⟩
end
/-- as the law's alike tells it -/
def alikeN : Nat → PyData → PyData → Bool
  | n + 1, .tuple fs, .tuple ds => decide (fs.length = ds.length) && (List.range ds.length).all fun i => alikeN n (fs.getD i .none) (ds.getD i .none)
  | n + 1, .list fs, .list ds => decide (fs.length = ds.length) && (List.range ds.length).all fun i => alikeN n (fs.getD i .none) (ds.getD i .none)
  | _, .none, .none => true
  | _, .bool a, .bool b => a == b
  | _, .str a, .str b => PyData.eqv (.str a) (.str b)
  | _, .int a, .int b => decide (a = b)
  | _, _, _ => false
def isTup : PyData → Bool
  | .tuple _ => true
  | _ => false
def isLst : PyData → Bool
  | .list _ => true
  | _ => false
def isBl : PyData → Bool
  | .bool _ => true
  | _ => false
def isSt : PyData → Bool
  | .str _ => true
  | _ => false
def isIn : PyData → Bool
  | .int _ => true
  | .bool _ => true
  | _ => false
theorem kit_tup (d : PyData) : kitB (tyD d) "tuple" = some (isTup d) := by
  cases d with
  | none => exact (by decide +kernel : kitB "NoneType" "tuple" = some false)
  | bool _ => exact (by decide +kernel : kitB "bool" "tuple" = some false)
  | int _ => exact (by decide +kernel : kitB "int" "tuple" = some false)
  | str _ => exact (by decide +kernel : kitB "str" "tuple" = some false)
  | list _ => exact (by decide +kernel : kitB "list" "tuple" = some false)
  | tuple _ => exact (by decide +kernel : kitB "tuple" "tuple" = some true)
  | dict _ => exact (by decide +kernel : kitB "dict" "tuple" = some false)
theorem kit_lst (d : PyData) : kitB (tyD d) "list" = some (isLst d) := by
  cases d with
  | none => exact (by decide +kernel : kitB "NoneType" "list" = some false)
  | bool _ => exact (by decide +kernel : kitB "bool" "list" = some false)
  | int _ => exact (by decide +kernel : kitB "int" "list" = some false)
  | str _ => exact (by decide +kernel : kitB "str" "list" = some false)
  | list _ => exact (by decide +kernel : kitB "list" "list" = some true)
  | tuple _ => exact (by decide +kernel : kitB "tuple" "list" = some false)
  | dict _ => exact (by decide +kernel : kitB "dict" "list" = some false)
theorem kit_bl (d : PyData) : kitB (tyD d) "bool" = some (isBl d) := by
  cases d with
  | none => exact (by decide +kernel : kitB "NoneType" "bool" = some false)
  | bool _ => exact (by decide +kernel : kitB "bool" "bool" = some true)
  | int _ => exact (by decide +kernel : kitB "int" "bool" = some false)
  | str _ => exact (by decide +kernel : kitB "str" "bool" = some false)
  | list _ => exact (by decide +kernel : kitB "list" "bool" = some false)
  | tuple _ => exact (by decide +kernel : kitB "tuple" "bool" = some false)
  | dict _ => exact (by decide +kernel : kitB "dict" "bool" = some false)
theorem kit_st (d : PyData) : kitB (tyD d) "str" = some (isSt d) := by
  cases d with
  | none => exact (by decide +kernel : kitB "NoneType" "str" = some false)
  | bool _ => exact (by decide +kernel : kitB "bool" "str" = some false)
  | int _ => exact (by decide +kernel : kitB "int" "str" = some false)
  | str _ => exact (by decide +kernel : kitB "str" "str" = some true)
  | list _ => exact (by decide +kernel : kitB "list" "str" = some false)
  | tuple _ => exact (by decide +kernel : kitB "tuple" "str" = some false)
  | dict _ => exact (by decide +kernel : kitB "dict" "str" = some false)
theorem kit_in (d : PyData) : kitB (tyD d) "int" = some (isIn d) := by
  cases d with
  | none => exact (by decide +kernel : kitB "NoneType" "int" = some false)
  | bool _ => exact (by decide +kernel : kitB "bool" "int" = some true)
  | int _ => exact (by decide +kernel : kitB "int" "int" = some true)
  | str _ => exact (by decide +kernel : kitB "str" "int" = some false)
  | list _ => exact (by decide +kernel : kitB "list" "int" = some false)
  | tuple _ => exact (by decide +kernel : kitB "tuple" "int" = some false)
  | dict _ => exact (by decide +kernel : kitB "dict" "int" = some false)
/-- no deeper than n, no longer than that -/
def okD : Nat → PyData → Bool
  | n + 1, .tuple ds => decide (ds.length ≤ 30000) && ds.all (okD n)
  | n + 1, .list ds => decide (ds.length ≤ 30000) && ds.all (okD n)
  | 0, .tuple _ => false
  | 0, .list _ => false
  | _, .dict _ => false
  | _, _ => true
def spAl (K : PySem.W.Frag) (n : Nat) : Sp := fun vs H Q _ => ∃ x y f d, vs = [x, y] ∧ Tl K H x f ∧ Tl K H y d ∧ f.canLay0 = true ∧ d.canLay0 = true ∧ okD n d = true ∧ ∀ H', Ex H H' → Q (.bl (alikeN (n + 1) f d)) H'
theorem lay_get {ds : List PyData} {i : Nat} {d : PyData} (h : PyData.canLayAll0 ds = true) (e : ds[i]? = some d) : d.canLay0 = true := by
  induction ds generalizing i with
  | nil => simp at e
  | cons x r ih =>
    simp only [PyData.canLayAll0, Bool.and_eq_true] at h
    cases i with
    | zero => simp at e; rw [← e]; exact h.1
    | succ i => simp at e; exact ih h.2 e
theorem lay_seq {d : PyData} {ds : List PyData} (h : d.canLay0 = true) (hs : seqD d = some ds) : PyData.canLayAll0 ds = true := by
  cases d <;> cases hs <;> simpa [PyData.canLay0] using h
theorem ed_eqB {K : PySem.W.Frag} {σ : L2.St} {H : Hp} {ta tb : TE} {a b : Bool} (ha : EvD K ta σ H (.bool a)) (hb : EvD K tb σ H (.bool b)) : EvD K (tOp (rEqM K) ta tb) σ H (.bool (a == b)) :=
  ed_is (ed_eqM ha hb rfl rfl (by simp [PyData.depth])) (by simp [PyData.eqv])
theorem ed_neB {K : PySem.W.Frag} {σ : L2.St} {H : Hp} {ta tb : TE} {a b : Bool} (ha : EvD K ta σ H (.bool a)) (hb : EvD K tb σ H (.bool b)) : EvD K (tOp (rNeM K) ta tb) σ H (.bool (a != b)) :=
  ed_is (ed_neM ha hb rfl rfl (by simp [PyData.depth])) (by simp [PyData.eqv, bne])
section
variable {P : Program} {w : World} {K : PySem.W.Frag} {mg : Str → Option Value} {base : Heap} (T : Tx K mg)
include T
theorem al_step {n : Nat} (spI : Sp) (hspI : 0 < n → spI = spAl K (n - 1)) (G_I : Fn__law_alike T P w base CX0 n spI) : Fn__law_alike T P w base CX0 (n + 1) (spAl K n) := by
  have G__law_alike := G_I
  refine T.F__law_alike.ok sc__law_alike (fun vs H Q E h => by obtain ⟨x, y, f, d, rfl, _⟩ := h; rfl) fun cdv A outer s0 H vs Q E hr h => ?_
  obtain ⟨x, y, f, d, rfl, tx, ty, lf, ld, hok, k⟩ := h
  refine ⟨_, (pss_cons (ps_if (PW.pt (pw_or (pt_val (pe_callB (kc_isi K) rfl T.b_isinstance (by decide +kernel) (pa_cons (pv 1) (pa_cons (pe_bltn (v := .ty "tuple") rfl T.b_tuple (by decide +kernel) rfl) pa_nil)))) (pw_or1 (pt_val (pe_callB (kc_isi K) rfl T.b_isinstance (by decide +kernel) (pa_cons (pv 1) (pa_cons (pe_bltn (v := .ty "list") rfl T.b_list (by decide +kernel) rfl) pa_nil)))))))
    (pss_cons (ps_if (PW.pt (pw_or (pt_cmpR (kop_ne K hr.units) (pe_callB (kc_isi K) rfl T.b_isinstance (by decide +kernel) (pa_cons (pv 0) (pa_cons (pe_bltn (v := .ty "tuple") rfl T.b_tuple (by decide +kernel) rfl) pa_nil))) (pe_callB (kc_isi K) rfl T.b_isinstance (by decide +kernel) (pa_cons (pv 1) (pa_cons (pe_bltn (v := .ty "tuple") rfl T.b_tuple (by decide +kernel) rfl) pa_nil))) (nomark _)) (pw_or1 (pt_not (pt_val (pe_callB (kc_isiT K) rfl T.b_isinstance (by decide +kernel) (pa_cons (pv 0) (pa_cons (pe_tup (pa_cons (pe_bltn (v := .ty "tuple") rfl T.b_tuple (by decide +kernel) rfl) (pa_cons (pe_bltn (v := .ty "list") rfl T.b_list (by decide +kernel) rfl) pa_nil))) pa_nil))))))))
      (pss_one (ps_ret pe_bl))
      pss_nil)
    (pss_cons (ps_if (pt_cmpR op_ne (pe_callB (kc_len K) rfl T.b_len PySem.boot_len (pa_cons (pv 0) pa_nil)) (pe_callB (kc_len K) rfl T.b_len PySem.boot_len (pa_cons (pv 1) pa_nil)) (nomark _))
      (pss_one (ps_ret pe_bl))
      pss_nil)
    (pss_one (ps_ret (pe_cmpR (kop_eq K hr.units) (pe_lc (own := [("_law_k", 2)]) (g := gName 2) (tt := _) rfl sc__law_alike.nd (pi_range1 rfl T.b_range (pa_cons (pe_callB (kc_len K) rfl T.b_len PySem.boot_len (pa_cons (pv 1) pa_nil)) pa_nil)) (blkOk_by (N := ["_law_found", "_law_due", "_law_k"]) (sc := defScope s__law_alike) (by decide +kernel)) (fun _ _ _ _ _ => (pg_name (i := 2) sc__law_alike.nd rfl (Or.inl rfl))) (fun _ _ _ _ _ => (pts_one (pt_not (pt_val (pe_call G__law_alike (hr.mono (by omega)) (by rfl) T.g__law_alike T.k__law_alike T.bd__law_alike .nil pass0 (pa_cons (pe_ix (kix_seq K) (pv 0) (pv 2) (fun _ _ => rfl)) (pa_cons (pe_ix (kix_seq K) (pv 1) (pv 2) (fun _ _ => rfl)) pa_nil))))))) (fun _ _ _ _ _ => (pv 2))) (pe_lst pa_nil) (nomark _))))))
    pss_nil)
  (pss_cons (ps_if (PW.pt (pw_or (pt_cmp (pc_isN (pv 1)) rfl) (pw_or1 (pt_cmp (pc_isN (pv 0)) rfl))))
    (pss_one (ps_ret (pe_and (pe_cmp (pc_isN (pv 1)) rfl) (pe_one (pe_cmp (pc_isN (pv 0)) rfl)))))
    pss_nil)
  (pss_cons (ps_if (PW.pt (pw_or (pt_val (pe_callB (kc_isi K) rfl T.b_isinstance (by decide +kernel) (pa_cons (pv 1) (pa_cons (pe_bltn (v := .ty "bool") rfl T.b_bool (by decide +kernel) rfl) pa_nil)))) (pw_or1 (pt_val (pe_callB (kc_isi K) rfl T.b_isinstance (by decide +kernel) (pa_cons (pv 0) (pa_cons (pe_bltn (v := .ty "bool") rfl T.b_bool (by decide +kernel) rfl) pa_nil)))))))
    (pss_one (ps_ret (pe_and (pe_callB (kc_isi K) rfl T.b_isinstance (by decide +kernel) (pa_cons (pv 1) (pa_cons (pe_bltn (v := .ty "bool") rfl T.b_bool (by decide +kernel) rfl) pa_nil))) (pe_and (pe_callB (kc_isi K) rfl T.b_isinstance (by decide +kernel) (pa_cons (pv 0) (pa_cons (pe_bltn (v := .ty "bool") rfl T.b_bool (by decide +kernel) rfl) pa_nil))) (pe_one (pe_cmpR (kop_eq K hr.units) (pv 0) (pv 1) (nomark _)))))))
    pss_nil)
  (pss_cons (ps_if (pt_val (pe_callB (kc_isi K) rfl T.b_isinstance (by decide +kernel) (pa_cons (pv 1) (pa_cons (pe_bltn (v := .ty "str") rfl T.b_str (by decide +kernel) rfl) pa_nil))))
    (pss_one (ps_ret (pe_and (pe_callB (kc_isi K) rfl T.b_isinstance (by decide +kernel) (pa_cons (pv 0) (pa_cons (pe_bltn (v := .ty "str") rfl T.b_str (by decide +kernel) rfl) pa_nil))) (pe_one (pe_cmpR (kop_eq K hr.units) (pv 0) (pv 1) (nomark _))))))
    pss_nil)
  (pss_one (ps_ret (pe_and (pe_callB (kc_isi K) rfl T.b_isinstance (by decide +kernel) (pa_cons (pv 0) (pa_cons (pe_bltn (v := .ty "int") rfl T.b_int (by decide +kernel) rfl) pa_nil))) (pe_one (pe_cmpR (kop_eq K hr.units) (pv 0) (pv 1) (nomark _)))))))))), ?_⟩
  have X0 : EvX K (tVar 0) (L2.start ["_law_found", "_law_due", "_law_k"] [x, y]) H f := xd_var rfl tx
  have X1 : EvX K (tVar 1) (L2.start ["_law_found", "_law_due", "_law_k"] [x, y]) H d := xd_var rfl ty
  refine Pst.go (K := K) ?_
  refine pst_when (b := isTup d || isLst d) ?_ (fun hb => ?_) fun hb => ?_
  · exact tk_or (tk_vB (xd_isi X1 (kit_tup d))) fun _ => tk_vB (xd_isi X1 (kit_lst d))
  · refine pst_when (b := (isTup f != isTup d) || !(isTup f || isLst f)) ?_ (fun h1 => ?_) fun h1 => ?_
    · refine tk_or (tk_v (ed_neB (xd_isi X0 (kit_tup f)) (xd_isi X1 (kit_tup d)))) fun _ => tk_not (tk_vB (xd_isi2 X0 (kit_tup f) (kit_lst f)))
    · refine pst_ret (d := .bool false) ed_cb fun v H1 e1 t1 => ?_
      cases t1
      have e : alikeN (n + 1) f d = false := by cases f <;> cases d <;> simp_all [alikeN, isTup, isLst]
      rw [← e]
      exact k H1 e1
    obtain ⟨fs, hfs⟩ : ∃ fs, seqD f = some fs := by cases f <;> simp_all [seqD, isTup, isLst]
    obtain ⟨ds, hds⟩ : ∃ ds, seqD d = some ds := by cases d <;> simp_all [seqD, isTup, isLst]
    refine pst_when (b := !decide ((fs.length : Int) = (ds.length : Int))) ?_ (fun h2 => ?_) fun h2 => ?_
    · exact tk_v (ed_nei (xd_len X0 hfs) (xd_len X1 hds))
    · refine pst_ret (d := .bool false) ed_cb fun v H1 e1 t1 => ?_
      cases t1
      have e : alikeN (n + 1) f d = false := by
        simp at h2
        cases f <;> cases d <;> simp_all [alikeN, isTup, isLst, seqD] <;> omega
      rw [← e]
      exact k H1 e1
    have hlen : fs.length = ds.length := by
      simp at h2
      omega
    obtain ⟨m, rfl⟩ : ∃ m, n = m + 1 := ⟨n - 1, by cases n <;> cases d <;> simp_all [okD, isTup, isLst]⟩
    rw [hspI (by omega)]
    have em : m + 1 - 1 = m := by omega
    rw [em]
    have hds2 : ds.length ≤ 30000 ∧ ds.all (okD m) = true := by cases d <;> simp_all [okD, seqD]
    have hall : alikeN (m + 2) f d = (List.range ds.length).all fun i => alikeN (m + 1) (fs.getD i .none) (ds.getD i .none) := by
      cases f <;> cases d <;> simp_all [alikeN, seqD, isTup, isLst]
    refine pst_ret (d := .bool ((((List.range ds.length).filter fun i => !alikeN (m + 1) (fs.getD i .none) (ds.getD i .none)).map fun i => PyData.int ((i : Nat) : Int)).isEmpty)) ?_ fun v H1 e1 t1 => ?_
    · refine ed_eqN (EvDL.rd (edl_lcR (n := ds.length) (fun i => !alikeN (m + 1) (fs.getD i .none) (ds.getD i .none)) (fun i => PyData.int ((i : Nat) : Int)) ?_ (by omega) (fun _ => rfl) (fun i H1 e1 hi => ?_) fun i H1 e1 hi _ => ?_)) (edl_lst eda_nil (by simp)) ?_
      · exact eda_cons (xd_len X1 hds) eda_nil
      · have hfi : fs[i]? = some (fs.getD i .none) := by rw [List.getD, List.getElem?_eq_getElem (by omega : i < fs.length)] <;> rfl
        have hdi : ds[i]? = some (ds.getD i .none) := by rw [List.getD, List.getElem?_eq_getElem hi] <;> rfl
        refine tk_not (tk_vB fun H2 e2 Q q => ?_)
        refine w_call (w_cons ?_)
        refine xd_ix (xd_var rfl (Tl.ex e1 _ tx)) hfs (ed_var rfl (.int (i : Int))) hfi H2 e2 _ fun v H3 e3 t3 => ?_
        refine w_cons ?_
        refine xd_ix (xd_var rfl (Tl.ex e1 _ ty)) hds (ed_var rfl (.int (i : Int))) hdi H3 (e2.trans e3) _ fun v2 H4 e4 t4 => ?_
        refine w_nil ⟨v, v2, _, _, rfl, Tl.ex e4 _ t3, t4, lay_get (lay_seq lf hfs) hfi, lay_get (lay_seq ld hds) hdi, List.all_eq_true.mp hds2.2 _ (List.mem_of_getElem? hdi), fun H5 e5 => q _ _ ((e3.trans e4).trans e5) (.bl _)⟩
      · exact ed_var rfl (.int (i : Int))
      · have : ∀ l : List Nat, PyData.canLayAll0 (l.map fun i => PyData.int ((i : Nat) : Int)) = true := by
          intro l
          induction l with
          | nil => rfl
          | cons a r ih => simp only [List.map_cons, PyData.canLayAll0, ih, Bool.and_true]; rfl
        exact this _
    · cases t1
      have e : (((List.range ds.length).filter fun i => !alikeN (m + 1) (fs.getD i .none) (ds.getD i .none)).map fun i => PyData.int ((i : Nat) : Int)).isEmpty = alikeN (m + 2) f d := by
        rw [hall, ← filter_not_isEmpty]
        cases (List.filter (fun i => !alikeN (m + 1) (fs.getD i .none) (ds.getD i .none)) (List.range ds.length)) <;> rfl
      rw [e]
      exact k H1 e1
  refine pst_when (b := noneD d || noneD f) ?_ (fun h1 => ?_) fun h1 => ?_
  · exact tk_or (tk_vB (xd_isN X1)) fun _ => tk_vB (xd_isN X0)
  · refine pst_ret (d := .bool (noneD d && noneD f)) (ed_andV (xd_isN X1) fun _ => xd_isN X0) fun v H1 e1 t1 => ?_
    cases t1
    have e : alikeN (n + 1) f d = (noneD d && noneD f) := by cases f <;> cases d <;> simp_all [alikeN, noneD, isTup, isLst]
    rw [← e]
    exact k H1 e1
  refine pst_when (b := isBl d || isBl f) ?_ (fun h2 => ?_) fun h2 => ?_
  · exact tk_or (tk_vB (xd_isi X1 (kit_bl d))) fun _ => tk_vB (xd_isi X0 (kit_bl f))
  · refine pst_ret (d := .bool (isBl d && (isBl f && PyData.eqv f d))) (ed_andV (xd_isi X1 (kit_bl d)) fun _ => ed_andV (xd_isi X0 (kit_bl f)) fun hf => xd_eq X0 X1 lf ld ?_) fun v H1 e1 t1 => ?_
    · cases f <;> simp_all [isBl, PyData.depth]
    cases t1
    have e : alikeN (n + 1) f d = (isBl d && (isBl f && PyData.eqv f d)) := by cases f <;> cases d <;> simp_all [alikeN, noneD, isTup, isLst, isBl, PyData.eqv]
    rw [← e]
    exact k H1 e1
  refine pst_when (b := isSt d) ?_ (fun h3 => ?_) fun h3 => ?_
  · exact tk_vB (xd_isi X1 (kit_st d))
  · refine pst_ret (d := .bool (isSt f && PyData.eqv f d)) (ed_andV (xd_isi X0 (kit_st f)) fun hf => xd_eq X0 X1 lf ld ?_) fun v H1 e1 t1 => ?_
    · cases f <;> simp_all [isSt, PyData.depth]
    cases t1
    have e : alikeN (n + 1) f d = (isSt f && PyData.eqv f d) := by cases f <;> cases d <;> simp_all [alikeN, noneD, isTup, isLst, isBl, isSt]
    rw [← e]
    exact k H1 e1
  · refine pst_ret (d := .bool (isIn f && PyData.eqv f d)) (ed_andV (xd_isi X0 (kit_in f)) fun hf => xd_eq X0 X1 lf ld ?_) fun v H1 e1 t1 => ?_
    · cases f <;> simp_all [isIn, PyData.depth]
    cases t1
    have e : alikeN (n + 1) f d = (isIn f && PyData.eqv f d) := by cases f <;> cases d <;> simp_all [alikeN, noneD, isTup, isLst, isBl, isSt, isIn, PyData.eqv, okD] <;> (first | rfl | exact (beq_eq_decide _ _).symm)
    rw [← e]
    exact k H1 e1
theorem ok_alike : ∀ n : Nat, Fn__law_alike T P w base CX0 (n + 1) (spAl K n)
  | 0 => al_step T (fun _ _ _ _ => False) (fun h => absurd h (Nat.lt_irrefl _)) (fn_vac fun _ _ _ _ h => h)
  | n + 1 => al_step T (spAl K n) (fun _ => rfl) (ok_alike n)
end
theorem alike_self : ∀ (n : Nat) (d : PyData), okD n d = true → alikeN (n + 1) d d = true
  | n, .none, _ => by simp [alikeN]
  | n, .bool b, _ => by simp [alikeN]
  | n, .int i, _ => by simp [alikeN]
  | n, .str x, _ => by simp [alikeN]
  | 0, .list ds, h => by simp [okD] at h
  | 0, .tuple ds, h => by simp [okD] at h
  | n, .dict _, h => by cases n <;> simp [okD] at h
  | n + 1, .list ds, h => by
    simp only [okD, Bool.and_eq_true, decide_eq_true_eq, List.all_eq_true] at h
    simp only [alikeN, decide_true, Bool.true_and, List.all_eq_true, List.mem_range]
    intro i hi
    have e : ds.getD i .none = ds[i] := by simp [List.getD, hi]
    rw [e]
    exact alike_self n _ (h.2 _ (List.getElem_mem hi))
  | n + 1, .tuple ds, h => by
    simp only [okD, Bool.and_eq_true, decide_eq_true_eq, List.all_eq_true] at h
    simp only [alikeN, decide_true, Bool.true_and, List.all_eq_true, List.mem_range]
    intro i hi
    have e : ds.getD i .none = ds[i] := by simp [List.getD, hi]
    rw [e]
    exact alike_self n _ (h.2 _ (List.getElem_mem hi))
end Hw

set_option maxRecDepth 100000
set_option maxHeartbeats 4000000
/-! PG6: drawn ways -/
namespace Hw
open PySem PySem.Spec PyProof.Rows L2 Evl
local macro_rules | `(tactic| walk_at "dd") => `(tactic| first | rfl | decide | (simp; done) | omega)
local macro_rules | `(tactic| walk_at "td") => `(tactic| first | assumption | exact Td.int _ | exact Td.bl _ | exact Td.str _ | exact Td.non | exact Td.tup (by assumption) (by assumption))
local macro_rules | `(tactic| walk_at "ev") => `(tactic| first
  | exact ed_ci | exact ed_cs | exact ed_cb | exact ed_cn
  | (apply ed_cg; assumption)
  | (apply ed_var; (rfl); (walk_at "td"))
  | (apply ed_ixT; (walk_at "ev"); (walk_at "ev"); (first | rfl | assumption))
  | (apply ed_rowI; (rfl); (assumption); (walk_at "ev"); (rfl))
  | (apply ed_ixL; (apply EvDL.rd; walk_at "edl"); (walk_at "ev"); (rfl))
  | (apply ed_intb; (walk_at "ev"))
  | (apply ed_len; walk_at "ev")
  | (apply ed_lenV; (apply ev_rowR; (rfl); (assumption); (walk_at "ev"); (rfl)); (assumption))
  | (apply ed_Ii; (walk_at "ev"); (walk_at "ev"); (walk_at "cc"))
  | (apply ed_isi; (walk_at "ev"); (rfl))
  | (apply ed_I0i; (walk_at "ev"); (walk_at "ev"))
  | (apply ed_I0b; (walk_at "ev"); (walk_at "ev"))
  | (apply ed_eqi; (walk_at "ev"); (walk_at "ev"))
  | (apply ed_nei; (walk_at "ev"); (walk_at "ev"))
  | (apply ed_andF; walk_at "ev")
  | (apply ed_andV; (walk_at "ev"); (intro _; walk_at "ev"))
  | (apply ed_orT; walk_at "ev")
  | (apply ed_orV; (walk_at "ev"); (intro _; walk_at "ev"))
  | (apply ed_notT; walk_at "ev")
  | (apply ed_notF; walk_at "ev")
  | (apply ed_notV; walk_at "ev")
  | (apply ed_chain; (walk_at "ev"); (walk_at "ev"); (intro _; walk_at "ev"))
  | (apply ed_eqS; (walk_at "ev"); (walk_at "ev"); (walk_at "bb"); (walk_at "bb"))
  | (apply ed_neS; (walk_at "ev"); (walk_at "ev"); (walk_at "bb"); (walk_at "bb"))
  | (apply ed_inT; (walk_at "ev"); (walk_at "ev"); (rfl); (rfl))
  | (apply ed_niT; (walk_at "ev"); (walk_at "ev"); (rfl); (rfl))
  | (apply ed_tup; (walk_at "eva"); (walk_at "bb"))
  | (apply ed_sl; (walk_at "ev"); (walk_at "evo"); (walk_at "evo"))
  | (apply ed_eqN; (apply EvDL.rd; walk_at "edl"); (walk_at "edl"); (walk_at "bb"))
  | (apply ed_neN; (apply EvDL.rd; walk_at "edl"); (walk_at "edl"); (walk_at "bb"))
  | (apply ed_ixL; (apply edr_var; (rfl); (assumption); (assumption)); (walk_at "ev"); (first | rfl | assumption))
  | (apply ed_lenL; (apply edr_var; (rfl); (assumption); (assumption)))
  | (apply ed_call; (walk_at "eva"); (walk_at "post")))
local macro_rules | `(tactic| walk_at "edl") => `(tactic| first
  | assumption
  | (apply edl_lst; (walk_at "eva"); (walk_at "bb")))
local macro_rules | `(tactic| walk_at "eva") => `(tactic| first
  | exact eda_nil
  | (apply eda_cons; (walk_at "ev"); (walk_at "eva")))
local macro_rules | `(tactic| walk_at "evo") => `(tactic| first
  | exact eok_none
  | (apply eok_some; walk_at "ev"))
local macro_rules | `(tactic| walk_at "bb") => `(tactic| first | rfl | assumption | (simp; done) | (simp; omega) | decide +kernel)
local macro_rules | `(tactic| walk_at "et") => `(tactic| first
  | exact tk_yes
  | (apply tk_andF; walk_at "et")
  | (apply tk_and; (walk_at "et"); (intro _; walk_at "et"))
  | (apply tk_orT; walk_at "et")
  | (apply tk_or; (walk_at "et"); (intro _; walk_at "et"))
  | (apply tk_notT; walk_at "et")
  | (apply tk_notF; walk_at "et")
  | (apply tk_not; walk_at "et")
  | (apply tk_v; walk_at "ev")
  | (apply tk_vB; walk_at "ev"))
local macro_rules | `(tactic| walk_at "if") => `(tactic| first
  | (apply pst_whenF; (walk_at "et"); (walk_at "bb"))
  | (apply pst_whenT; (walk_at "et"); (walk_at "bb")))
local macro_rules | `(tactic| walk_at "post") => `(tactic| first | assumption | exact ⟨_, _, rfl, rfl⟩ | exact ⟨_, _, _, _, rfl, by omega, by omega, rfl⟩ | exact ⟨_, _, _, 0, rfl, by omega, by omega, rfl⟩)
local macro_rules | `(tactic| walk_at "cc") => `(tactic| first | assumption | decide | omega | (refine ⟨?_, ?_⟩ <;> first | decide | omega) | (exact Or.inl (by constructor <;> omega)))

section
variable {K : PySem.W.Frag} {σ : L2.St} {H H' : Hp} {D : Ends} {tu tz : TS} {ta : TA} {te tl : TE} {Q : VK} {r s p : Addr} {ns : List Int}
/-- for a, b, c in a tuple of threes -/
theorem w_forT3 {α : Type} {n j l m : Nat} {v : V} (xs : List α) (f1 f2 f3 : α → PyData) (hv : σ[n]? = some (some v)) (h : Td K H v (.tuple (xs.map fun x => .tuple [f1 x, f2 x, f3 x]))) (Pv : Nat → L2.St → Hp → Prop) (h0 : Pv 0 σ H) (hk : ∀ i σ' H', Pv i σ' H' → Keep K H H')
    (hs : ∀ i x v1 v2 v3 σ' H', xs[i]? = some x → Td K H' v1 (f1 x) → Td K H' v2 (f2 x) → Td K H' v3 (f3 x) → Pv i σ' H' → tu { D with nx := Pv (i + 1), ct := Pv (i + 1), bk := D.nx } (((σ'.set j (some v1)).set l (some v2)).set m (some v3)) H')
    (hd : ∀ σ' H', Pv xs.length σ' H' → D.nx σ' H') : tFor (iTup K (tVar n)) (gTup K 3 (gCons (gName j) (gCons (gName l) (gCons (gName m) gNil)))) tu D σ H := by
  refine ⟨v, hv, ?_⟩
  obtain ⟨a, ys, rfl, hx, hall⟩ := h.tup_inv
  have hlen := hall.length
  rw [List.length_map] at hlen
  refine ⟨a, rfl, ⟨ys, hx⟩, for_tup Pv h0 (fun i σ' H' _ p => hk i σ' H' p a ys hx) (fun i x σ' H' hi p => ?_) (fun σ' H' p => hd σ' H' (by rw [← hlen]; exact p))⟩
  obtain ⟨d, hdd, td⟩ := hall.getV hi
  rw [List.getElem?_map] at hdd
  obtain ⟨z, hz, rfl⟩ := Option.map_eq_some_iff.mp hdd
  obtain ⟨q, zs, rfl, hq, hqa⟩ := (td.kp (hk i σ' H' p)).tup_inv
  obtain _ | ⟨u1, _ | ⟨u2, _ | ⟨u3, _ | _⟩⟩⟩ := hqa
  exact ⟨q, _, rfl, hq, rfl, _, _, rfl, _, _, rfl, _, _, rfl, rfl, hs i z _ _ _ σ' H' hz u1 u2 u3 p⟩
end
/-- the list of words stands at so -/
def WdsAt (K : PySem.W.Frag) (so : Addr) (some_ : List Str) (H : Hp) : Prop := H so = some (.lst (some_.map V.str))
def goY (p : List Wk) (some_ : List Str) (ys : List (List Str)) : Prop := ys.length = p.length ∧ ∀ i y, ys[i]? = some y → y.length = shP (shapes p) i ∧ ∀ z ∈ y, z ∈ some_
def spWays (K : PySem.W.Frag) : Sp := fun vs H Q _ => ∃ (r s so : Addr) (ns : List Int) (v : V) (p : List Wk) (sm : List Str), vs = [.ref r, v, .ref so] ∧ RowAt K s ns H r ∧ ns.length ≤ 63 ∧ Td K H v (encP p) ∧ WdsAt K so sm H ∧ so ≠ r ∧ 0 < sm.length ∧ sm.length ≤ 1000 ∧ p.length ≤ 1000 ∧ (∀ w ∈ p, w.params ≤ 1000) ∧
  ∀ ys x H', goY p sm ys → Fr [r] H H' → RowAt K s ns H' r → Td K H' x (encY ys) → Q x H'
section
variable {P : Program} {w : World} {K : PySem.W.Frag} {mg : Str → Option Value} {base : Heap} (T : Tx K mg)
include T
theorem ok_ways (GT : Fn__law_taken T P w base CX0 1 (spTaken K)) : Fn__law_ways T P w base CX0 2 (spWays K) := by
  have G__law_taken := GT
  refine T.F__law_ways.ok sc__law_ways (fun vs H Q E h => by obtain ⟨r, s, so, ns, v, p, sm, rfl, _⟩ := h; rfl) fun cdv A outer s0 H vs Q E hr h => ?_
  obtain ⟨r, s, so, ns, v, p, sm, rfl, hR, hn, tp, hso, hne, hs0, hs1, hpl, hpp, k⟩ := h
  refine ⟨_, (pss_cons (ps_set (i := 3) sc__law_ways.nd rfl (Or.inl rfl) (pe_lst pa_nil))
  (pss_cons (ps_for (passes_of rfl) rfl (kpi_tup K (pv 1)) (kpg_tup K rfl (pgs_cons (pg_name (i := 4) sc__law_ways.nd rfl (Or.inl rfl)) (pgs_cons (pg_name (i := 5) sc__law_ways.nd rfl (Or.inl rfl)) (pgs_cons (pg_name (i := 6) sc__law_ways.nd rfl (Or.inl rfl)) pgs_nil))))
    (pss_one (ps_expr (pe_bm PySem.F.plainAttrs_list PySem.F.slot_list_append PySem.F.type_list_append mt_append (pv 3) (pa_cons (pe_callTy (kc_tuple K) rfl T.b_tuple (by decide +kernel) (pa_cons (pe_lc (own := [("_law_k", 7)]) (g := gName 7) (tt := tYes) rfl sc__law_ways.nd (pi_range1 rfl T.b_range (pa_cons (pv 4) pa_nil)) (blkOk_by (N := ["_law_row", "_law_program_here", "_law_some", "_law_found", "_law_params", "_law_owns", "_law_body_here", "_law_k"]) (sc := defScope s__law_ways) (by decide +kernel)) (fun _ _ _ _ _ => (pg_name (i := 7) sc__law_ways.nd rfl (Or.inl rfl))) (fun _ _ _ _ _ => pts_nil) (fun _ _ _ _ _ => (pe_ix (kix_list K) (pv 2) (pe_call G__law_taken (hr.mono (by omega)) (by rfl) T.g__law_taken T.k__law_taken T.bd__law_taken .nil pass0 (pa_cons (pv 0) (pa_cons (pe_callB (kc_len K) rfl T.b_len PySem.boot_len (pa_cons (pv 2) pa_nil)) pa_nil))) (fun _ _ => rfl)))) pa_nil)) pa_nil)))))
  (pss_one (ps_ret (pe_callTy (kc_tuple K) rfl T.b_tuple (by decide +kernel) (pa_cons (pv 3) pa_nil)))))), ?_⟩
  refine Pst.go (K := K) ?_
  refine pst_asgL (edl_lst eda_nil (by simp)) fun fl xs0 H1 hfl e1 hx1 ht1 => ?_
  cases ht1
  have offf := hR.off hfl
  have hsf : so ≠ fl := by
    intro e
    rw [WdsAt, e, hfl] at hso
    cases hso
  refine pst_of fun H2 e2 => ?_
  have tp2 := tp.ex (e1.trans e2)
  refine w_seq (w_forT3 (K := K) p (fun w => .int (w.params : Int)) (fun w => .int (w.owns : Int)) (fun w => .tuple (encB w.body)) rfl tp2 (fun i σ' H' => ∃ (ys : List (List Str)) (xs : List V) (u4 u5 u6 : Option V), σ' = [some (.ref r), some v, some (.ref so), some (.ref fl), u4, u5, u6, none] ∧ H' fl = some (.lst xs) ∧ TdAll K H' xs (ys.map fun y => .tuple (y.map PyData.str)) ∧ ys.length = i ∧ (∀ j y, ys[j]? = some y → y.length = shP (shapes p) j ∧ ∀ z ∈ y, z ∈ sm) ∧ Fr [fl, r] H2 H' ∧ RowAt K s ns H' r) ?_ ?_ ?_ ?_)
  · exact ⟨[], [], _, _, _, rfl, e2 _ _ hx1, .nil, rfl, by simp, Fr.refl, (hR.ex e1).ex e2⟩
  · rintro i σ' H' ⟨ys, xs, u4, u5, u6, rfl, hxs, hall, hlen, hys, hf, hR'⟩
    refine hf.keep fun a ha => ?_
    rcases List.mem_cons.mp ha with e | ha
    · rw [e]; exact ⟨_, e2 _ _ hx1, True.intro⟩
    · have e : a = r := by simpa using ha
      rw [e]
      exact ((hR.ex e1).ex e2).mu
  · rintro i wk v1 v2 v3 σ' H' hwk t1 t2 t3 ⟨ys, xs, u4, u5, u6, rfl, hxs, hall, hlen, hys, hf, hR'⟩
    have hwp := hpp wk (List.mem_of_getElem? hwk)
    have hil : i < p.length := (List.getElem?_eq_some_iff.mp hwk).1
    have epp : shP (shapes p) i = wk.params := by simp [shP, shapes, List.getD, hwk]
    have hwd : WdsAt K so sm H' := hf _ _ (by simp [hsf, hne]) (e2 _ _ (e1 _ _ hso))
    dsimp only
    refine w_app rfl hxs (w_tupl (w_lcR (K := K) (n := wk.params) ?_ (by omega) (fun _ => rfl) (fun q j H14 => H' q = none ∧ ∃ (y : List Str), H14 q = some (.lst (y.map V.str)) ∧ y.length = j ∧ (∀ z ∈ y, z ∈ sm) ∧ Fr [q, r] H' H14 ∧ RowAt K s ns H14 r) ?_ ?_ ?_))
    · exact eda_cons (ed_var rfl t1) eda_nil
    · intro H14 q e14 hq
      exact ⟨fresh_back e14 hq, [], upd_same, rfl, by simp, Fr.of (e14.trans (Ex.new hq)), hR'.ex (e14.trans (Ex.new hq))⟩
    · rintro q j H14 hj ⟨hq0, y, hx, hl, hg, hf14, R14⟩
      have off := hR'.off hq0
      have hqs : so ≠ q := by
        intro e
        rw [WdsAt, e, hq0] at hwd
        cases hwd
      have hwd14 : H14 so = some (.lst (sm.map V.str)) := hf14 _ _ (by simp [hqs, hne]) hwd
      refine w_op (w_v rfl (w_taken rfl R14 hn (m := (sm.length : Int)) ?_ (by omega) (by omega) fun kk H15 hkk f15 R15 => ?_))
      · apply ed_is
        · exact ed_lenV (ev_var rfl) (SqL.of hwd14)
        · simp
      have hkk2 : kk < sm.length := by omega
      have hx15 := f15 q _ (by simpa using off.1) hx
      refine ⟨so, _, (kk : Int), .str sm[kk], rfl, rfl, SqL.of (f15 _ _ (by simpa using hne) hwd14), atI_nat (by rw [List.getElem?_map, List.getElem?_eq_getElem hkk2] <;> rfl), ?_⟩
      refine ⟨_, hx15, by simp; exact sz_lt (by omega), hq0, y ++ [sm[kk]], by simp [upd_same], by simp [hl], ?_, (hf14.trans (f15.sub (by simp))).trans (Fr.upd (by simp)), R15.updo off⟩
      intro z hz
      rcases List.mem_append.mp hz with hz | hz
      · exact hg z hz
      · have : z = sm[kk] := by simpa using hz
        rw [this]
        exact List.getElem_mem hkk2
    · rintro q H14 ⟨hq0, y, hx, hl, hg, hf14, R14⟩
      refine tupl_go hx fun l hl2 => ?_
      have f14 : Fr [r] H' H14 := Fr.fresh hf14 hq0
      have e15 : Ex H14 (upd H14 l (.tup (y.map V.str))) := Ex.new hl2
      have t15 : Td K (upd H14 l (.tup (y.map V.str))) (.ref l) (.tuple (y.map PyData.str)) := by
        refine .tup (SqT.of upd_same) ?_
        have : ∀ y : List Str, TdAll K (upd H14 l (.tup (y.map V.str))) (y.map V.str) (y.map PyData.str) → True := fun _ _ => True.intro
        have g : ∀ (H : Hp) (y : List Str), TdAll K H (y.map V.str) (y.map PyData.str) := by
          intro H y
          induction y with
          | nil => exact .nil
          | cons a b ih => exact .cons (.str _) ih
        exact g _ y
      have hx15 : (upd H14 l (.tup (y.map V.str))) fl = some (.lst xs) := e15 _ _ (f14 _ _ (by simpa using offf.1) hxs)
      have hall15 := (hall.kp (hR'.keep f14)).ex e15
      have R15 := R14.ex e15
      have f15 : Fr [r] H' (upd H14 l (.tup (y.map V.str))) := f14.trans (Fr.of e15)
      generalize upd H14 l (.tup (y.map V.str)) = H15 at *
      have kk : Keep K H15 (upd H15 fl (.lst (xs ++ [.ref l]))) := Keep.upd hx15 True.intro
      refine ⟨xs, hx15, by rw [hall.length, List.length_map]; exact sz_lt (by omega), ys ++ [y], xs ++ [.ref l], _, _, _, rfl, upd_same, ?_, by simp [hlen], ?_, (hf.trans (f15.sub (by simp))).trans (Fr.upd (by simp)), R15.updo offf⟩
      · rw [List.map_append]
        exact (hall15.kp kk).snoc (t15.kp kk)
      · intro j z hj
        rw [List.getElem?_append] at hj
        split at hj
        · exact hys j z hj
        · rename_i hjl
          have e0 : j - ys.length = 0 := by
            obtain ⟨h, _⟩ := List.getElem?_eq_some_iff.mp hj
            simp at h
            exact h
          have ej : j = i := by omega
          rw [e0] at hj
          simp at hj
          subst hj ej
          exact ⟨by rw [hl, epp], hg⟩
  · rintro σ' H' ⟨ys, xs, u4, u5, u6, rfl, hxs, hall, hlen, hys, hf, hR'⟩
    dsimp only
    refine w_ret (w_d (K := K) (ed_tupL (edr_var rfl (SqL.of hxs) hall)) fun v H11 e11 t11 => ?_)
    exact k ys v H11 ⟨hlen, hys⟩ ((((Fr.of e1).trans (Fr.of e2)).trans hf |>.fresh hfl).trans (Fr.of e11)) (hR'.ex e11) t11
end
end Hw

set_option maxRecDepth 100000
set_option maxHeartbeats 4000000
/-! GO: what is drawn is let by -/
namespace Hw
open PySem PySem.Spec PyProof.Rows L2 Evl
theorem goT_ok {shs : List (Nat × Nat)} {i : Nat} {t : Th} (h : goT shs i t = true) : okT (shP shs i) (shO shs i) t 0 = true := by
  simp only [goT, Bool.and_eq_true, decide_eq_true_eq] at h
  exact okT_of t 0 h.1 (by omega)
mutual
theorem goS_ok {shs : List (Nat × Nat)} {i : Nat} : ∀ (s : Stm) (n w : Nat), w + n ≤ 4 → goS shs i n s = true → okS shs i s w = true
  | .set p t, n, w, hw, h => by
    cases n <;>
    · simp only [goS, Bool.and_eq_true] at h
      simp only [okS, goT_ok h.1, goT_ok h.2.2, h.2.1, Bool.and_true, decide_eq_true_eq]
      omega
  | .say t, n, w, hw, h => by
    cases n <;>
    · simp only [goS] at h
      simp only [okS, goT_ok h, Bool.and_true, decide_eq_true_eq]
      omega
  | .call c ts, n, w, hw, h => by
    cases n <;>
    · simp only [goS, Bool.and_eq_true, decide_eq_true_eq, List.all_eq_true] at h
      simp only [okS, Bool.and_eq_true, decide_eq_true_eq, List.all_eq_true]
      exact ⟨by omega, h.2.1, h.1, h.2.2.1, fun t ht => goT_ok (h.2.2.2 t ht)⟩
  | .ite t a b, 0, w, hw, h => by simp [goS] at h
  | .ite t a b, n + 1, w, hw, h => by
    simp only [goS, Bool.and_eq_true, decide_eq_true_eq] at h
    simp only [okS, Bool.and_eq_true, decide_eq_true_eq]
    exact ⟨by omega, goT_ok h.1, goB_ok a n (w + 1) (by omega) h.2.1.2, goB_ok b n (w + 1) (by omega) h.2.2.2⟩
theorem goB_ok {shs : List (Nat × Nat)} {i : Nat} : ∀ (b : List Stm) (n w : Nat), w + n ≤ 4 → goB shs i n b = true → okB shs i b w = true
  | [], n, w, hw, h => by simp [okB]
  | s :: r, n, w, hw, h => by
    simp only [goB, Bool.and_eq_true] at h
    simp only [okB, Bool.and_eq_true]
    exact ⟨goS_ok s n w hw h.1, goB_ok r n w hw h.2⟩
end
mutual
theorem goS_sm {shs : List (Nat × Nat)} {i : Nat} (h3 : ∀ i, shP shs i ≤ 3) : ∀ (s : Stm) (n : Nat), goS shs i n s = true → smS s = true
  | .set p t, n, h => by simp [smS]
  | .say t, n, h => by simp [smS]
  | .call c ts, n, h => by
    have := h3 c
    cases n <;>
    · simp only [goS, Bool.and_eq_true, decide_eq_true_eq, List.all_eq_true] at h
      simp only [smS, decide_eq_true_eq]
      omega
  | .ite t a b, 0, h => by simp [goS] at h
  | .ite t a b, n + 1, h => by
    simp only [goS, Bool.and_eq_true, decide_eq_true_eq] at h
    simp only [smS, Bool.and_eq_true, decide_eq_true_eq]
    exact ⟨⟨by omega, by omega⟩, goB_sm h3 a n h.2.1.2, goB_sm h3 b n h.2.2.2⟩
theorem goB_sm {shs : List (Nat × Nat)} {i : Nat} (h3 : ∀ i, shP shs i ≤ 3) : ∀ (b : List Stm) (n : Nat), goB shs i n b = true → smB b = true
  | [], n, h => by simp [smB]
  | s :: r, n, h => by
    simp only [goB, Bool.and_eq_true] at h
    simp only [smB, Bool.and_eq_true]
    exact ⟨goS_sm h3 s n h.1, goB_sm h3 r n h.2⟩
end
theorem goH_le {shs : List (Nat × Nat)} (h : GoH shs) (i : Nat) : shP shs i ≤ 3 := by
  cases hi : shs[i]? with
  | none => simp [shP, List.getD, hi]
  | some w =>
    have := (h.ok w (List.mem_of_getElem? hi)).1
    simpa [shP, List.getD, hi] using this
theorem goP_sm {most : Nat} {p : List Wk} (h : GoP most p) : smP p := by
  have hl := h.hs.len
  simp only [shapes, List.length_map] at hl
  refine ⟨by omega, fun w hw => ?_⟩
  obtain ⟨i, hi⟩ := List.mem_iff_getElem?.mp hw
  have g := h.ws i w hi
  exact ⟨by have := g.len; omega, goB_sm (goH_le h.hs) _ _ g.go⟩
theorem goP_ok {most : Nat} {p : List Wk} (h : GoP most p) (hm : most ≤ 98) : okP p = true := by
  have hl := h.hs.len
  simp only [shapes, List.length_map] at hl
  simp only [okP, Bool.and_eq_true, decide_eq_true_eq, List.all_eq_true, List.mem_range]
  refine ⟨hl.1, hl.2, fun i hi => ?_⟩
  have hw : p[i]? = some p[i] := List.getElem?_eq_getElem hi
  have g := h.ws i _ hw
  have hb := h.hs.ok _ (List.mem_of_getElem? g.sh)
  have h0 : i ≠ 0 ∨ p[i].params = 0 := by
    by_cases e : i = 0
    · have h1 := h.hs.fst
      have h2 := g.sh
      subst e
      simp [shP, List.getD, h2] at h1
      exact .inr h1
    · exact .inl e
  simp only [okW, hw, Bool.and_eq_true, decide_eq_true_eq, Bool.or_eq_true]
  exact ⟨hb.1, by have := hb.2; omega, h0, goB_ok _ 2 0 (by decide) g.go, by have := g.cnt; omega⟩
theorem goY_ok {p : List Wk} {sm : List Str} {ys : List (List Str)} (h : goY p sm ys) (hs : ∀ z ∈ sm, isWay z = true) : okY p ys = true := by
  simp only [okY, Bool.and_eq_true, decide_eq_true_eq, List.all_eq_true, List.mem_range]
  refine ⟨h.1, fun i hi => ?_⟩
  obtain ⟨y, hy⟩ : ∃ y, ys[i]? = some y := ⟨_, List.getElem?_eq_getElem (by have := h.1; omega)⟩
  have g := h.2 i _ hy
  have e : ys.getD i [] = y := by simp [List.getD, hy]
  rw [e]
  exact ⟨g.1, fun z hz => hs z (g.2 z hz)⟩
theorem goY_sm {most : Nat} {p : List Wk} {sm : List Str} {ys : List (List Str)} (g : GoP most p) (h : goY p sm ys) (hs : ∀ z ∈ sm, (PyData.str z).canLay0 = true) : smY ys := by
  have hl := g.hs.len
  simp only [shapes, List.length_map] at hl
  refine ⟨by have := h.1; omega, fun y hy => ?_⟩
  obtain ⟨i, hi⟩ := List.mem_iff_getElem?.mp hy
  have g2 := h.2 i y hi
  have := goH_le g.hs i
  exact ⟨by omega, fun z hz => hs z (g2.2 z hz)⟩
theorem way_all : ∀ z ∈ (["copy", "place", "back", "want"] : List Str), isWay z = true ∧ (PyData.str z).canLay0 = true := by
  intro z hz
  simp only [List.mem_cons, List.not_mem_nil, or_false] at hz
  rcases hz with e | e | e | e <;> subst e <;> exact ⟨by decide +kernel, by decide +kernel⟩
end Hw

set_option maxRecDepth 100000
set_option maxHeartbeats 4000000
/-! CA: the calls of a body, what is let by -/
namespace Hw
open PySem PySem.Spec PyProof.Rows L2 Evl
/-! the calls of a body -/
mutual
def callsS : Stm → List (Nat × List Th)
  | .call c ts => [(c, ts)]
  | .ite _ a b => callsB a ++ callsB b
  | _ => []
def callsB : List Stm → List (Nat × List Th)
  | [] => []
  | s :: r => callsS s ++ callsB r
end
theorem callsB_mem : ∀ {b : List Stm} {s : Stm} {x : Nat × List Th}, s ∈ b → x ∈ callsS s → x ∈ callsB b
  | y :: r, s, x, hs, hx => by
    simp only [callsB, List.mem_append]
    rcases List.mem_cons.mp hs with e | hs
    · subst e; exact .inl hx
    · exact .inr (callsB_mem hs hx)
theorem callsS_bods {s : Stm} {b : List Stm} {x : Nat × List Th} (hb : b ∈ bods s) (hx : x ∈ callsB b) : x ∈ callsS s := by
  cases s with
  | ite t a c =>
    simp only [bods, List.mem_cons, List.not_mem_nil, or_false] at hb
    simp only [callsS, List.mem_append]
    rcases hb with e | e <;> subst e
    · exact .inl hx
    · exact .inr hx
  | _ => simp [bods] at hb
mutual
theorem okS_calls {sh : List (Nat × Nat)} {at_ : Nat} : ∀ (s : Stm) (w : Nat) (x : Nat × List Th), okS sh at_ s w = true → x ∈ callsS s → at_ < x.1 ∧ x.1 < sh.length ∧ x.2.length = shP sh x.1
  | .set p t, w, x, h, hx => by simp [callsS] at hx
  | .say t, w, x, h, hx => by simp [callsS] at hx
  | .call c ts, w, x, h, hx => by
    simp [callsS] at hx
    subst hx
    simp [okS] at h
    exact ⟨h.2.2.1, h.2.1, h.2.2.2.1⟩
  | .ite t a b, w, x, h, hx => by
    simp [okS] at h
    simp only [callsS, List.mem_append] at hx
    rcases hx with hx | hx
    · exact okB_calls a (w + 1) x h.2.2.1 hx
    · exact okB_calls b (w + 1) x h.2.2.2 hx
theorem okB_calls {sh : List (Nat × Nat)} {at_ : Nat} : ∀ (b : List Stm) (w : Nat) (x : Nat × List Th), okB sh at_ b w = true → x ∈ callsB b → at_ < x.1 ∧ x.1 < sh.length ∧ x.2.length = shP sh x.1
  | [], w, x, h, hx => by simp [callsB] at hx
  | s :: r, w, x, h, hx => by
    simp only [okB, Bool.and_eq_true] at h
    simp only [callsB, List.mem_append] at hx
    rcases hx with hx | hx
    · exact okS_calls s w x h.1 hx
    · exact okB_calls r w x h.2 hx
end
theorem okP_get {p : List Wk} {i : Nat} {w : Wk} (h : okP p = true) (hi : p[i]? = some w) : w.params ≤ 3 ∧ w.owns ≤ 99 ∧ okB (shapes p) i w.body 0 = true ∧ cntB w.body ≤ 100 := by
  simp only [okP, Bool.and_eq_true, decide_eq_true_eq, List.all_eq_true, List.mem_range] at h
  have := h.2.2 i (List.getElem?_eq_some_iff.mp hi).1
  simp only [okW, hi, Bool.and_eq_true, decide_eq_true_eq] at this
  exact ⟨this.1, this.2.1, this.2.2.2.1, this.2.2.2.2⟩
theorem okP_len {p : List Wk} (h : okP p = true) : 1 ≤ p.length ∧ p.length ≤ 4 := by
  simp only [okP, Bool.and_eq_true, decide_eq_true_eq] at h
  exact ⟨h.1, h.2.1⟩
theorem okY_get {p : List Wk} {ys : List (List Str)} (h : okY p ys = true) : ys.length = p.length ∧ ∀ i y, ys[i]? = some y → y.length = shP (shapes p) i := by
  simp only [okY, Bool.and_eq_true, decide_eq_true_eq, List.all_eq_true, List.mem_range] at h
  refine ⟨h.1, fun i y hi => ?_⟩
  have := h.2 i (by have := (List.getElem?_eq_some_iff.mp hi).1; omega)
  simpa [List.getD, hi] using this.1
theorem take_snoc {α : Type} {xs : List α} {n : Nat} {d : α} (h : xs[n]? = some d) : xs.take (n + 1) = xs.take n ++ [d] := by
  rw [List.take_add_one, h]
  rfl
section
variable {K : PySem.W.Frag} {σ : L2.St} {H H' : Hp} {D : Ends} {tu tz : TS} {te : TE}
/-- for x in a tuple that stands in a variable -/
theorem w_forTv {α : Type} {n j : Nat} {v : V} (xs : List α) (f : α → PyData) (hv : σ[n]? = some (some v)) (h : Td K H v (.tuple (xs.map f))) (Pv : Nat → L2.St → Hp → Prop) (h0 : Pv 0 σ H) (hk : ∀ i σ' H', Pv i σ' H' → Keep K H H')
    (hs : ∀ i x v σ' H', xs[i]? = some x → Td K H' v (f x) → Pv i σ' H' → tu { D with nx := Pv (i + 1), ct := Pv (i + 1), bk := D.nx } (σ'.set j (some v)) H')
    (hd : ∀ σ' H', Pv xs.length σ' H' → D.nx σ' H') : tFor (iTup K (tVar n)) (gName j) tu D σ H := by
  refine ⟨v, hv, ?_⟩
  obtain ⟨a, ys, rfl, hx, hall⟩ := h.tup_inv
  have hlen := hall.length
  rw [List.length_map] at hlen
  refine ⟨a, rfl, ⟨ys, hx⟩, for_tup Pv h0 (fun i σ' H' _ p => hk i σ' H' p a ys hx) (fun i x σ' H' hi p => ?_) (fun σ' H' p => hd σ' H' (by rw [← hlen]; exact p))⟩
  obtain ⟨d, hdd, td⟩ := hall.getV hi
  rw [List.getElem?_map] at hdd
  obtain ⟨z, hz, rfl⟩ := Option.map_eq_some_iff.mp hdd
  exact hs i z x σ' H' hz (td.kp (hk i σ' H' p)) p
end
end Hw

set_option maxRecDepth 100000
set_option maxHeartbeats 4000000
/-! RU1: what a run is, in plain words -/
namespace Hw
open PySem PySem.Spec PyProof.Rows L2 Evl
mutual
/-- what is handed: a place by its road, or a thing that is wanted -/
inductive Hd where
  | road (pl : Nat) (th : List Nat)
  | want (t : Th) (f : Fra)
inductive Fra where
  | mk (owns : List Nat) (pars : List Hd)
end
def Fra.owns : Fra → List Nat
  | .mk o _ => o
def Fra.pars : Fra → List Hd
  | .mk _ p => p
/-- the state of a run -/
structure Sg where
  nums : List Nat
  said : List Nat
  lent : List (Nat × Nat)
  many : Nat
  mixed : Bool
/-- a place is come to by a road -/
def meets (s : Sg) (pl : Nat) (th : List Nat) : Bool := s.lent.any fun x => decide (x.1 = pl) && !decide (x.2 ∈ th)
def come (pl : Nat) (th : List Nat) (s : Sg) : Sg := { s with mixed := s.mixed || meets s pl th }
def mostL : Nat := 30000
mutual
/-- the road to a thing's place, if it has one -/
def findF : Nat → Th → Fra → Sg → Option (Option (Nat × List Nat) × Sg)
  | 0, _, _, _ => none
  | n + 1, .cell t, f, s => match numF n t f s with
    | some (v, s') => some (some (v, []), s')
    | none => none
  | _ + 1, .own k, f, s => match f.owns[k]? with
    | some o => some (some (o, []), s)
    | none => none
  | n + 1, .par k, f, s => match f.pars[k]? with
    | some (.road pl th) => some (some (pl, th), s)
    | some (.want t f') => findF n t f' s
    | none => none
  | _ + 1, .num _, _, s => some (none, s)
  | _ + 1, .sum _ _, _, s => some (none, s)
/-- what a thing is worth -/
def numF : Nat → Th → Fra → Sg → Option (Nat × Sg)
  | 0, _, _, _ => none
  | _ + 1, .num k, _, s => some (k, s)
  | n + 1, .sum a b, f, s => match numF n a f s with
    | some (x, s1) => match numF n b f s1 with
      | some (y, s2) => some ((x + y) % 3, s2)
      | none => none
    | none => none
  | n + 1, .cell t, f, s => match findF n (.cell t) f s with
    | some (some (pl, th), s1) => match (come pl th s1).nums[pl]? with
      | some v => some (v, come pl th s1)
      | none => none
    | _ => none
  | n + 1, .own k, f, s => match findF n (.own k) f s with
    | some (some (pl, th), s1) => match (come pl th s1).nums[pl]? with
      | some v => some (v, come pl th s1)
      | none => none
    | _ => none
  | n + 1, .par k, f, s => match findF n (.par k) f s with
    | some (some (pl, th), s1) => match (come pl th s1).nums[pl]? with
      | some v => some (v, come pl th s1)
      | none => none
    | some (none, s1) => match f.pars[k]? with
      | some (.want t f') => numF n t f' s1
      | _ => none
    | none => none
end
/-- a new place -/
def freshF (v : Nat) (s : Sg) : Option (Nat × Sg) := if s.nums.length < mostL then some (s.nums.length, { s with nums := s.nums ++ [v] }) else none
def isLent (w : Str) : Bool := [("place" : Str), "back"].any fun z => PyData.eqv (.str z) (.str w)
def isW (z w : Str) : Bool := PyData.eqv (.str w) (.str z)
/-- one thing handed over: what stands for it, the place that is laid back -/
def handF (m : Nat) (t : Th) (w : Str) (f : Fra) (s : Sg) : Option (Hd × Option (Nat × Nat) × Sg) :=
  match (if isLent w then findF m t f s else some (none, s)) with
  | none => none
  | some (fd, s1) => if isW "want" w then some (.want t f, none, s1) else match fd with
    | none => match numF m t f s1 with
      | none => none
      | some (v, s2) => match freshF v s2 with
        | none => none
        | some (pl, s3) => some (.road pl [], none, s3)
    | some (pl, th) =>
      let s2 := come pl th s1
      if s2.lent.length < mostL then
        let s3 := { s2 with many := s2.many + 1, lent := s2.lent ++ [(pl, s2.many + 1)] }
        if isW "place" w then (if th.length < mostL then some (.road pl (th ++ [s2.many + 1]), none, s3) else none) else match s3.nums[pl]? with
          | none => none
          | some v => match freshF v s3 with
            | none => none
            | some (o, s4) => some (.road o [], some (pl, o), s4)
      else none
def handAll (m : Nat) : List Th → List Str → Fra → Sg → Option (List Hd × List (Option (Nat × Nat)) × Sg)
  | [], _, _, s => some ([], [], s)
  | t :: ts, w :: ws, f, s => match handF m t w f s with
    | none => none
    | some (h, b, s1) => match handAll m ts ws f s1 with
      | none => none
      | some (hs, bs, s2) => some (h :: hs, b :: bs, s2)
  | _ :: _, [], _, _ => none
/-- own cells, all nought -/
def ownF : Nat → Sg → Option (List Nat × Sg)
  | 0, s => some ([], s)
  | k + 1, s => match ownF k s with
    | none => none
    | some (os, s1) => match freshF 0 s1 with
      | none => none
      | some (o, s2) => some (os ++ [o], s2)
/-- what is laid back -/
def backF : List (Option (Nat × Nat)) → List Nat → Option (List Nat)
  | [], ns => some ns
  | none :: r, ns => backF r ns
  | some (pl, o) :: r, ns => match ns[o]? with
    | none => none
    | some v => if pl < ns.length then backF r (ns.set pl v) else none
/-- steps, one behind the other -/
def goF (st : Stm → Sg → Option Sg) : List Stm → Sg → Option Sg
  | [], s => some s
  | x :: r, s => match st x s with
    | none => none
    | some s1 => goF st r s1
def stepF (p : List Wk) (ys : List (List Str)) (m : Nat) : Nat → Fra → Stm → Sg → Option Sg
  | 0, _, _, _ => none
  | n + 1, f, .set pt t, s => match numF m t f s with
    | none => none
    | some (v, s1) => match findF m pt f s1 with
      | none => none
      | some (none, s2) => some s2
      | some (some (pl, th), s2) => if pl < (come pl th s2).nums.length then some { come pl th s2 with nums := (come pl th s2).nums.set pl v } else none
  | n + 1, f, .say t, s => match numF m t f s with
    | none => none
    | some (v, s1) => if s1.said.length < mostL then some { s1 with said := s1.said ++ [v] } else none
  | n + 1, f, .ite t a b, s => match numF m t f s with
    | none => none
    | some (v, s1) => goF (stepF p ys m n f) (if v ≠ 0 then a else b) s1
  | n + 1, f, .call c ts, s => match p[c]?, ys[c]? with
    | some wk, some ws => match handAll m ts ws f s with
      | none => none
      | some (hs, bs, s1) => match ownF wk.owns s1 with
        | none => none
        | some (os, s2) => match goF (stepF p ys m n (.mk os hs)) wk.body s2 with
          | none => none
          | some s3 => match backF bs s3.nums with
            | none => none
            | some ns => some { s3 with lent := s.lent, nums := ns }
    | _, _ => none
/-- a whole run -/
def runF (p : List Wk) (ys : List (List Str)) (m n : Nat) (cells : List Nat) : Option Sg := match p[0]? with
  | none => none
  | some wk => match ownF wk.owns ⟨cells, [], [], 0, false⟩ with
    | none => none
    | some (os, s) => goF (stepF p ys m n (.mk os [])) wk.body s
end Hw

set_option maxRecDepth 100000
set_option maxHeartbeats 4000000
/-! RU2: a run's objects; roads and numbers by the program -/
namespace Hw
open PySem PySem.Spec PyProof.Rows L2 Evl
local macro_rules | `(tactic| walk_at "dd") => `(tactic| first | rfl | decide | (simp; done) | omega)
local macro_rules | `(tactic| walk_at "td") => `(tactic| first | assumption | exact Td.int _ | exact Td.bl _ | exact Td.str _ | exact Td.non | exact Td.tup (by assumption) (by assumption))
local macro_rules | `(tactic| walk_at "ev") => `(tactic| first
  | exact ed_ci | exact ed_cs | exact ed_cb | exact ed_cn
  | (apply ed_cg; assumption)
  | (apply ed_var; (rfl); (walk_at "td"))
  | (apply ed_ixT; (walk_at "ev"); (walk_at "ev"); (first | rfl | assumption))
  | (apply ed_rowI; (rfl); (assumption); (walk_at "ev"); (rfl))
  | (apply ed_ixL; (apply EvDL.rd; walk_at "edl"); (walk_at "ev"); (rfl))
  | (apply ed_intb; (walk_at "ev"))
  | (apply ed_len; walk_at "ev")
  | (apply ed_lenV; (apply ev_rowR; (rfl); (assumption); (walk_at "ev"); (rfl)); (assumption))
  | (apply ed_Ii; (walk_at "ev"); (walk_at "ev"); (walk_at "cc"))
  | (apply ed_isi; (walk_at "ev"); (rfl))
  | (apply ed_I0i; (walk_at "ev"); (walk_at "ev"))
  | (apply ed_I0b; (walk_at "ev"); (walk_at "ev"))
  | (apply ed_eqi; (walk_at "ev"); (walk_at "ev"))
  | (apply ed_nei; (walk_at "ev"); (walk_at "ev"))
  | (apply ed_andF; walk_at "ev")
  | (apply ed_andV; (walk_at "ev"); (intro _; walk_at "ev"))
  | (apply ed_orT; walk_at "ev")
  | (apply ed_orV; (walk_at "ev"); (intro _; walk_at "ev"))
  | (apply ed_notT; walk_at "ev")
  | (apply ed_notF; walk_at "ev")
  | (apply ed_notV; walk_at "ev")
  | (apply ed_chain; (walk_at "ev"); (walk_at "ev"); (intro _; walk_at "ev"))
  | (apply ed_eqS; (walk_at "ev"); (walk_at "ev"); (walk_at "bb"); (walk_at "bb"))
  | (apply ed_neS; (walk_at "ev"); (walk_at "ev"); (walk_at "bb"); (walk_at "bb"))
  | (apply ed_inT; (walk_at "ev"); (walk_at "ev"); (rfl); (rfl))
  | (apply ed_niT; (walk_at "ev"); (walk_at "ev"); (rfl); (rfl))
  | (apply ed_tup; (walk_at "eva"); (walk_at "bb"))
  | (apply ed_sl; (walk_at "ev"); (walk_at "evo"); (walk_at "evo"))
  | (apply ed_eqN; (apply EvDL.rd; walk_at "edl"); (walk_at "edl"); (walk_at "bb"))
  | (apply ed_neN; (apply EvDL.rd; walk_at "edl"); (walk_at "edl"); (walk_at "bb"))
  | (apply ed_ixL; (apply edr_var; (rfl); (assumption); (assumption)); (walk_at "ev"); (first | rfl | assumption))
  | (apply ed_lenL; (apply edr_var; (rfl); (assumption); (assumption)))
  | (apply ed_call; (walk_at "eva"); (walk_at "post")))
local macro_rules | `(tactic| walk_at "edl") => `(tactic| first
  | assumption
  | (apply edl_lst; (walk_at "eva"); (walk_at "bb")))
local macro_rules | `(tactic| walk_at "eva") => `(tactic| first
  | exact eda_nil
  | (apply eda_cons; (walk_at "ev"); (walk_at "eva")))
local macro_rules | `(tactic| walk_at "evo") => `(tactic| first
  | exact eok_none
  | (apply eok_some; walk_at "ev"))
local macro_rules | `(tactic| walk_at "bb") => `(tactic| first | rfl | assumption | (simp; done) | (simp; omega) | decide +kernel)
local macro_rules | `(tactic| walk_at "et") => `(tactic| first
  | exact tk_yes
  | (apply tk_andF; walk_at "et")
  | (apply tk_and; (walk_at "et"); (intro _; walk_at "et"))
  | (apply tk_orT; walk_at "et")
  | (apply tk_or; (walk_at "et"); (intro _; walk_at "et"))
  | (apply tk_notT; walk_at "et")
  | (apply tk_notF; walk_at "et")
  | (apply tk_not; walk_at "et")
  | (apply tk_v; walk_at "ev")
  | (apply tk_vB; walk_at "ev"))
local macro_rules | `(tactic| walk_at "if") => `(tactic| first
  | (apply pst_whenF; (walk_at "et"); (walk_at "bb"))
  | (apply pst_whenT; (walk_at "et"); (walk_at "bb")))
local macro_rules | `(tactic| walk_at "post") => `(tactic| first | assumption | exact ⟨_, _, rfl, rfl⟩ | exact ⟨_, _, _, _, rfl, by omega, by omega, rfl⟩ | exact ⟨_, _, _, 0, rfl, by omega, by omega, rfl⟩)
local macro_rules | `(tactic| walk_at "cc") => `(tactic| first | assumption | decide | omega | (refine ⟨?_, ?_⟩ <;> first | decide | omega) | (exact Or.inl (by constructor <;> omega)))

/-- what stands beside S -/
def Ofs (S : List Addr) (H : Hp) : Hp := fun a => if a ∈ S then none else H a
section
variable {K : PySem.W.Frag} {σ : L2.St} {H H' : Hp} {D : Ends} {tu tz : TS} {te tl ta tb : TE} {t : TA} {S : List Addr} {a C dx : Addr} {fs : List (Str × V)} {f : Str} {v : V} {n : Nat} {Q : VK} {E : XK} {sp : Sp}
theorem ofs_ex : Ex (Ofs S H) H := fun p o h => by
  unfold Ofs at h
  split at h
  · cases h
  · exact h
theorem ofs_fr (f : Fr S H H') : Ex (Ofs S H) (Ofs S H') := fun p o h => by
  unfold Ofs at h ⊢
  split at h
  · cases h
  · rename_i hp
    rw [if_neg hp]
    exact f p o hp h
theorem ofs_get {p : Addr} {o : HO} (h : H p = some o) (hp : p ∉ S) : Ofs S H p = some o := by
  unfold Ofs
  rw [if_neg hp]
  exact h
theorem ev_fld (hs : σ[n]? = some (some (.ref a))) (ha : H a = some (.ins C dx fs)) (c : Cls K C) (na : NoAttr K C f) (hl : fs.lookup f = some v) : Ev (tFld K (tVar n) f) σ H v := fun H1 e Q q => ⟨.ref a, hs, a, C, dx, fs, v, rfl, e _ _ ha, c, na, hl, q H1 (Ex.refl H1)⟩
theorem w_fld (hs : σ[n]? = some (some (.ref a))) (ha : H a = some (.ins C dx fs)) (c : Cls K C) (na : NoAttr K C f) (hl : fs.lookup f = some v) (q : Q v H) : tFld K (tVar n) f σ H Q := ⟨.ref a, hs, a, C, dx, fs, v, rfl, ha, c, na, hl, q⟩
theorem ed_fld {d : PyData} (hs : σ[n]? = some (some (.ref a))) (ha : H a = some (.ins C dx fs)) (c : Cls K C) (na : NoAttr K C f) (hl : fs.lookup f = some v) (td : Td K H v d) : EvD K (tFld K (tVar n) f) σ H d := fun H1 e Q q => ⟨.ref a, hs, a, C, dx, fs, v, rfl, e _ _ ha, c, na, hl, q v H1 (Ex.refl H1) (td.ex e)⟩
theorem edr_fld {p : Addr} {xs : List V} {ds : List PyData} (hs : σ[n]? = some (some (.ref a))) (ha : H a = some (.ins C dx fs)) (c : Cls K C) (na : NoAttr K C f) (hl : fs.lookup f = some (.ref p)) (hp : H p = some (.lst xs)) (td : TdAll K H xs ds) : EvDR K (tFld K (tVar n) f) σ H ds := fun H1 e Q q => ⟨.ref a, hs, a, C, dx, fs, .ref p, rfl, e _ _ ha, c, na, hl, q p xs H1 (Ex.refl H1) (SqL.of (e _ _ hp)) (td.ex e)⟩
theorem w_meth {m : Str} {dvs : List V} (hs : σ[n]? = some (some (.ref a))) (ha : H a = some (.ins C dx fs)) (hl : fs.lookup m = none) (h : t σ H fun vs H2 => sp (.ref a :: (vs ++ dvs)) H2 Q E) : tMeth C m sp dvs E (tVar n) t σ H Q := ⟨.ref a, hs, a, dx, fs, rfl, ha, hl, h⟩
/-- o.f = e -/
theorem w_setf (hs : σ[n]? = some (some (.ref a))) (h : te σ H fun y H1 => ∃ C dx fs, H1 a = some (.ins C dx fs) ∧ Cls K C ∧ NoAttr K C f ∧ fs.length < 1000 ∧ D.nx σ (upd H1 a (.ins C dx (putF f y fs)))) : sFld K (tVar n) te f D σ H := by
  have e : (fun (y : V) (H1 : Hp) => tVar n σ H1 fun x H2 => ∃ a C dx fs, x = .ref a ∧ H2 a = some (.ins C dx fs) ∧ Cls K C ∧ NoAttr K C f ∧ fs.length < 1000 ∧ D.nx σ (upd H2 a (.ins C dx (putF f y fs)))) = fun y H1 => ∃ C dx fs, H1 a = some (.ins C dx fs) ∧ Cls K C ∧ NoAttr K C f ∧ fs.length < 1000 ∧ D.nx σ (upd H1 a (.ins C dx (putF f y fs))) := by
    funext y H1
    refine propext ⟨fun ⟨x, h1, a', C', dx, fs, h2, h3⟩ => ?_, fun ⟨C, dx, fs, h3⟩ => ⟨.ref a, hs, a, C, dx, fs, rfl, h3⟩⟩
    rw [hs] at h1
    cases h1
    cases h2
    exact ⟨C', dx, fs, h3⟩
  show te σ H _
  rw [e]
  exact h
/-- o.f.append(e) -/
theorem w_appF {l : Addr} {ys : List V} (hs : σ[n]? = some (some (.ref a))) (ha : H a = some (.ins C dx fs)) (c : Cls K C) (na : NoAttr K C f) (hf : fs.lookup f = some (.ref l)) (hl : H l = some (.lst ys)) (h : te σ H fun x H1 => ∃ xs, H1 l = some (.lst xs) ∧ xs.length < sizeLine ∧ D.nx σ (upd H1 l (.lst (xs ++ [x])))) :
    tDrop (tBM K "list" rAppend (tFld K (tVar n) f) (tCons te tNil)) D σ H := ⟨.ref a, hs, a, C, dx, fs, .ref l, rfl, ha, c, na, hf, .inl ⟨rfl, ys, SqL.of hl⟩, by
    show te σ H fun x H1 => rAppend (.ref l) [x] H1 fun _ H2 => D.nx σ H2
    have e : (fun (x : V) (H1 : Hp) => rAppend (.ref l) [x] H1 fun _ H2 => D.nx σ H2) = fun x H1 => ∃ xs, H1 l = some (.lst xs) ∧ xs.length < sizeLine ∧ D.nx σ (upd H1 l (.lst (xs ++ [x]))) := by
      funext x H1
      refine propext ⟨fun ⟨l2, xs, y, e1, e2, e3, e4, e5⟩ => ?_, fun ⟨xs, e3, e4, e5⟩ => ⟨l, xs, x, rfl, rfl, e3, e4, e5⟩⟩
      cases e1
      cases e2
      exact ⟨xs, e3, e4, e5⟩
    rw [e]
    exact h⟩
end
/-- the numbers of a list -/
def nV (ns : List Nat) : List V := ns.map fun n => V.int ((n : Nat) : Int)
def nD (ns : List Nat) : List PyData := ns.map fun n => PyData.int ((n : Nat) : Int)
theorem nV_td {K : PySem.W.Frag} {H : Hp} : ∀ ns : List Nat, TdAll K H (nV ns) (nD ns)
  | [] => .nil
  | n :: r => .cons (.int _) (nV_td r)
mutual
/-- a frame of the program stands at a -/
inductive PFra (K : PySem.W.Frag) (F : Hp) : Addr → Fra → Prop
  | mk {a dx lo lp : Addr} {owns : List Nat} {pars : List Hd} {vs : List V} : F a = some (.ins (He.ga K "Frame") dx [("owns", .ref lo), ("pars", .ref lp)]) → F lo = some (.lst (nV owns)) → F lp = some (.lst vs) → PHds K F vs pars → PFra K F a (.mk owns pars)
inductive PHd (K : PySem.W.Frag) (F : Hp) : V → Hd → Prop
  | road {a dx : Addr} {pl : Nat} {th : List Nat} {vt : V} : F a = some (.ins (He.ga K "Lent") dx [("place", .int (pl : Int)), ("through", vt), ("thing", .non), ("frame", .non)]) → Td K F vt (.tuple (nD th)) → PHd K F (.ref a) (.road pl th)
  | want {a dx fa : Addr} {t : Th} {f : Fra} {vt tv : V} : F a = some (.ins (He.ga K "Lent") dx [("place", .non), ("through", vt), ("thing", tv), ("frame", .ref fa)]) → Td K F tv (encT t) → PFra K F fa f → PHd K F (.ref a) (.want t f)
inductive PHds (K : PySem.W.Frag) (F : Hp) : List V → List Hd → Prop
  | nil : PHds K F [] []
  | cons {v : V} {vs : List V} {h : Hd} {hs : List Hd} : PHd K F v h → PHds K F vs hs → PHds K F (v :: vs) (h :: hs)
end
mutual
theorem PFra.ex {K : PySem.W.Frag} {F F' : Hp} (e : Ex F F') : ∀ {a : Addr} {f : Fra}, PFra K F a f → PFra K F' a f
  | _, _, .mk h1 h2 h3 h4 => .mk (e _ _ h1) (e _ _ h2) (e _ _ h3) (PHds.ex e h4)
theorem PHd.ex {K : PySem.W.Frag} {F F' : Hp} (e : Ex F F') : ∀ {v : V} {h : Hd}, PHd K F v h → PHd K F' v h
  | _, _, .road h1 h2 => .road (e _ _ h1) (h2.ex e)
  | _, _, .want h1 h2 h3 => .want (e _ _ h1) (h2.ex e) (PFra.ex e h3)
theorem PHds.ex {K : PySem.W.Frag} {F F' : Hp} (e : Ex F F') : ∀ {vs : List V} {hs : List Hd}, PHds K F vs hs → PHds K F' vs hs
  | _, _, .nil => .nil
  | _, _, .cons h1 h2 => .cons (PHd.ex e h1) (PHds.ex e h2)
end
theorem PHds.get {K : PySem.W.Frag} {F : Hp} : ∀ {vs : List V} {hs : List Hd} {i : Nat} {h : Hd}, PHds K F vs hs → hs[i]? = some h → ∃ v, vs[i]? = some v ∧ PHd K F v h
  | _, _, _, _, .nil, e => by simp at e
  | _, _, 0, _, .cons h1 h2, e => by simp at e; subst e; exact ⟨_, rfl, h1⟩
  | _, _, i + 1, _, .cons h1 h2, e => by simp at e; simpa using PHds.get h2 e
def runFs (pw0 yw0 : V) (nl sl ll : Addr) (s : Sg) : List (Str × V) := [("program", pw0), ("ways", yw0), ("numbers", .ref nl), ("said", .ref sl), ("lent", .ref ll), ("many", .int (s.many : Int)), ("mixed", .bl s.mixed)]
/-- a run stands at r -/
structure RunAt (K : PySem.W.Frag) (r nl sl ll : Addr) (pw0 yw0 : V) (s : Sg) (H : Hp) : Prop where
  ob : ∃ dx, H r = some (.ins (He.ga K "Run") dx (runFs pw0 yw0 nl sl ll s))
  nums : H nl = some (.lst (nV s.nums))
  said : H sl = some (.lst (nV s.said))
  lent : ∃ vs, H ll = some (.lst vs) ∧ TdAll K H vs (s.lent.map fun x => .tuple [.int (x.1 : Int), .int (x.2 : Int)])
  d1 : nl ≠ sl
  d2 : nl ≠ ll
  d3 : sl ≠ ll
section
variable {K : PySem.W.Frag} {H H' : Hp} {r nl sl ll : Addr} {pw0 yw0 : V} {s s' : Sg}
theorem RunAt.ex (h : RunAt K r nl sl ll pw0 yw0 s H) (e : Ex H H') : RunAt K r nl sl ll pw0 yw0 s H' := by
  obtain ⟨dx, h1⟩ := h.ob
  obtain ⟨vs, h2, h3⟩ := h.lent
  exact ⟨⟨dx, e _ _ h1⟩, e _ _ h.nums, e _ _ h.said, ⟨vs, e _ _ h2, h3.ex e⟩, h.d1, h.d2, h.d3⟩
theorem RunAt.ne (h : RunAt K r nl sl ll pw0 yw0 s H) : r ≠ nl ∧ r ≠ sl ∧ r ≠ ll := by
  obtain ⟨dx, h1⟩ := h.ob
  obtain ⟨vs, h2, h3⟩ := h.lent
  refine ⟨fun e => ?_, fun e => ?_, fun e => ?_⟩
  · have := h.nums; rw [← e, h1] at this; cases this
  · have := h.said; rw [← e, h1] at this; cases this
  · rw [← e, h1] at h2; cases h2
theorem RunAt.mu (h : RunAt K r nl sl ll pw0 yw0 s H) : ∀ a ∈ [r, nl, sl, ll], ∃ u, H a = some u ∧ Mut (some u) := fun a ha => by
  obtain ⟨dx, h1⟩ := h.ob
  obtain ⟨vs, h2, h3⟩ := h.lent
  have e : a = r ∨ a = nl ∨ a = sl ∨ a = ll := by simpa using ha
  rcases e with e | e | e | e <;> rw [e]
  · exact ⟨_, h1, True.intro⟩
  · exact ⟨_, h.nums, True.intro⟩
  · exact ⟨_, h.said, True.intro⟩
  · exact ⟨_, h2, True.intro⟩
theorem RunAt.keep (h : RunAt K r nl sl ll pw0 yw0 s H) (f : Fr [r, nl, sl, ll] H H') : Keep K H H' := f.keep h.mu
theorem RunAt.keep1 (h : RunAt K r nl sl ll pw0 yw0 s H) (f : Fr [r] H H') : Keep K H H' := h.keep (f.sub (by simp))
/-- the run's own attributes change alone -/
theorem RunAt.setr {dx : Addr} {m : Bool} (h : RunAt K r nl sl ll pw0 yw0 s H) : RunAt K r nl sl ll pw0 yw0 { s with mixed := m } (upd H r (.ins (He.ga K "Run") dx (runFs pw0 yw0 nl sl ll { s with mixed := m }))) := by
  obtain ⟨dx', h1⟩ := h.ob
  obtain ⟨vs, h2, h3⟩ := h.lent
  obtain ⟨n1, n2, n3⟩ := h.ne
  exact ⟨⟨dx, upd_same⟩, by rw [upd_ne (Ne.symm n1)]; exact h.nums, by rw [upd_ne (Ne.symm n2)]; exact h.said, ⟨vs, by rw [upd_ne (Ne.symm n3)]; exact h2, h3.kp (Keep.upd h1 True.intro)⟩, h.d1, h.d2, h.d3⟩
end
theorem nD_flat (ns : List Nat) : (nD ns).all flatD = true := by
  induction ns with
  | nil => rfl
  | cons n r ih => simpa [nD, flatD] using ih
theorem nD_any (ns : List Nat) (k : Nat) : (!(nD ns).any fun z => PyData.eqv z (.int (k : Int))) = !decide (k ∈ ns) := by
  congr 1
  rw [Bool.eq_iff_iff]
  simp only [nD, List.any_map, List.any_eq_true, decide_eq_true_eq]
  constructor
  · rintro ⟨x, hx, h⟩
    simp [PyData.eqv] at h
    have : x = k := by omega
    rw [← this]
    exact hx
  · intro h
    exact ⟨k, h, by simp [PyData.eqv]⟩
theorem pairs_lay (l : List (Nat × Nat)) : PyData.canLayAll0 (l.map fun x => PyData.tuple [.int (x.1 : Int), .int (x.2 : Int)]) = true := by
  induction l with
  | nil => rfl
  | cons x r ih => simp only [List.map_cons, PyData.canLayAll0, ih, Bool.and_true]; simp [PyData.canLay0, PyData.canLayAll0]
theorem any_filter2 {α : Type} {f : α → Bool} {g : α → PyData} (l : List α) : (!((l.filter f).map g).isEmpty) = l.any f := by
  induction l with
  | nil => rfl
  | cons a r ih =>
    rw [List.any_cons, List.filter_cons]
    cases h : f a with
    | true => simp
    | false => simpa using ih
def spCome (K : PySem.W.Frag) : Sp := fun vs H Q _ => ∃ (r nl sl ll : Addr) (pw0 yw0 thv : V) (s : Sg) (pl : Nat) (th : List Nat), vs = [.ref r, .int (pl : Int), thv] ∧ RunAt K r nl sl ll pw0 yw0 s H ∧ s.lent.length ≤ mostL ∧ Td K H thv (.tuple (nD th)) ∧ ∀ H', RunAt K r nl sl ll pw0 yw0 (come pl th s) H' → Fr [r] H H' → Q .non H'
theorem RunAt.addn {K : PySem.W.Frag} {H : Hp} {r nl sl ll : Addr} {pw0 yw0 : V} {s : Sg} {v : Nat} (h : RunAt K r nl sl ll pw0 yw0 s H) : RunAt K r nl sl ll pw0 yw0 { s with nums := s.nums ++ [v] } (upd H nl (.lst (nV s.nums ++ [.int (v : Int)]))) := by
  obtain ⟨dx, h1⟩ := h.ob
  obtain ⟨vs, h2, h3⟩ := h.lent
  obtain ⟨n1, n2, n3⟩ := h.ne
  exact ⟨⟨dx, by rw [upd_ne n1]; exact h1⟩, by rw [upd_same]; simp [nV], by rw [upd_ne (Ne.symm h.d1)]; exact h.said, ⟨vs, by rw [upd_ne (Ne.symm h.d2)]; exact h2, h3.kp (Keep.upd h.nums True.intro)⟩, h.d1, h.d2, h.d3⟩
def spFresh (K : PySem.W.Frag) : Sp := fun vs H Q _ => ∃ (r nl sl ll : Addr) (pw0 yw0 : V) (s : Sg) (v : Nat), vs = [.ref r, .int (v : Int)] ∧ RunAt K r nl sl ll pw0 yw0 s H ∧ s.nums.length < mostL ∧ ∀ H', RunAt K r nl sl ll pw0 yw0 { s with nums := s.nums ++ [v] } H' → Fr [nl] H H' → Q (.int (s.nums.length : Int)) H'
section
variable {P : Program} {w : World} {K : PySem.W.Frag} {mg : Str → Option Value} {base : Heap} (T : Tx K mg)
include T
theorem ok_come : Fn_Run_come T P w base CX0 1 (spCome K) := by
  refine T.F_Run_come.ok sc_Run_come (fun vs H Q E h => by obtain ⟨_, _, _, _, _, _, _, _, _, _, rfl, _⟩ := h; rfl) fun cdv A outer s0 H vs Q E hr h => ?_
  obtain ⟨r, nl, sl, ll, pw0, yw0, thv, s, pl, th, rfl, hR, hll, tth, k⟩ := h
  refine ⟨_, (pss_one (ps_if (pt_cmpR (kop_ne K hr.units) (pe_lc (own := [("pair", 3)]) (g := gName 3) (tt := _) rfl sc_Run_come.nd (kpi_list K (kpe_fld K (pv 0))) (blkOk_by (N := ["self", "place", "through", "pair"]) (sc := defScope s_Run_come) (by decide +kernel)) (fun _ _ _ _ _ => (pg_name (i := 3) sc_Run_come.nd rfl (Or.inl rfl))) (fun _ _ _ _ _ => (pts_one (PW.pt (pw_and (pt_cmpR op_eq (pe_ix (kix_tup K) (pv 3) pe_int (fun _ _ => rfl)) (pv 1) (nomark _)) (pw_and1 (pt_cmpR (kop_ni K) (pe_ix (kix_tup K) (pv 3) pe_int (fun _ _ => rfl)) (pv 2) rfl)))))) (fun _ _ _ _ _ => (pv 3))) (pe_lst pa_nil) (nomark _))
    (pss_one (ps_fld (pv 0) pe_bl rfl))
    pss_nil)), ?_⟩
  obtain ⟨dx, hob⟩ := hR.ob
  obtain ⟨lvs, hlx, hla⟩ := hR.lent
  refine Pst.go (K := K) ?_
  refine pst_if (K := K) (b := meets s pl th) ?_ (fun hb => pst_of fun H1 e1 => ?_) (fun hb => pst_of fun H1 e1 => ?_)
  · refine tk_is (tk_v (ed_neN (EvDL.rd (edl_lcML (xs := s.lent) (f := fun x => .tuple [.int (x.1 : Int), .int (x.2 : Int)]) (p := fun x => decide (x.1 = pl) && !decide (x.2 ∈ th)) (g := fun x => .tuple [.int (x.1 : Int), .int (x.2 : Int)]) (edr_fld rfl hob T.c_Run T.na_Run_lent (by rfl) hlx hla) rfl (by unfold mostL at hll; omega) (fun _ => rfl) (fun x v H2 e2 hx tx => ?_) fun x v H2 e2 hx _ tx => ed_var rfl tx)) (edl_lst eda_nil (by simp)) ?_)) ?_
    · refine tk_is (tk_and (b := !decide (x.2 ∈ th)) (tk_v (ed_eqi (j := (pl : Int)) (ed_ixT (i := 0) (ed_var rfl tx) ed_ci rfl) (ed_var rfl (.int _)))) fun _ => tk_is (tk_v (ed_niT (d := .int (x.2 : Int)) (ed_ixT (i := 1) (ed_var rfl tx) ed_ci rfl) (ed_var rfl (tth.ex e2)) rfl (nD_flat th))) ?_) ?_
      · rw [nD_any]
      · congr 1
        exact decide_eq_decide.mpr (by omega)
    · exact pairs_lay _
    · rw [meets, any_filter2]
  · have e : come pl th s = { s with mixed := true } := by
      unfold come
      rw [hb]
      simp
    rw [e] at k
    refine w_setf rfl (w_c ⟨_, dx, _, e1 _ _ hob, T.c_Run, T.na_Run_mixed, by show 7 < 1000; decide, ?_⟩)
    exact k _ (hR.ex e1).setr ((Fr.of e1).trans (Fr.upd (by simp)))
  · have e : come pl th s = s := by
      unfold come
      rw [hb]
      simp
    rw [e] at k
    exact k H1 (hR.ex e1) (Fr.of e1)
theorem ok_fresh : Fn_Run_fresh T P w base CX0 1 (spFresh K) := by
  refine T.F_Run_fresh.ok sc_Run_fresh (fun vs H Q E h => by obtain ⟨_, _, _, _, _, _, _, _, rfl, _⟩ := h; rfl) fun cdv A outer s0 H vs Q E hr h => ?_
  obtain ⟨r, nl, sl, ll, pw0, yw0, s, v, rfl, hR, hll, k⟩ := h
  refine ⟨_, (pss_cons (ps_expr (pe_bm PySem.F.plainAttrs_list PySem.F.slot_list_append PySem.F.type_list_append mt_append (kpe_fld K (pv 0)) (pa_cons (pv 1) pa_nil)))
  (pss_one (ps_ret (pe_op op_sub (pe_callB (kc_len K) rfl T.b_len PySem.boot_len (pa_cons (kpe_fld K (pv 0)) pa_nil)) pe_int)))), ?_⟩
  obtain ⟨dx, hob⟩ := hR.ob
  have hz : (nV s.nums).length < sizeLine := by
    simp only [nV, List.length_map]
    exact sz_lt (by unfold mostL at hll; omega)
  refine w_seq (w_appF rfl hob T.c_Run T.na_Run_numbers (by rfl) hR.nums (w_v rfl ⟨nV s.nums, hR.nums, hz, ?_⟩))
  have R2 := hR.addn (v := v)
  have hob2 : upd H nl (.lst (nV s.nums ++ [.int (v : Int)])) r = some (.ins (He.ga K "Run") dx (runFs pw0 yw0 nl sl ll s)) := by
    rw [upd_ne hR.ne.1]
    exact hob
  have hn2 : upd H nl (.lst (nV s.nums ++ [.int (v : Int)])) nl = some (.lst (nV s.nums ++ [.int (v : Int)])) := upd_same
  have hf2 : Fr [nl] H (upd H nl (.lst (nV s.nums ++ [.int (v : Int)]))) := Fr.upd (by simp)
  generalize upd H nl (.lst (nV s.nums ++ [.int (v : Int)])) = H2 at *
  dsimp only
  refine w_ret (w_d (K := K) (d := .int (s.nums.length : Int)) ?_ fun x H3 e3 t3 => ?_)
  · refine ed_is (ed_I0i (ed_lenV (ev_fld rfl hob2 T.c_Run T.na_Run_numbers (by rfl)) (SqL.of hn2)) ed_ci) ?_
    simp [nV]
  · cases t3
    exact k H3 (R2.ex e3) (hf2.trans (Fr.of e3))
end
end Hw

set_option maxRecDepth 100000
set_option maxHeartbeats 4000000
/-! RU3: roads and numbers by the program -/
namespace Hw
open PySem PySem.Spec PyProof.Rows L2 Evl
local macro_rules | `(tactic| walk_at "dd") => `(tactic| first | rfl | decide | (simp; done) | omega)
local macro_rules | `(tactic| walk_at "td") => `(tactic| first | assumption | exact Td.int _ | exact Td.bl _ | exact Td.str _ | exact Td.non | exact Td.tup (by assumption) (by assumption))
local macro_rules | `(tactic| walk_at "ev") => `(tactic| first
  | exact ed_ci | exact ed_cs | exact ed_cb | exact ed_cn
  | (apply ed_cg; assumption)
  | (apply ed_var; (rfl); (walk_at "td"))
  | (apply ed_ixT; (walk_at "ev"); (walk_at "ev"); (first | rfl | assumption))
  | (apply ed_rowI; (rfl); (assumption); (walk_at "ev"); (rfl))
  | (apply ed_ixL; (apply EvDL.rd; walk_at "edl"); (walk_at "ev"); (rfl))
  | (apply ed_intb; (walk_at "ev"))
  | (apply ed_len; walk_at "ev")
  | (apply ed_lenV; (apply ev_rowR; (rfl); (assumption); (walk_at "ev"); (rfl)); (assumption))
  | (apply ed_Ii; (walk_at "ev"); (walk_at "ev"); (walk_at "cc"))
  | (apply ed_isi; (walk_at "ev"); (rfl))
  | (apply ed_I0i; (walk_at "ev"); (walk_at "ev"))
  | (apply ed_I0b; (walk_at "ev"); (walk_at "ev"))
  | (apply ed_eqi; (walk_at "ev"); (walk_at "ev"))
  | (apply ed_nei; (walk_at "ev"); (walk_at "ev"))
  | (apply ed_andF; walk_at "ev")
  | (apply ed_andV; (walk_at "ev"); (intro _; walk_at "ev"))
  | (apply ed_orT; walk_at "ev")
  | (apply ed_orV; (walk_at "ev"); (intro _; walk_at "ev"))
  | (apply ed_notT; walk_at "ev")
  | (apply ed_notF; walk_at "ev")
  | (apply ed_notV; walk_at "ev")
  | (apply ed_chain; (walk_at "ev"); (walk_at "ev"); (intro _; walk_at "ev"))
  | (apply ed_eqS; (walk_at "ev"); (walk_at "ev"); (walk_at "bb"); (walk_at "bb"))
  | (apply ed_neS; (walk_at "ev"); (walk_at "ev"); (walk_at "bb"); (walk_at "bb"))
  | (apply ed_inT; (walk_at "ev"); (walk_at "ev"); (rfl); (rfl))
  | (apply ed_niT; (walk_at "ev"); (walk_at "ev"); (rfl); (rfl))
  | (apply ed_tup; (walk_at "eva"); (walk_at "bb"))
  | (apply ed_sl; (walk_at "ev"); (walk_at "evo"); (walk_at "evo"))
  | (apply ed_eqN; (apply EvDL.rd; walk_at "edl"); (walk_at "edl"); (walk_at "bb"))
  | (apply ed_neN; (apply EvDL.rd; walk_at "edl"); (walk_at "edl"); (walk_at "bb"))
  | (apply ed_ixL; (apply edr_var; (rfl); (assumption); (assumption)); (walk_at "ev"); (first | rfl | assumption))
  | (apply ed_lenL; (apply edr_var; (rfl); (assumption); (assumption)))
  | (apply ed_call; (walk_at "eva"); (walk_at "post")))
local macro_rules | `(tactic| walk_at "edl") => `(tactic| first
  | assumption
  | (apply edl_lst; (walk_at "eva"); (walk_at "bb")))
local macro_rules | `(tactic| walk_at "eva") => `(tactic| first
  | exact eda_nil
  | (apply eda_cons; (walk_at "ev"); (walk_at "eva")))
local macro_rules | `(tactic| walk_at "evo") => `(tactic| first
  | exact eok_none
  | (apply eok_some; walk_at "ev"))
local macro_rules | `(tactic| walk_at "bb") => `(tactic| first | rfl | assumption | (simp; done) | (simp; omega) | decide +kernel)
local macro_rules | `(tactic| walk_at "et") => `(tactic| first
  | exact tk_yes
  | (apply tk_andF; walk_at "et")
  | (apply tk_and; (walk_at "et"); (intro _; walk_at "et"))
  | (apply tk_orT; walk_at "et")
  | (apply tk_or; (walk_at "et"); (intro _; walk_at "et"))
  | (apply tk_notT; walk_at "et")
  | (apply tk_notF; walk_at "et")
  | (apply tk_not; walk_at "et")
  | (apply tk_v; walk_at "ev")
  | (apply tk_vB; walk_at "ev"))
local macro_rules | `(tactic| walk_at "if") => `(tactic| first
  | (apply pst_whenF; (walk_at "et"); (walk_at "bb"))
  | (apply pst_whenT; (walk_at "et"); (walk_at "bb")))
local macro_rules | `(tactic| walk_at "post") => `(tactic| first | assumption | exact ⟨_, _, rfl, rfl⟩ | exact ⟨_, _, _, _, rfl, by omega, by omega, rfl⟩ | exact ⟨_, _, _, 0, rfl, by omega, by omega, rfl⟩)
local macro_rules | `(tactic| walk_at "cc") => `(tactic| first | assumption | decide | omega | (refine ⟨?_, ?_⟩ <;> first | decide | omega) | (exact Or.inl (by constructor <;> omega)))

def encO : Option (Nat × List Nat) → PyData
  | none => .none
  | some (pl, th) => .tuple [.int (pl : Int), .tuple (nD th)]
/-- the run's own addresses -/
def sR (r nl sl ll : Addr) : List Addr := [r, nl, sl, ll]
def spFind (K : PySem.W.Frag) (n : Nat) : Sp := fun vs H Q _ => ∃ (r nl sl ll : Addr) (pw0 yw0 tv : V) (s s' : Sg) (t : Th) (fa : Addr) (f : Fra) (o : Option (Nat × List Nat)), vs = [.ref r, tv, .ref fa] ∧ RunAt K r nl sl ll pw0 yw0 s H ∧ s.lent.length ≤ mostL ∧ Td K H tv (encT t) ∧ PFra K (Ofs (sR r nl sl ll) H) fa f ∧ findF n t f s = some (o, s') ∧
  ∀ x H', RunAt K r nl sl ll pw0 yw0 s' H' → Fr [r] H H' → Td K H' x (encO o) → Q x H'
def spNum (K : PySem.W.Frag) (n : Nat) : Sp := fun vs H Q _ => ∃ (r nl sl ll : Addr) (pw0 yw0 tv : V) (s s' : Sg) (t : Th) (fa : Addr) (f : Fra) (v : Nat), vs = [.ref r, tv, .ref fa] ∧ RunAt K r nl sl ll pw0 yw0 s H ∧ s.lent.length ≤ mostL ∧ Td K H tv (encT t) ∧ PFra K (Ofs (sR r nl sl ll) H) fa f ∧ numF n t f s = some (v, s') ∧
  ∀ H', RunAt K r nl sl ll pw0 yw0 s' H' → Fr [r] H H' → Q (.int (v : Int)) H'
section
variable {K : PySem.W.Frag} {σ : L2.St} {H H' : Hp} {te : TE} {v : V} {Q : VK} {r nl sl ll fa : Addr} {f : Fra}
theorem w_ev (h : Ev te σ H v) (k : ∀ H1, Ex H H1 → Q v H1) : te σ H Q := h H (Ex.refl H) _ k
theorem Fr.r4 (h : Fr [r] H H') : Fr (sR r nl sl ll) H H' := h.sub (by simp [sR])
theorem PFra.fr (h : PFra K (Ofs (sR r nl sl ll) H) fa f) (e : Fr (sR r nl sl ll) H H') : PFra K (Ofs (sR r nl sl ll) H') fa f := h.ex (ofs_fr e)
end
/-! what a road or a number does to the state: only mixed may change -/
mutual
theorem findF_lent : ∀ {n : Nat} {t : Th} {f : Fra} {s s' : Sg} {o : Option (Nat × List Nat)}, findF n t f s = some (o, s') → s'.lent = s.lent ∧ s'.nums = s.nums ∧ s'.said = s.said ∧ s'.many = s.many
  | 0, t, f, s, s', o, h => by simp [findF] at h
  | n + 1, .cell t, f, s, s', o, h => by
    simp only [findF] at h
    cases h1 : numF n t f s with
    | none => rw [h1] at h; cases h
    | some x =>
      obtain ⟨v, s1⟩ := x
      rw [h1] at h
      cases h
      exact numF_lent h1
  | n + 1, .own k, f, s, s', o, h => by
    simp only [findF] at h
    split at h
    · cases h; exact ⟨rfl, rfl, rfl, rfl⟩
    · cases h
  | n + 1, .par k, f, s, s', o, h => by
    simp only [findF] at h
    split at h
    · cases h; exact ⟨rfl, rfl, rfl, rfl⟩
    · exact findF_lent h
    · cases h
  | n + 1, .num k, f, s, s', o, h => by simp only [findF] at h; cases h; exact ⟨rfl, rfl, rfl, rfl⟩
  | n + 1, .sum a b, f, s, s', o, h => by simp only [findF] at h; cases h; exact ⟨rfl, rfl, rfl, rfl⟩
theorem numF_lent : ∀ {n : Nat} {t : Th} {f : Fra} {s s' : Sg} {v : Nat}, numF n t f s = some (v, s') → s'.lent = s.lent ∧ s'.nums = s.nums ∧ s'.said = s.said ∧ s'.many = s.many
  | 0, t, f, s, s', v, h => by simp [numF] at h
  | n + 1, .num k, f, s, s', v, h => by simp only [numF] at h; cases h; exact ⟨rfl, rfl, rfl, rfl⟩
  | n + 1, .sum a b, f, s, s', v, h => by
    simp only [numF] at h
    split at h
    · rename_i x s1 h1
      split at h
      · rename_i y s2 h2
        cases h
        have a1 := numF_lent h1
        have a2 := numF_lent h2
        exact ⟨a2.1.trans a1.1, a2.2.1.trans a1.2.1, a2.2.2.1.trans a1.2.2.1, a2.2.2.2.trans a1.2.2.2⟩
      · cases h
    · cases h
  | n + 1, .cell t, f, s, s', v, h => by
    simp only [numF] at h
    split at h
    · rename_i pl th s1 h1
      split at h
      · cases h
        have a1 := findF_lent h1
        exact a1
      · cases h
    · cases h
  | n + 1, .own k, f, s, s', v, h => by
    simp only [numF] at h
    split at h
    · rename_i pl th s1 h1
      split at h
      · cases h
        have a1 := findF_lent h1
        exact a1
      · cases h
    · cases h
  | n + 1, .par k, f, s, s', v, h => by
    simp only [numF] at h
    split at h
    · rename_i pl th s1 h1
      split at h
      · cases h
        have a1 := findF_lent h1
        exact a1
      · cases h
    · rename_i s1 h1
      have a1 := findF_lent h1
      split at h
      · have a2 := numF_lent h
        exact ⟨a2.1.trans a1.1, a2.2.1.trans a1.2.1, a2.2.2.1.trans a1.2.2.1, a2.2.2.2.trans a1.2.2.2⟩
      · cases h
    · cases h
end
section
variable {P : Program} {w : World} {K : PySem.W.Frag} {mg : Str → Option Value} {base : Heap} (T : Tx K mg)
include T
theorem find_step {n : Nat} (GF : Fn_Run_find T P w base CX0 (n + 2) (spFind K n)) (GN : Fn_Run_number T P w base CX0 (n + 2) (spNum K n)) : Fn_Run_find T P w base CX0 (n + 3) (spFind K (n + 1)) := by
  have G_Run_find := GF
  have G_Run_number := GN
  refine T.F_Run_find.ok sc_Run_find (fun vs H Q E h => by obtain ⟨_, _, _, _, _, _, _, _, _, _, _, _, _, rfl, _⟩ := h; rfl) fun cdv A outer s0 H vs Q E hr h => ?_
  obtain ⟨r, nl, sl, ll, pw0, yw0, tv, s, s', t, fa, f, o, rfl, hR, hll, tt, hf, hF, k⟩ := h
  refine ⟨_, (pss_cons (ps_if (pt_cmpR (kop_eq K hr.units) (pe_ix (kix_tup K) (pv 1) pe_int (fun _ _ => rfl)) pe_str (nomark _))
    (pss_one (ps_ret (pe_tup (pa_cons (pe_meth (pv 0) T.c_Run T.m_Run_number G_Run_number (hr.mono (by omega)) T.bd_Run_number .nil pass0 (pa_cons (pe_ix (kix_tup K) (pv 1) pe_int (fun _ _ => rfl)) (pa_cons (pv 2) pa_nil))) (pa_cons (pe_tup pa_nil) pa_nil)))))
    pss_nil)
  (pss_cons (ps_if (pt_cmpR (kop_eq K hr.units) (pe_ix (kix_tup K) (pv 1) pe_int (fun _ _ => rfl)) pe_str (nomark _))
    (pss_one (ps_ret (pe_tup (pa_cons (pe_ix (kix_list K) (kpe_fld K (pv 2)) (pe_ix (kix_tup K) (pv 1) pe_int (fun _ _ => rfl)) (fun _ _ => rfl)) (pa_cons (pe_tup pa_nil) pa_nil)))))
    pss_nil)
  (pss_cons (ps_if (pt_cmpR (kop_ne K hr.units) (pe_ix (kix_tup K) (pv 1) pe_int (fun _ _ => rfl)) pe_str (nomark _))
    (pss_one (ps_ret pe_non))
    pss_nil)
  (pss_cons (ps_set (i := 3) sc_Run_find.nd rfl (Or.inl rfl) (pe_ix (kix_list K) (kpe_fld K (pv 2)) (pe_ix (kix_tup K) (pv 1) pe_int (fun _ _ => rfl)) (fun _ _ => rfl)))
  (pss_one (ps_ret (pe_ifExp (pt_cmp (pc_isN (kpe_fld K (pv 3))) rfl) (pe_meth (pv 0) T.c_Run T.m_Run_find G_Run_find (hr.mono (by omega)) T.bd_Run_find .nil pass0 (pa_cons (kpe_fld K (pv 3)) (pa_cons (kpe_fld K (pv 3)) pa_nil))) (pe_tup (pa_cons (kpe_fld K (pv 3)) (pa_cons (kpe_fld K (pv 3)) pa_nil)))))))))), ?_⟩
  refine Pst.go (K := K) ?_
  cases t with
  | cell t =>
    unfold encT at tt
    refine pst_whenT (b := true) ?_ rfl ?_
    · apply tk_is
      · walk_at "et"
      · simp
    refine pst_of fun H1 e1 => ?_
    have R1 := hR.ex e1
    obtain ⟨dx, hob⟩ := R1.ob
    replace tt := tt.ex e1
    simp only [findF] at hF
    cases h1 : numF n t f s with
    | none => rw [h1] at hF; cases hF
    | some x =>
      obtain ⟨v, s1⟩ := x
      rw [h1] at hF
      cases hF
      refine w_ret (w_tup (w_cons (w_meth rfl hob (by rfl) (w_cons (w_d (K := K) (d := encT t) ?_ fun v1 H2 e2 t2 => w_cons (w_v rfl (w_nil ?_)))))))
      · walk_at "ev"
      refine ⟨r, nl, sl, ll, pw0, yw0, v1, s, s', t, fa, f, v, rfl, R1.ex e2, hll, t2, hf.fr (Fr.of (e1.trans e2)), h1, fun H3 R3 f3 => ?_⟩
      refine w_cons (w_tup (w_nil ⟨by show 0 ≤ sizeLine; decide, fun p hp => w_nil ⟨by show 2 ≤ sizeLine; decide, fun q hq => ?_⟩⟩))
      refine k _ _ ((R3.ex (Ex.new hp)).ex (Ex.new hq)) ((((Fr.of (e1.trans e2)).trans f3).trans (Fr.of (Ex.new hp))).trans (Fr.of (Ex.new hq))) ?_
      exact td_new hq (tdall2 (.int _) (td_new hp .nil))
  | own i =>
    unfold encT at tt
    refine pst_whenF (b := false) ?_ rfl ?_
    · apply tk_is
      · walk_at "et"
      · simp
    refine pst_whenT (b := true) ?_ rfl ?_
    · apply tk_is
      · walk_at "et"
      · simp
    refine pst_of fun H1 e1 => ?_
    replace tt := tt.ex e1
    simp only [findF] at hF
    cases hf with
    | @mk _ dxf lo lp owns pars vs g1 g2 g3 g4 =>
      cases h1 : owns[i]? with
      | none => simp [Fra.owns, h1] at hF
      | some pl =>
        simp [Fra.owns, h1] at hF
        obtain ⟨rfl, rfl⟩ := hF
        have hfr := e1 _ _ (ofs_ex _ _ g1)
        have hlo := e1 _ _ (ofs_ex _ _ g2)
        refine w_ret (w_d (K := K) (d := encO (some (pl, []))) ?_ fun x H2 e2 t2 => k x H2 ((hR.ex e1).ex e2) (Fr.of (e1.trans e2)) t2)
        refine ed_tup (ds := [.int (pl : Int), .tuple []]) (eda_cons (ed_ixL (i := (i : Int)) (edr_fld rfl hfr T.c_Frame T.na_Frame_owns (by rfl) hlo (nV_td owns)) ?_ (atI_nat (by rw [nD, List.getElem?_map, h1] <;> rfl))) (eda_cons (ed_tup (ds := []) eda_nil (by simp)) eda_nil)) (by simp)
        walk_at "ev"
  | par i =>
    unfold encT at tt
    refine pst_whenF (b := false) ?_ rfl ?_
    · apply tk_is
      · walk_at "et"
      · simp
    refine pst_whenF (b := false) ?_ rfl ?_
    · apply tk_is
      · walk_at "et"
      · simp
    refine pst_whenF (b := false) ?_ rfl ?_
    · apply tk_is
      · walk_at "et"
      · simp
    refine pst_of fun H1 e1 => ?_
    have R1 := hR.ex e1
    obtain ⟨dx, hob⟩ := R1.ob
    replace tt := tt.ex e1
    simp only [findF] at hF
    cases hf with
    | @mk _ dxf lo lp owns pars vs g1 g2 g3 g4 =>
      have hfr := e1 _ _ (ofs_ex _ _ g1)
      have hlp := e1 _ _ (ofs_ex _ _ g3)
      cases hp : pars[i]? with
      | none => simp [Fra.pars, hp] at hF
      | some hd =>
        obtain ⟨u, hu, hhd⟩ := g4.get hp
        simp only [Fra.pars, hp] at hF
        refine w_seq (w_asg (w_ev (v := u) (ev_op (ev_fld rfl hfr T.c_Frame T.na_Frame_pars (by rfl)) (EvD.iv (K := K) (i := (i : Int)) ?_) (rv_ixL (SqL.of hlp) (atI_nat hu))) fun H2 e2 => ?_))
        · walk_at "ev"
        have R2 := R1.ex e2
        have e12 := e1.trans e2
        dsimp only
        cases hhd with
        | @road a dxl pl th vt q1 q2 =>
          cases hF
          have hl := e12 _ _ (ofs_ex _ _ q1)
          have q2' := q2.ex (ofs_ex.trans e12)
          refine w_ret (w_if (w_t (K := K) (b := false) (tk_is (tk_vB (ed_isN (ed_fld rfl hl T.c_Lent T.na_Lent_place (by rfl) (.int (pl : Int))))) rfl) fun H3 e3 => iteF (w_d (K := K) (d := encO (some (pl, th))) ?_ fun x H4 e4 t4 => k x H4 ((R2.ex e3).ex e4) (Fr.of ((e12.trans e3).trans e4)) t4)))
          have hl3 := e3 _ _ hl
          exact ed_tup (eda_cons (ed_fld rfl hl3 T.c_Lent T.na_Lent_place (by rfl) (.int (pl : Int))) (eda_cons (ed_fld rfl hl3 T.c_Lent T.na_Lent_through (by rfl) (q2'.ex e3)) eda_nil)) (by simp)
        | @want a dxl fa2 t2 f2 vt tv2 q1 q2 q3 =>
          have hl := e12 _ _ (ofs_ex _ _ q1)
          have q2' := q2.ex (ofs_ex.trans e12)
          refine w_ret (w_if (w_t (K := K) (b := true) (tk_is (tk_vB (ed_isN (ed_fld rfl hl T.c_Lent T.na_Lent_place (by rfl) .non))) rfl) fun H3 e3 => iteT ?_))
          have R3 := R2.ex e3
          obtain ⟨dx3, hob3⟩ := R3.ob
          have hl3 := e3 _ _ hl
          have e13 := e12.trans e3
          exact w_meth rfl hob3 (by rfl) (w_cons (w_fld rfl hl3 T.c_Lent T.na_Lent_thing (by rfl) (w_cons (w_fld rfl hl3 T.c_Lent T.na_Lent_frame (by rfl) (w_nil ⟨r, nl, sl, ll, pw0, yw0, tv2, s, s', t2, fa2, f2, o, rfl, R3, hll, q2'.ex e3, q3.ex (ofs_fr (Fr.of e13)), hF, fun x H4 R4 f4 t4 => k x H4 R4 ((Fr.of e13).trans f4) t4⟩)))))
  | num i =>
    unfold encT at tt
    refine pst_whenF (b := false) ?_ rfl ?_
    · apply tk_is
      · walk_at "et"
      · simp
    refine pst_whenF (b := false) ?_ rfl ?_
    · apply tk_is
      · walk_at "et"
      · simp
    refine pst_whenT (b := true) ?_ rfl ?_
    · apply tk_is
      · walk_at "et"
      · simp
    refine pst_of fun H1 e1 => ?_
    simp only [findF] at hF
    cases hF
    exact w_ret (w_c (k _ H1 (hR.ex e1) (Fr.of e1) .non))
  | sum a b =>
    unfold encT at tt
    refine pst_whenF (b := false) ?_ rfl ?_
    · apply tk_is
      · walk_at "et"
      · simp
    refine pst_whenF (b := false) ?_ rfl ?_
    · apply tk_is
      · walk_at "et"
      · simp
    refine pst_whenT (b := true) ?_ rfl ?_
    · apply tk_is
      · walk_at "et"
      · simp
    refine pst_of fun H1 e1 => ?_
    simp only [findF] at hF
    cases hF
    exact w_ret (w_c (k _ H1 (hR.ex e1) (Fr.of e1) .non))
theorem num_step {n : Nat} (GC : Fn_Run_come T P w base CX0 1 (spCome K)) (GF : Fn_Run_find T P w base CX0 (n + 2) (spFind K n)) (GN : Fn_Run_number T P w base CX0 (n + 2) (spNum K n)) : Fn_Run_number T P w base CX0 (n + 3) (spNum K (n + 1)) := by
  have G_Run_come := GC
  have G_Run_find := GF
  have G_Run_number := GN
  refine T.F_Run_number.ok sc_Run_number (fun vs H Q E h => by obtain ⟨_, _, _, _, _, _, _, _, _, _, _, _, _, rfl, _⟩ := h; rfl) fun cdv A outer s0 H vs Q E hr h => ?_
  obtain ⟨r, nl, sl, ll, pw0, yw0, tv, s, s', t, fa, f, v, rfl, hR, hll, tt, hf, hF, k⟩ := h
  refine ⟨_, (pss_cons (ps_if (pt_cmpR (kop_eq K hr.units) (pe_ix (kix_tup K) (pv 1) pe_int (fun _ _ => rfl)) pe_str (nomark _))
    (pss_one (ps_ret (pe_ix (kix_tup K) (pv 1) pe_int (fun _ _ => rfl))))
    pss_nil)
  (pss_cons (ps_if (pt_cmpR (kop_eq K hr.units) (pe_ix (kix_tup K) (pv 1) pe_int (fun _ _ => rfl)) pe_str (nomark _))
    (pss_one (ps_ret (pe_op op_modN (pe_op op_add (pe_meth (pv 0) T.c_Run T.m_Run_number G_Run_number (hr.mono (by omega)) T.bd_Run_number .nil pass0 (pa_cons (pe_ix (kix_tup K) (pv 1) pe_int (fun _ _ => rfl)) (pa_cons (pv 2) pa_nil))) (pe_meth (pv 0) T.c_Run T.m_Run_number G_Run_number (hr.mono (by omega)) T.bd_Run_number .nil pass0 (pa_cons (pe_ix (kix_tup K) (pv 1) pe_int (fun _ _ => rfl)) (pa_cons (pv 2) pa_nil)))) (pe_gint rfl T.g_NUMBERS))))
    pss_nil)
  (pss_cons (ps_set (i := 3) sc_Run_number.nd rfl (Or.inl rfl) (pe_meth (pv 0) T.c_Run T.m_Run_find G_Run_find (hr.mono (by omega)) T.bd_Run_find .nil pass0 (pa_cons (pv 1) (pa_cons (pv 2) pa_nil))))
  (pss_cons (ps_if (pt_cmp (pc_isN (pv 3)) rfl)
    (pss_cons (ps_set (i := 4) sc_Run_number.nd rfl (Or.inl rfl) (pe_ix (kix_list K) (kpe_fld K (pv 2)) (pe_ix (kix_tup K) (pv 1) pe_int (fun _ _ => rfl)) (fun _ _ => rfl)))
    (pss_one (ps_ret (pe_meth (pv 0) T.c_Run T.m_Run_number G_Run_number (hr.mono (by omega)) T.bd_Run_number .nil pass0 (pa_cons (kpe_fld K (pv 4)) (pa_cons (kpe_fld K (pv 4)) pa_nil))))))
    pss_nil)
  (pss_cons (ps_expr (pe_meth (pv 0) T.c_Run T.m_Run_come G_Run_come (hr.mono (by omega)) T.bd_Run_come .nil pass0 (pa_cons (pe_ix (kix_tup K) (pv 3) pe_int (fun _ _ => rfl)) (pa_cons (pe_ix (kix_tup K) (pv 3) pe_int (fun _ _ => rfl)) pa_nil))))
  (pss_one (ps_ret (pe_ix (kix_list K) (kpe_fld K (pv 0)) (pe_ix (kix_tup K) (pv 3) pe_int (fun _ _ => rfl)) (fun _ _ => rfl))))))))), ?_⟩
  have tt0 := tt
  refine Pst.go (K := K) ?_
  cases t with
  | num i =>
    unfold encT at tt
    refine pst_whenT (b := true) ?_ rfl ?_
    · apply tk_is
      · walk_at "et"
      · simp
    refine pst_of fun H1 e1 => ?_
    replace tt := tt.ex e1
    simp only [numF] at hF
    cases hF
    refine w_ret (w_d (K := K) (d := .int (v : Int)) ?_ fun v2 H2 e2 t2 => ?_)
    · walk_at "ev"
    · cases t2
      exact k H2 ((hR.ex e1).ex e2) (Fr.of (e1.trans e2))
  | sum a b =>
    unfold encT at tt
    refine pst_whenF (b := false) ?_ rfl ?_
    · apply tk_is
      · walk_at "et"
      · simp
    refine pst_whenT (b := true) ?_ rfl ?_
    · apply tk_is
      · walk_at "et"
      · simp
    refine pst_of fun H1 e1 => ?_
    have R1 := hR.ex e1
    obtain ⟨dx, hob⟩ := R1.ob
    replace tt := tt.ex e1
    simp only [numF] at hF
    cases h1 : numF n a f s with
    | none => rw [h1] at hF; cases hF
    | some x =>
      obtain ⟨va, s1⟩ := x
      rw [h1] at hF
      dsimp only at hF
      cases h2 : numF n b f s1 with
      | none => rw [h2] at hF; cases hF
      | some y =>
        obtain ⟨vb, s2⟩ := y
        rw [h2] at hF
        cases hF
        refine w_ret (w_op (w_op (w_meth rfl hob (by rfl) (w_cons (w_d (K := K) (d := encT a) ?_ fun v1 H2 e2 t2 => ?_)))))
        · walk_at "ev"
        refine w_cons (w_v rfl (w_nil ⟨r, nl, sl, ll, pw0, yw0, v1, s, s1, a, fa, f, va, rfl, R1.ex e2, hll, t2, hf.fr (Fr.of (e1.trans e2)), h1, fun H3 R3 f3 => ?_⟩))
        obtain ⟨dx3, hob3⟩ := R3.ob
        have k13 : Keep K H1 H3 := (ex_keep e2).trans ((R1.ex e2).keep1 f3)
        have tt3 := tt.kp k13
        have fr3 : Fr [r] H H3 := (Fr.of (e1.trans e2)).trans f3
        refine w_meth rfl hob3 (by rfl) (w_cons (w_d (K := K) (d := encT b) ?_ fun v4 H4 e4 t4 => w_cons (w_v rfl (w_nil ⟨r, nl, sl, ll, pw0, yw0, v4, s1, s', b, fa, f, vb, rfl, R3.ex e4, by rw [(numF_lent h1).1]; exact hll, t4, hf.fr ((fr3.trans (Fr.of e4)).r4), h2, fun H5 R5 f5 => ?_⟩))))
        · walk_at "ev"
        refine ⟨_, _, rfl, rfl, w_c ⟨_, _, rfl, rfl, (by show (3 : Int) ≠ 0; decide), ?_⟩⟩
        have e : Int.fmod ((va : Int) + (vb : Int)) 3 = (((va + vb) % 3 : Nat) : Int) := by
          rw [Int.fmod_eq_emod_of_nonneg _ (by decide)]
          omega
        show Q (.int (Int.fmod ((va : Int) + (vb : Int)) 3)) H5
        rw [e]
        exact k H5 R5 ((fr3.trans (Fr.of e4)).trans f5)
  | cell i =>
    unfold encT at tt
    refine pst_whenF (b := false) ?_ rfl ?_
    · apply tk_is
      · walk_at "et"
      · simp
    refine pst_whenF (b := false) ?_ rfl ?_
    · apply tk_is
      · walk_at "et"
      · simp
    refine pst_of fun H1 e1 => ?_
    have R1 := hR.ex e1
    obtain ⟨dx, hob⟩ := R1.ob
    replace tt0 := tt0.ex e1
    simp only [numF] at hF
    cases h1 : findF n (.cell i) f s with
    | none => rw [h1] at hF; cases hF
    | some x =>
      obtain ⟨o, s1⟩ := x
      rw [h1] at hF
      cases o with
      | none => cases hF
      | some pt =>
        obtain ⟨pl, th⟩ := pt
        dsimp only at hF
        cases h2 : (come pl th s1).nums[pl]? with
        | none => rw [h2] at hF; cases hF
        | some v2 =>
          rw [h2] at hF
          cases hF
          refine w_seq (w_asg (w_meth rfl hob (by rfl) (w_cons (w_v rfl (w_cons (w_v rfl (w_nil ⟨r, nl, sl, ll, pw0, yw0, tv, s, s1, (.cell i), fa, f, some (pl, th), rfl, R1, hll, tt0, hf.fr (Fr.of e1), h1, fun x H2 R2 f2 t2 => ?_⟩)))))))
          dsimp only
          refine Pst.go (K := K) ?_
          refine pst_whenF (b := false) (tk_is (tk_vB (ed_isN (ed_var rfl t2))) rfl) rfl ?_
          refine pst_of fun H3 e3 => ?_
          have R3 := R2.ex e3
          obtain ⟨dx3, hob3⟩ := R3.ob
          have t3 := t2.ex e3
          unfold encO at t3
          refine w_seq (w_drop (w_meth rfl hob3 (by rfl) (w_cons (w_d (K := K) (d := .int (pl : Int)) ?_ fun v4 H4 e4 t4 => w_cons (w_d (K := K) (d := .tuple (nD th)) ?_ fun v5 H5 e5 t5 => w_nil ?_)))))
          · walk_at "ev"
          · exact ed_ixT (i := 1) (ed_var rfl (t3.ex e4)) ed_ci rfl
          cases t4
          refine ⟨r, nl, sl, ll, pw0, yw0, v5, s1, pl, th, rfl, R3.ex (e4.trans e5), by rw [(findF_lent h1).1]; exact hll, t5, fun H6 R6 f6 => ?_⟩
          obtain ⟨dx6, hob6⟩ := R6.ob
          have k36 : Keep K H3 H6 := (ex_keep (e4.trans e5)).trans ((R3.ex (e4.trans e5)).keep1 f6)
          have t6 := t3.kp k36
          dsimp only
          refine w_ret (w_d (K := K) (d := .int (v : Int)) ?_ fun v7 H7 e7 t7 => ?_)
          · refine ed_ixL (i := (pl : Int)) (edr_fld rfl hob6 T.c_Run T.na_Run_numbers (by rfl) R6.nums (nV_td _)) ?_ (atI_nat (by rw [nD, List.getElem?_map, h2] <;> rfl))
            walk_at "ev"
          · cases t7
            exact k H7 (R6.ex e7) (((((Fr.of e1).trans f2).trans (Fr.of ((e3.trans e4).trans e5))).trans f6).trans (Fr.of e7))
  | own i =>
    unfold encT at tt
    refine pst_whenF (b := false) ?_ rfl ?_
    · apply tk_is
      · walk_at "et"
      · simp
    refine pst_whenF (b := false) ?_ rfl ?_
    · apply tk_is
      · walk_at "et"
      · simp
    refine pst_of fun H1 e1 => ?_
    have R1 := hR.ex e1
    obtain ⟨dx, hob⟩ := R1.ob
    replace tt0 := tt0.ex e1
    simp only [numF] at hF
    cases h1 : findF n (.own i) f s with
    | none => rw [h1] at hF; cases hF
    | some x =>
      obtain ⟨o, s1⟩ := x
      rw [h1] at hF
      cases o with
      | none => cases hF
      | some pt =>
        obtain ⟨pl, th⟩ := pt
        dsimp only at hF
        cases h2 : (come pl th s1).nums[pl]? with
        | none => rw [h2] at hF; cases hF
        | some v2 =>
          rw [h2] at hF
          cases hF
          refine w_seq (w_asg (w_meth rfl hob (by rfl) (w_cons (w_v rfl (w_cons (w_v rfl (w_nil ⟨r, nl, sl, ll, pw0, yw0, tv, s, s1, (.own i), fa, f, some (pl, th), rfl, R1, hll, tt0, hf.fr (Fr.of e1), h1, fun x H2 R2 f2 t2 => ?_⟩)))))))
          dsimp only
          refine Pst.go (K := K) ?_
          refine pst_whenF (b := false) (tk_is (tk_vB (ed_isN (ed_var rfl t2))) rfl) rfl ?_
          refine pst_of fun H3 e3 => ?_
          have R3 := R2.ex e3
          obtain ⟨dx3, hob3⟩ := R3.ob
          have t3 := t2.ex e3
          unfold encO at t3
          refine w_seq (w_drop (w_meth rfl hob3 (by rfl) (w_cons (w_d (K := K) (d := .int (pl : Int)) ?_ fun v4 H4 e4 t4 => w_cons (w_d (K := K) (d := .tuple (nD th)) ?_ fun v5 H5 e5 t5 => w_nil ?_)))))
          · walk_at "ev"
          · exact ed_ixT (i := 1) (ed_var rfl (t3.ex e4)) ed_ci rfl
          cases t4
          refine ⟨r, nl, sl, ll, pw0, yw0, v5, s1, pl, th, rfl, R3.ex (e4.trans e5), by rw [(findF_lent h1).1]; exact hll, t5, fun H6 R6 f6 => ?_⟩
          obtain ⟨dx6, hob6⟩ := R6.ob
          have k36 : Keep K H3 H6 := (ex_keep (e4.trans e5)).trans ((R3.ex (e4.trans e5)).keep1 f6)
          have t6 := t3.kp k36
          dsimp only
          refine w_ret (w_d (K := K) (d := .int (v : Int)) ?_ fun v7 H7 e7 t7 => ?_)
          · refine ed_ixL (i := (pl : Int)) (edr_fld rfl hob6 T.c_Run T.na_Run_numbers (by rfl) R6.nums (nV_td _)) ?_ (atI_nat (by rw [nD, List.getElem?_map, h2] <;> rfl))
            walk_at "ev"
          · cases t7
            exact k H7 (R6.ex e7) (((((Fr.of e1).trans f2).trans (Fr.of ((e3.trans e4).trans e5))).trans f6).trans (Fr.of e7))
  | par i =>
    unfold encT at tt
    refine pst_whenF (b := false) ?_ rfl ?_
    · apply tk_is
      · walk_at "et"
      · simp
    refine pst_whenF (b := false) ?_ rfl ?_
    · apply tk_is
      · walk_at "et"
      · simp
    refine pst_of fun H1 e1 => ?_
    have R1 := hR.ex e1
    obtain ⟨dx, hob⟩ := R1.ob
    replace tt0 := tt0.ex e1
    simp only [numF] at hF
    cases h1 : findF n (.par i) f s with
    | none => rw [h1] at hF; cases hF
    | some x =>
      obtain ⟨o, s1⟩ := x
      rw [h1] at hF
      cases o with
      | none =>
        refine w_seq (w_asg (w_meth rfl hob (by rfl) (w_cons (w_v rfl (w_cons (w_v rfl (w_nil ⟨r, nl, sl, ll, pw0, yw0, tv, s, s1, (.par i), fa, f, none, rfl, R1, hll, tt0, hf.fr (Fr.of e1).r4, h1, fun x H2 R2 f2 t2 => ?_⟩)))))))
        dsimp only at hF ⊢
        have tt2 := (tt.ex e1).kp (R1.keep1 f2)
        refine Pst.go (K := K) ?_
        refine pst_whenT (b := true) (tk_is (tk_vB (ed_isN (ed_var rfl t2))) rfl) rfl ?_
        refine pst_of fun H3 e3 => ?_
        have R3 := R2.ex e3
        have tt3 := tt2.ex e3
        have fr3 : Fr [r] H H3 := ((Fr.of e1).trans f2).trans (Fr.of e3)
        have hf3 := hf.fr (fr3.r4)
        cases hf3 with
        | @mk _ dxf lo lp owns pars vs g1 g2 g3 g4 =>
          have hfr := ofs_ex _ _ g1
          have hlp := ofs_ex _ _ g3
          cases hp : pars[i]? with
          | none => simp [Fra.pars, hp] at hF
          | some hd =>
            obtain ⟨u, hu, hhd⟩ := g4.get hp
            simp only [Fra.pars, hp] at hF
            cases hhd with
            | @road a dxl pl th vt q1 q2 => simp at hF
            | @want a dxl fa2 t2' f2' vt tv2 q1 q2 q3 =>
              simp only at hF
              refine w_seq (w_asg (w_ev (v := .ref a) (ev_op (ev_fld rfl hfr T.c_Frame T.na_Frame_pars (by rfl)) (EvD.iv (K := K) (i := (i : Int)) ?_) (rv_ixL (SqL.of hlp) (atI_nat hu))) fun H4 e4 => ?_))
              · walk_at "ev"
              have R4 := R3.ex e4
              obtain ⟨dx4, hob4⟩ := R4.ob
              have hl := e4 _ _ (ofs_ex _ _ q1)
              dsimp only
              exact w_ret (w_meth rfl hob4 (by rfl) (w_cons (w_fld rfl hl T.c_Lent T.na_Lent_thing (by rfl) (w_cons (w_fld rfl hl T.c_Lent T.na_Lent_frame (by rfl) (w_nil ⟨r, nl, sl, ll, pw0, yw0, tv2, s1, s', t2', fa2, f2', v, rfl, R4, by rw [(findF_lent h1).1]; exact hll, (q2.ex ofs_ex).ex e4, q3.ex (ofs_fr (Fr.of e4)), hF, fun H5 R5 f5 => k H5 R5 ((fr3.trans (Fr.of e4)).trans f5)⟩))))))
      | some pt =>
        obtain ⟨pl, th⟩ := pt
        dsimp only at hF
        cases h2 : (come pl th s1).nums[pl]? with
        | none => rw [h2] at hF; cases hF
        | some v2 =>
          rw [h2] at hF
          cases hF
          refine w_seq (w_asg (w_meth rfl hob (by rfl) (w_cons (w_v rfl (w_cons (w_v rfl (w_nil ⟨r, nl, sl, ll, pw0, yw0, tv, s, s1, (.par i), fa, f, some (pl, th), rfl, R1, hll, tt0, hf.fr (Fr.of e1), h1, fun x H2 R2 f2 t2 => ?_⟩)))))))
          dsimp only
          refine Pst.go (K := K) ?_
          refine pst_whenF (b := false) (tk_is (tk_vB (ed_isN (ed_var rfl t2))) rfl) rfl ?_
          refine pst_of fun H3 e3 => ?_
          have R3 := R2.ex e3
          obtain ⟨dx3, hob3⟩ := R3.ob
          have t3 := t2.ex e3
          unfold encO at t3
          refine w_seq (w_drop (w_meth rfl hob3 (by rfl) (w_cons (w_d (K := K) (d := .int (pl : Int)) ?_ fun v4 H4 e4 t4 => w_cons (w_d (K := K) (d := .tuple (nD th)) ?_ fun v5 H5 e5 t5 => w_nil ?_)))))
          · walk_at "ev"
          · exact ed_ixT (i := 1) (ed_var rfl (t3.ex e4)) ed_ci rfl
          cases t4
          refine ⟨r, nl, sl, ll, pw0, yw0, v5, s1, pl, th, rfl, R3.ex (e4.trans e5), by rw [(findF_lent h1).1]; exact hll, t5, fun H6 R6 f6 => ?_⟩
          obtain ⟨dx6, hob6⟩ := R6.ob
          have k36 : Keep K H3 H6 := (ex_keep (e4.trans e5)).trans ((R3.ex (e4.trans e5)).keep1 f6)
          have t6 := t3.kp k36
          dsimp only
          refine w_ret (w_d (K := K) (d := .int (v : Int)) ?_ fun v7 H7 e7 t7 => ?_)
          · refine ed_ixL (i := (pl : Int)) (edr_fld rfl hob6 T.c_Run T.na_Run_numbers (by rfl) R6.nums (nV_td _)) ?_ (atI_nat (by rw [nD, List.getElem?_map, h2] <;> rfl))
            walk_at "ev"
          · cases t7
            exact k H7 (R6.ex e7) (((((Fr.of e1).trans f2).trans (Fr.of ((e3.trans e4).trans e5))).trans f6).trans (Fr.of e7))
end
end Hw

set_option maxRecDepth 100000
set_option maxHeartbeats 4000000
/-! RU4: frames, things lent; what is put, own cells -/
namespace Hw
open PySem PySem.Spec PyProof.Rows L2 Evl
local macro_rules | `(tactic| walk_at "dd") => `(tactic| first | rfl | decide | (simp; done) | omega)
local macro_rules | `(tactic| walk_at "td") => `(tactic| first | assumption | exact Td.int _ | exact Td.bl _ | exact Td.str _ | exact Td.non | exact Td.tup (by assumption) (by assumption))
local macro_rules | `(tactic| walk_at "ev") => `(tactic| first
  | exact ed_ci | exact ed_cs | exact ed_cb | exact ed_cn
  | (apply ed_cg; assumption)
  | (apply ed_var; (rfl); (walk_at "td"))
  | (apply ed_ixT; (walk_at "ev"); (walk_at "ev"); (first | rfl | assumption))
  | (apply ed_rowI; (rfl); (assumption); (walk_at "ev"); (rfl))
  | (apply ed_ixL; (apply EvDL.rd; walk_at "edl"); (walk_at "ev"); (rfl))
  | (apply ed_intb; (walk_at "ev"))
  | (apply ed_len; walk_at "ev")
  | (apply ed_lenV; (apply ev_rowR; (rfl); (assumption); (walk_at "ev"); (rfl)); (assumption))
  | (apply ed_Ii; (walk_at "ev"); (walk_at "ev"); (walk_at "cc"))
  | (apply ed_isi; (walk_at "ev"); (rfl))
  | (apply ed_I0i; (walk_at "ev"); (walk_at "ev"))
  | (apply ed_I0b; (walk_at "ev"); (walk_at "ev"))
  | (apply ed_eqi; (walk_at "ev"); (walk_at "ev"))
  | (apply ed_nei; (walk_at "ev"); (walk_at "ev"))
  | (apply ed_andF; walk_at "ev")
  | (apply ed_andV; (walk_at "ev"); (intro _; walk_at "ev"))
  | (apply ed_orT; walk_at "ev")
  | (apply ed_orV; (walk_at "ev"); (intro _; walk_at "ev"))
  | (apply ed_notT; walk_at "ev")
  | (apply ed_notF; walk_at "ev")
  | (apply ed_notV; walk_at "ev")
  | (apply ed_chain; (walk_at "ev"); (walk_at "ev"); (intro _; walk_at "ev"))
  | (apply ed_eqS; (walk_at "ev"); (walk_at "ev"); (walk_at "bb"); (walk_at "bb"))
  | (apply ed_neS; (walk_at "ev"); (walk_at "ev"); (walk_at "bb"); (walk_at "bb"))
  | (apply ed_inT; (walk_at "ev"); (walk_at "ev"); (rfl); (rfl))
  | (apply ed_niT; (walk_at "ev"); (walk_at "ev"); (rfl); (rfl))
  | (apply ed_tup; (walk_at "eva"); (walk_at "bb"))
  | (apply ed_sl; (walk_at "ev"); (walk_at "evo"); (walk_at "evo"))
  | (apply ed_eqN; (apply EvDL.rd; walk_at "edl"); (walk_at "edl"); (walk_at "bb"))
  | (apply ed_neN; (apply EvDL.rd; walk_at "edl"); (walk_at "edl"); (walk_at "bb"))
  | (apply ed_ixL; (apply edr_var; (rfl); (assumption); (assumption)); (walk_at "ev"); (first | rfl | assumption))
  | (apply ed_lenL; (apply edr_var; (rfl); (assumption); (assumption)))
  | (apply ed_call; (walk_at "eva"); (walk_at "post")))
local macro_rules | `(tactic| walk_at "edl") => `(tactic| first
  | assumption
  | (apply edl_lst; (walk_at "eva"); (walk_at "bb")))
local macro_rules | `(tactic| walk_at "eva") => `(tactic| first
  | exact eda_nil
  | (apply eda_cons; (walk_at "ev"); (walk_at "eva")))
local macro_rules | `(tactic| walk_at "evo") => `(tactic| first
  | exact eok_none
  | (apply eok_some; walk_at "ev"))
local macro_rules | `(tactic| walk_at "bb") => `(tactic| first | rfl | assumption | (simp; done) | (simp; omega) | decide +kernel)
local macro_rules | `(tactic| walk_at "et") => `(tactic| first
  | exact tk_yes
  | (apply tk_andF; walk_at "et")
  | (apply tk_and; (walk_at "et"); (intro _; walk_at "et"))
  | (apply tk_orT; walk_at "et")
  | (apply tk_or; (walk_at "et"); (intro _; walk_at "et"))
  | (apply tk_notT; walk_at "et")
  | (apply tk_notF; walk_at "et")
  | (apply tk_not; walk_at "et")
  | (apply tk_v; walk_at "ev")
  | (apply tk_vB; walk_at "ev"))
local macro_rules | `(tactic| walk_at "if") => `(tactic| first
  | (apply pst_whenF; (walk_at "et"); (walk_at "bb"))
  | (apply pst_whenT; (walk_at "et"); (walk_at "bb")))
local macro_rules | `(tactic| walk_at "post") => `(tactic| first | assumption | exact ⟨_, _, rfl, rfl⟩ | exact ⟨_, _, _, _, rfl, by omega, by omega, rfl⟩ | exact ⟨_, _, _, 0, rfl, by omega, by omega, rfl⟩)
local macro_rules | `(tactic| walk_at "cc") => `(tactic| first | assumption | decide | omega | (refine ⟨?_, ?_⟩ <;> first | decide | omega) | (exact Or.inl (by constructor <;> omega)))

/-- Frame.__init__ -/
def spFrI (K : PySem.W.Frag) : Sp := fun vs H Q _ => ∃ (x dx : Addr), vs = [.ref x] ∧ H x = some (.ins (He.ga K "Frame") dx []) ∧ ∀ lo lp H', H lo = none → H lp = none → lo ≠ lp → (∀ q o, q ≠ x → H q = some o → H' q = some o) → H' x = some (.ins (He.ga K "Frame") dx [("owns", .ref lo), ("pars", .ref lp)]) → H' lo = some (.lst []) → H' lp = some (.lst []) → Q .non H'
/-- Lent.__init__ -/
def spLeI (K : PySem.W.Frag) : Sp := fun vs H Q _ => ∃ (x dx : Addr) (a b c d : V), vs = [.ref x, a, b, c, d] ∧ H x = some (.ins (He.ga K "Lent") dx []) ∧ ∀ H', (∀ q o, q ≠ x → H q = some o → H' q = some o) → H' x = some (.ins (He.ga K "Lent") dx [("place", a), ("through", b), ("thing", c), ("frame", d)]) → Q .non H'
def putO : Option (Nat × List Nat) → Nat → Sg → Option Sg
  | none, _, s => some s
  | some (pl, th), v, s => if pl < (come pl th s).nums.length then some { come pl th s with nums := (come pl th s).nums.set pl v } else none
def spPut (K : PySem.W.Frag) (M : Nat) : Sp := fun vs H Q _ => ∃ (r nl sl ll : Addr) (pw0 yw0 tv : V) (s s1 : Sg) (t : Th) (fa : Addr) (f : Fra) (o : Option (Nat × List Nat)) (v : Nat), vs = [.ref r, tv, .int (v : Int), .ref fa] ∧ RunAt K r nl sl ll pw0 yw0 s H ∧ s.lent.length ≤ mostL ∧ Td K H tv (encT t) ∧ PFra K (Ofs (sR r nl sl ll) H) fa f ∧ findF M t f s = some (o, s1) ∧ (putO o v s1).isSome = true ∧
  ∀ s' H', putO o v s1 = some s' → RunAt K r nl sl ll pw0 yw0 s' H' → Fr [r, nl] H H' → Q .non H'
section
variable {K : PySem.W.Frag} {σ : L2.St} {H H' : Hp} {D : Ends} {tu tz : TS} {te tl ta tb : TE} {t : TA} {Q : VK} {E : XK}
theorem w_mk {C : Addr} {sp : Sp} {dvs : List V} (h : t σ H fun vs H1 => ∀ x dx, H1 x = none → H1 dx = none → dx ≠ x → sp (.ref x :: (vs ++ dvs)) (upd (upd H1 dx (.own x)) x (.ins C dx [])) (fun v H2 => v = .non ∧ Q (.ref x) H2) E) : tMake C sp dvs E t σ H Q := h
theorem mkLent_go {a b c d : V} {R : Addr → Hp → Prop} (h : ∀ x dx H2, H x = none → Ex H H2 → H2 x = some (.ins (He.ga K "Lent") dx [("place", a), ("through", b), ("thing", c), ("frame", d)]) → R x H2) :
    ∀ x dx, H x = none → H dx = none → dx ≠ x → spLeI K (.ref x :: ([a, b, c, d] ++ [])) (upd (upd H dx (.own x)) x (.ins (He.ga K "Lent") dx [])) (fun v H2 => v = .non ∧ R x H2) E := fun x dx hx hdx hne => by
  refine ⟨x, dx, a, b, c, d, rfl, upd_same, fun H' h1 h2 => ⟨rfl, h x dx H' hx (fun q o hq => ?_) h2⟩⟩
  have n1 : q ≠ x := fun e => by rw [e, hx] at hq; cases hq
  have n2 : q ≠ dx := fun e => by rw [e, hdx] at hq; cases hq
  exact h1 q o n1 (by rw [upd_ne n1, upd_ne n2]; exact hq)
theorem mkFrame_go {R : Addr → Hp → Prop} (h : ∀ x dx lo lp H2, H x = none → H lo = none → H lp = none → lo ≠ lp → Ex H H2 → H2 x = some (.ins (He.ga K "Frame") dx [("owns", .ref lo), ("pars", .ref lp)]) → H2 lo = some (.lst []) → H2 lp = some (.lst []) → R x H2) :
    ∀ x dx, H x = none → H dx = none → dx ≠ x → spFrI K (.ref x :: ([] ++ [])) (upd (upd H dx (.own x)) x (.ins (He.ga K "Frame") dx [])) (fun v H2 => v = .non ∧ R x H2) E := fun x dx hx hdx hne => by
  refine ⟨x, dx, rfl, upd_same, fun lo lp H' hlo hlp hll h1 h2 h3 h4 => ⟨rfl, h x dx lo lp H' hx ?_ ?_ hll (fun q o hq => ?_) h2 h3 h4⟩⟩
  · have n1 : lo ≠ x := fun e => by rw [e, upd_same] at hlo; cases hlo
    have n2 : lo ≠ dx := fun e => by rw [e, upd_ne hne, upd_same] at hlo; cases hlo
    rw [upd_ne n1, upd_ne n2] at hlo
    exact hlo
  · have n1 : lp ≠ x := fun e => by rw [e, upd_same] at hlp; cases hlp
    have n2 : lp ≠ dx := fun e => by rw [e, upd_ne hne, upd_same] at hlp; cases hlp
    rw [upd_ne n1, upd_ne n2] at hlp
    exact hlp
  · have n1 : q ≠ x := fun e => by rw [e, hx] at hq; cases hq
    have n2 : q ≠ dx := fun e => by rw [e, hdx] at hq; cases hq
    exact h1 q o n1 (by rw [upd_ne n1, upd_ne n2]; exact hq)
/-- a number of the run's changes -/
theorem RunAt.setn {r nl sl ll : Addr} {pw0 yw0 : V} {s : Sg} {v pl : Nat} (h : RunAt K r nl sl ll pw0 yw0 s H) : RunAt K r nl sl ll pw0 yw0 { s with nums := s.nums.set pl v } (upd H nl (.lst ((nV s.nums).set pl (.int (v : Int))))) := by
  obtain ⟨dx, h1⟩ := h.ob
  obtain ⟨vs, h2, h3⟩ := h.lent
  obtain ⟨n1, n2, n3⟩ := h.ne
  exact ⟨⟨dx, by rw [upd_ne n1]; exact h1⟩, by rw [upd_same]; simp [nV, List.map_set], by rw [upd_ne (Ne.symm h.d1)]; exact h.said, ⟨vs, by rw [upd_ne (Ne.symm h.d2)]; exact h2, h3.kp (Keep.upd h.nums True.intro)⟩, h.d1, h.d2, h.d3⟩
/-- o.f[i] = e -/
theorem w_asgG {g : TG} (h : te σ H fun v H1 => g v σ H1 D.nx) : tAsg te g D σ H := h
theorem gsub_go {C a dx l : Addr} {fs : List (Str × V)} {f : Str} {n i : Nat} {v : V} {R : L2.St → Hp → Prop} (hs : σ[n]? = some (some (.ref a))) (ha : H a = some (.ins C dx fs)) (c : Cls K C) (na : NoAttr K C f) (hf : fs.lookup f = some (.ref l)) (hi : EvD K tb σ H (.int (i : Int)))
    (k : ∀ H1, Ex H H1 → ∃ xs, H1 l = some (.lst xs) ∧ i < xs.length ∧ R σ (upd H1 l (.lst (xs.set i v)))) : gSub (tFld K (tVar n) f) tb rSetL v σ H R :=
  ⟨.ref a, hs, a, C, dx, fs, .ref l, rfl, ha, c, na, hf, hi.iv H (Ex.refl H) _ fun H1 e => by
    obtain ⟨xs, h1, h2, h3⟩ := k H1 e
    refine ⟨l, xs, (i : Int), i, rfl, rfl, h1, ?_, h3⟩
    unfold ixN
    simp
    omega⟩
end
section
variable {P : Program} {w : World} {K : PySem.W.Frag} {mg : Str → Option Value} {base : Heap} (T : Tx K mg)
include T
theorem ok_fn : ∀ n : Nat, Fn_Run_find T P w base CX0 (n + 2) (spFind K n) ∧ Fn_Run_number T P w base CX0 (n + 2) (spNum K n)
  | 0 => ⟨fn_vac fun vs H Q E h => by obtain ⟨r, nl, sl, ll, pw0, yw0, tv, s, s', t, fa, f, o, _, _, _, _, _, h, _⟩ := h; simp [findF] at h, fn_vac fun vs H Q E h => by obtain ⟨r, nl, sl, ll, pw0, yw0, tv, s, s', t, fa, f, o, _, _, _, _, _, h, _⟩ := h; simp [numF] at h⟩
  | n + 1 => ⟨find_step T (ok_fn n).1 (ok_fn n).2, num_step T (ok_come T) (ok_fn n).1 (ok_fn n).2⟩
theorem ok_frI {k : Nat} : Fn_Frame___init__ T P w base CX0 (k + 1) (spFrI K) := by
  refine T.F_Frame___init__.ok sc_Frame___init__ (fun vs H Q E h => by obtain ⟨_, _, rfl, _⟩ := h; rfl) fun cdv A outer s0 H vs Q E hr h => ?_
  obtain ⟨x, dx, rfl, hx, k⟩ := h
  refine ⟨_, (pss_cons (ps_fld (pv 0) (pe_lst pa_nil) rfl)
  (pss_one (ps_fld (pv 0) (pe_lst pa_nil) rfl))), ?_⟩
  refine w_seq (w_setf rfl (w_lst (w_nil ⟨Nat.zero_le _, fun lo hlo => ⟨_, dx, [], Ex.new hlo _ _ hx, T.c_Frame, T.na_Frame_owns, by decide, ?_⟩⟩)))
  have nx : x ≠ lo := by
    intro e
    rw [e, hlo] at hx
    cases hx
  dsimp only
  refine w_setf rfl (w_lst (w_nil ⟨Nat.zero_le _, fun lp hlp => ⟨_, dx, [("owns", .ref lo)], ?_, T.c_Frame, T.na_Frame_pars, by show 1 < 1000; decide, ?_⟩⟩))
  · rw [upd_ne (ne_of_none upd_same hlp)]
    exact upd_same
  have npx : lp ≠ x := fun e => by rw [e, upd_same] at hlp; cases hlp
  have npl : lp ≠ lo := fun e => by rw [e, upd_ne (Ne.symm nx), upd_same] at hlp; cases hlp
  have hlp0 : H lp = none := by
    rw [upd_ne npx, upd_ne npl] at hlp
    exact hlp
  refine k lo lp _ hlo hlp0 (Ne.symm npl) (fun q o hq h => ?_) upd_same ?_ ?_
  · have h1 : q ≠ lp := fun e => by rw [e, hlp0] at h; cases h
    have h2 : q ≠ lo := fun e => by rw [e, hlo] at h; cases h
    rw [upd_ne hq, upd_ne h1, upd_ne hq, upd_ne h2]
    exact h
  · rw [upd_ne (Ne.symm nx), upd_ne (Ne.symm npl), upd_ne (Ne.symm nx), upd_same]
  · rw [upd_ne npx, upd_same]
theorem ok_leI {k : Nat} : Fn_Lent___init__ T P w base CX0 (k + 1) (spLeI K) := by
  refine T.F_Lent___init__.ok sc_Lent___init__ (fun vs H Q E h => by obtain ⟨_, _, _, _, _, _, rfl, _⟩ := h; rfl) fun cdv A outer s0 H vs Q E hr h => ?_
  obtain ⟨x, dx, a, b, c, d, rfl, hx, k⟩ := h
  refine ⟨_, (pss_cons (ps_fld (pv 0) (pv 1) rfl)
  (pss_cons (ps_fld (pv 0) (pv 2) rfl)
  (pss_cons (ps_fld (pv 0) (pv 3) rfl)
  (pss_one (ps_fld (pv 0) (pv 4) rfl))))), ?_⟩
  refine w_seq (w_setf rfl (w_v rfl ⟨_, dx, [], hx, T.c_Lent, T.na_Lent_place, by decide, ?_⟩))
  dsimp only
  refine w_seq (w_setf rfl (w_v rfl ⟨_, dx, [("place", a)], upd_same, T.c_Lent, T.na_Lent_through, by show 1 < 1000; decide, ?_⟩))
  dsimp only
  refine w_seq (w_setf rfl (w_v rfl ⟨_, dx, [("place", a), ("through", b)], upd_same, T.c_Lent, T.na_Lent_thing, by show 2 < 1000; decide, ?_⟩))
  dsimp only
  refine w_setf rfl (w_v rfl ⟨_, dx, [("place", a), ("through", b), ("thing", c)], upd_same, T.c_Lent, T.na_Lent_frame, by show 3 < 1000; decide, ?_⟩)
  refine k _ (fun q o hq h => ?_) upd_same
  rw [upd_ne hq, upd_ne hq, upd_ne hq, upd_ne hq]
  exact h
theorem ok_put {M : Nat} (GF : Fn_Run_find T P w base CX0 (M + 2) (spFind K M)) (GC : Fn_Run_come T P w base CX0 1 (spCome K)) : Fn_Run_put T P w base CX0 (M + 3) (spPut K M) := by
  have G_Run_find := GF
  have G_Run_come := GC
  refine T.F_Run_put.ok sc_Run_put (fun vs H Q E h => by obtain ⟨_, _, _, _, _, _, _, _, _, _, _, _, _, _, rfl, _⟩ := h; rfl) fun cdv A outer s0 H vs Q E hr h => ?_
  obtain ⟨r, nl, sl, ll, pw0, yw0, tv, s, s1, t, fa, f, o, v, rfl, hR, hll, tt, hf, hF, hO, k⟩ := h
  refine ⟨_, (pss_cons (ps_set (i := 4) sc_Run_put.nd rfl (Or.inl rfl) (pe_meth (pv 0) T.c_Run T.m_Run_find G_Run_find (hr.mono (by omega)) T.bd_Run_find .nil pass0 (pa_cons (pv 1) (pa_cons (pv 3) pa_nil))))
  (pss_one (ps_if (pt_cmp (pc_notN (pv 4)) rfl)
    (pss_cons (ps_expr (pe_meth (pv 0) T.c_Run T.m_Run_come G_Run_come (hr.mono (by omega)) T.bd_Run_come .nil pass0 (pa_cons (pe_ix (kix_tup K) (pv 4) pe_int (fun _ _ => rfl)) (pa_cons (pe_ix (kix_tup K) (pv 4) pe_int (fun _ _ => rfl)) pa_nil))))
    (pss_one (ps_asg (pv 2) (pg_sub (kpe_fld K (pv 0)) (pe_ix (kix_tup K) (pv 4) pe_int (fun _ _ => rfl)) set_list))))
    pss_nil))), ?_⟩
  obtain ⟨dx, hob⟩ := hR.ob
  refine w_seq (w_asg (w_meth rfl hob (by rfl) (w_cons (w_v rfl (w_cons (w_v rfl (w_nil ⟨r, nl, sl, ll, pw0, yw0, tv, s, s1, t, fa, f, o, rfl, hR, hll, tt, hf, hF, fun x H2 R2 f2 t2 => ?_⟩)))))))
  dsimp only
  refine Pst.go (K := K) ?_
  cases o with
  | none =>
    refine pst_if (K := K) (b := false) (tk_is (tk_vB (ed_notN (ed_var rfl t2))) rfl) (fun hb => by cases hb) (fun _ => pst_of fun H3 e3 => ?_)
    exact k s1 H3 rfl (R2.ex e3) ((f2.sub (by simp)).trans (Fr.of e3))
  | some pt =>
    obtain ⟨pl, th⟩ := pt
    refine pst_if (K := K) (b := true) (tk_is (tk_vB (ed_notN (ed_var rfl t2))) rfl) (fun _ => pst_of fun H3 e3 => ?_) (fun hb => by cases hb)
    have R3 := R2.ex e3
    obtain ⟨dx3, hob3⟩ := R3.ob
    have t3 := t2.ex e3
    unfold encO at t3
    refine w_seq (w_drop (w_meth rfl hob3 (by rfl) (w_cons (w_d (K := K) (d := .int (pl : Int)) ?_ fun v4 H4 e4 t4 => w_cons (w_d (K := K) (d := .tuple (nD th)) ?_ fun v5 H5 e5 t5 => w_nil ?_)))))
    · walk_at "ev"
    · exact ed_ixT (i := 1) (ed_var rfl (t3.ex e4)) ed_ci rfl
    cases t4
    refine ⟨r, nl, sl, ll, pw0, yw0, v5, s1, pl, th, rfl, R3.ex (e4.trans e5), by rw [(findF_lent hF).1]; exact hll, t5, fun H6 R6 f6 => ?_⟩
    obtain ⟨dx6, hob6⟩ := R6.ob
    have t6 := (t3.ex (e4.trans e5)).kp ((R3.ex (e4.trans e5)).keep1 f6)
    have hlt : pl < (come pl th s1).nums.length := by
      simp only [putO] at hO
      split at hO
      · assumption
      · cases hO
    dsimp only
    refine w_asgG (w_v rfl (gsub_go (i := pl) rfl hob6 T.c_Run T.na_Run_numbers (by rfl) ?_ fun H7 e7 => ?_))
    · walk_at "ev"
    have R7 := R6.ex e7
    refine ⟨_, R7.nums, by simp [nV]; exact hlt, ?_⟩
    refine k _ _ (by simp only [putO]; rw [if_pos hlt]) R7.setn ?_
    exact ((((f2.sub (by simp)).trans (Fr.of ((e3.trans e4).trans e5))).trans (f6.sub (by simp))).trans (Fr.of e7)).trans (Fr.upd (by simp))
end
end Hw

set_option maxRecDepth 100000
set_option maxHeartbeats 4000000
/-! RU5: works done, step by step, by the program -/
namespace Hw
open PySem PySem.Spec PyProof.Rows L2 Evl
local macro_rules | `(tactic| walk_at "dd") => `(tactic| first | rfl | decide | (simp; done) | omega)
local macro_rules | `(tactic| walk_at "td") => `(tactic| first | assumption | exact Td.int _ | exact Td.bl _ | exact Td.str _ | exact Td.non | exact Td.tup (by assumption) (by assumption))
local macro_rules | `(tactic| walk_at "ev") => `(tactic| first
  | exact ed_ci | exact ed_cs | exact ed_cb | exact ed_cn
  | (apply ed_cg; assumption)
  | (apply ed_var; (rfl); (walk_at "td"))
  | (apply ed_ixT; (walk_at "ev"); (walk_at "ev"); (first | rfl | assumption))
  | (apply ed_rowI; (rfl); (assumption); (walk_at "ev"); (rfl))
  | (apply ed_ixL; (apply EvDL.rd; walk_at "edl"); (walk_at "ev"); (rfl))
  | (apply ed_intb; (walk_at "ev"))
  | (apply ed_len; walk_at "ev")
  | (apply ed_lenV; (apply ev_rowR; (rfl); (assumption); (walk_at "ev"); (rfl)); (assumption))
  | (apply ed_Ii; (walk_at "ev"); (walk_at "ev"); (walk_at "cc"))
  | (apply ed_isi; (walk_at "ev"); (rfl))
  | (apply ed_I0i; (walk_at "ev"); (walk_at "ev"))
  | (apply ed_I0b; (walk_at "ev"); (walk_at "ev"))
  | (apply ed_eqi; (walk_at "ev"); (walk_at "ev"))
  | (apply ed_nei; (walk_at "ev"); (walk_at "ev"))
  | (apply ed_andF; walk_at "ev")
  | (apply ed_andV; (walk_at "ev"); (intro _; walk_at "ev"))
  | (apply ed_orT; walk_at "ev")
  | (apply ed_orV; (walk_at "ev"); (intro _; walk_at "ev"))
  | (apply ed_notT; walk_at "ev")
  | (apply ed_notF; walk_at "ev")
  | (apply ed_notV; walk_at "ev")
  | (apply ed_chain; (walk_at "ev"); (walk_at "ev"); (intro _; walk_at "ev"))
  | (apply ed_eqS; (walk_at "ev"); (walk_at "ev"); (walk_at "bb"); (walk_at "bb"))
  | (apply ed_neS; (walk_at "ev"); (walk_at "ev"); (walk_at "bb"); (walk_at "bb"))
  | (apply ed_inT; (walk_at "ev"); (walk_at "ev"); (rfl); (rfl))
  | (apply ed_niT; (walk_at "ev"); (walk_at "ev"); (rfl); (rfl))
  | (apply ed_tup; (walk_at "eva"); (walk_at "bb"))
  | (apply ed_sl; (walk_at "ev"); (walk_at "evo"); (walk_at "evo"))
  | (apply ed_eqN; (apply EvDL.rd; walk_at "edl"); (walk_at "edl"); (walk_at "bb"))
  | (apply ed_neN; (apply EvDL.rd; walk_at "edl"); (walk_at "edl"); (walk_at "bb"))
  | (apply ed_ixL; (apply edr_var; (rfl); (assumption); (assumption)); (walk_at "ev"); (first | rfl | assumption))
  | (apply ed_lenL; (apply edr_var; (rfl); (assumption); (assumption)))
  | (apply ed_call; (walk_at "eva"); (walk_at "post")))
local macro_rules | `(tactic| walk_at "edl") => `(tactic| first
  | assumption
  | (apply edl_lst; (walk_at "eva"); (walk_at "bb")))
local macro_rules | `(tactic| walk_at "eva") => `(tactic| first
  | exact eda_nil
  | (apply eda_cons; (walk_at "ev"); (walk_at "eva")))
local macro_rules | `(tactic| walk_at "evo") => `(tactic| first
  | exact eok_none
  | (apply eok_some; walk_at "ev"))
local macro_rules | `(tactic| walk_at "bb") => `(tactic| first | rfl | assumption | (simp; done) | (simp; omega) | decide +kernel)
local macro_rules | `(tactic| walk_at "et") => `(tactic| first
  | exact tk_yes
  | (apply tk_andF; walk_at "et")
  | (apply tk_and; (walk_at "et"); (intro _; walk_at "et"))
  | (apply tk_orT; walk_at "et")
  | (apply tk_or; (walk_at "et"); (intro _; walk_at "et"))
  | (apply tk_notT; walk_at "et")
  | (apply tk_notF; walk_at "et")
  | (apply tk_not; walk_at "et")
  | (apply tk_v; walk_at "ev")
  | (apply tk_vB; walk_at "ev"))
local macro_rules | `(tactic| walk_at "if") => `(tactic| first
  | (apply pst_whenF; (walk_at "et"); (walk_at "bb"))
  | (apply pst_whenT; (walk_at "et"); (walk_at "bb")))
local macro_rules | `(tactic| walk_at "post") => `(tactic| first | assumption | exact ⟨_, _, rfl, rfl⟩ | exact ⟨_, _, _, _, rfl, by omega, by omega, rfl⟩ | exact ⟨_, _, _, 0, rfl, by omega, by omega, rfl⟩)
local macro_rules | `(tactic| walk_at "cc") => `(tactic| first | assumption | decide | omega | (refine ⟨?_, ?_⟩ <;> first | decide | omega) | (exact Or.inl (by constructor <;> omega)))

def calOk (ys : List (List Str)) (b : List Stm) : Prop := smB b = true ∧ b.length ≤ 1000 ∧ ∀ x ∈ callsB b, ∃ ws, ys[x.1]? = some ws ∧ ws.length = x.2.length
structure PrOk (p : List Wk) (ys : List (List Str)) : Prop where
  h1 : ∀ w ∈ p, w.owns ≤ 1000 ∧ calOk ys w.body
  h2 : ∀ y ∈ ys, ∀ z ∈ y, (PyData.str z).canLay0 = true
/-- all that a run leans on -/
structure RunW (K : PySem.W.Frag) (p : List Wk) (ys : List (List Str)) (r nl sl ll : Addr) (pw0 yw0 : V) (s : Sg) (H : Hp) : Prop where
  run : RunAt K r nl sl ll pw0 yw0 s H
  tp : Td K H pw0 (encP p)
  ty : Td K H yw0 (encY ys)
  lt : s.lent.length ≤ mostL
section
variable {K : PySem.W.Frag} {H H' : Hp} {p : List Wk} {ys : List (List Str)} {r nl sl ll fa : Addr} {pw0 yw0 : V} {s s' : Sg}
theorem RunW.ex (h : RunW K p ys r nl sl ll pw0 yw0 s H) (e : Ex H H') : RunW K p ys r nl sl ll pw0 yw0 s H' := ⟨h.run.ex e, h.tp.ex e, h.ty.ex e, h.lt⟩
theorem RunW.fr (h : RunW K p ys r nl sl ll pw0 yw0 s H) (f : Fr (sR r nl sl ll) H H') (R : RunAt K r nl sl ll pw0 yw0 s' H') (e : s'.lent.length ≤ mostL) : RunW K p ys r nl sl ll pw0 yw0 s' H' := ⟨R, h.tp.kp (h.run.keep f), h.ty.kp (h.run.keep f), e⟩
end
section
variable {K : PySem.W.Frag} {H H' : Hp} {r nl sl ll q : Addr} {pw0 yw0 : V} {s s' : Sg} {xs ys2 : List V}
theorem RunAt.off (h : RunAt K r nl sl ll pw0 yw0 s H) (hq : H q = none) : q ∉ sR r nl sl ll := fun hm => by
  obtain ⟨u, hu, _⟩ := h.mu q hm
  rw [hq] at hu
  cases hu
theorem RunAt.updm {u o : HO} (h : RunAt K r nl sl ll pw0 yw0 s H) (hl : H q = some u) (hm : Mut (some u)) (hq : q ∉ sR r nl sl ll) : RunAt K r nl sl ll pw0 yw0 s (upd H q o) := by
  obtain ⟨dx, h1⟩ := h.ob
  obtain ⟨vs, h2, h3⟩ := h.lent
  simp only [sR, List.mem_cons, List.not_mem_nil, or_false, not_or] at hq
  exact ⟨⟨dx, by rw [upd_ne (Ne.symm hq.1)]; exact h1⟩, by rw [upd_ne (Ne.symm hq.2.1)]; exact h.nums, by rw [upd_ne (Ne.symm hq.2.2.1)]; exact h.said, ⟨vs, by rw [upd_ne (Ne.symm hq.2.2.2)]; exact h2, h3.kp (Keep.upd hl hm)⟩, h.d1, h.d2, h.d3⟩
theorem RunAt.updo (h : RunAt K r nl sl ll pw0 yw0 s H) (hl : H q = some (.lst xs)) (hq : q ∉ sR r nl sl ll) : RunAt K r nl sl ll pw0 yw0 s (upd H q (.lst ys2)) := h.updm hl True.intro hq
theorem none_back {S : List Addr} {a : Addr} (f : Fr S H H') (m : ∀ a ∈ S, ∃ u, H' a = some u) (h : H' a = none) : H a = none := by
  cases e : H a with
  | none => rfl
  | some o =>
    by_cases hs : a ∈ S
    · obtain ⟨u, hu⟩ := m a hs
      rw [h] at hu
      cases hu
    · have := f a o hs e
      rw [h] at this
      cases this
end
def spSteps (K : PySem.W.Frag) (p : List Wk) (ys : List (List Str)) (M n : Nat) : Sp := fun vs H Q _ => ∃ (r nl sl ll : Addr) (pw0 yw0 bv : V) (s s' : Sg) (body : List Stm) (fa : Addr) (f : Fra), vs = [.ref r, bv, .ref fa] ∧ RunW K p ys r nl sl ll pw0 yw0 s H ∧ Td K H bv (.tuple (encB body)) ∧ calOk ys body ∧ PFra K (Ofs (sR r nl sl ll) H) fa f ∧ goF (stepF p ys M n f) body s = some s' ∧
  ∀ ll' H', RunAt K r nl sl ll' pw0 yw0 s' H' → Fr (sR r nl sl ll) H H' → (ll' = ll ∨ H ll' = none) → Q .non H'
def spDo (K : PySem.W.Frag) (p : List Wk) (ys : List (List Str)) (M n : Nat) : Sp := fun vs H Q _ => ∃ (r nl sl ll : Addr) (pw0 yw0 : V) (s s2 s' : Sg) (at_ : Nat) (wk : Wk) (os : List Nat) (hs : List Hd) (fa dx lo lp : Addr) (us : List V), vs = [.ref r, .int (at_ : Int), .ref fa] ∧ RunW K p ys r nl sl ll pw0 yw0 s H ∧ p[at_]? = some wk ∧
  H fa = some (.ins (He.ga K "Frame") dx [("owns", .ref lo), ("pars", .ref lp)]) ∧ H lp = some (.lst us) ∧ lp ∉ sR r nl sl ll ∧ PHds K (Ofs (fa :: sR r nl sl ll) H) us hs ∧ ownF wk.owns s = some (os, s2) ∧ goF (stepF p ys M n (.mk os hs)) wk.body s2 = some s' ∧
  ∀ ll' H', RunAt K r nl sl ll' pw0 yw0 s' H' → Fr (fa :: sR r nl sl ll) H H' → (ll' = ll ∨ H ll' = none) → Q .non H'
def spCall (K : PySem.W.Frag) (p : List Wk) (ys : List (List Str)) (M n : Nat) : Sp := fun vs H Q _ => ∃ (r nl sl ll : Addr) (pw0 yw0 tsv : V) (s s' : Sg) (c : Nat) (ts : List Th) (fa : Addr) (f : Fra), vs = [.ref r, .int (c : Int), tsv, .ref fa] ∧ RunW K p ys r nl sl ll pw0 yw0 s H ∧ Td K H tsv (.tuple (ts.map encT)) ∧ (∃ ws, ys[c]? = some ws ∧ ws.length = ts.length) ∧ ts.length ≤ 1000 ∧ PFra K (Ofs (sR r nl sl ll) H) fa f ∧ stepF p ys M (n + 1) f (.call c ts) s = some s' ∧
  ∀ ll' H', RunAt K r nl sl ll' pw0 yw0 s' H' → Fr (sR r nl sl ll) H H' → (ll' = ll ∨ H ll' = none) → Q .non H'
/-! own cells, one after the other -/
theorem ownF_less {k : Nat} {s s2 : Sg} {os : List Nat} : ∀ {i : Nat}, i ≤ k → ownF k s = some (os, s2) → ∃ os' s', ownF i s = some (os', s') := by
  induction k generalizing os s2 with
  | zero =>
    intro i hi h
    have : i = 0 := by omega
    subst this
    exact ⟨_, _, h⟩
  | succ k ih =>
    intro i hi h
    by_cases e : i = k + 1
    · subst e; exact ⟨_, _, h⟩
    · simp only [ownF] at h
      cases h1 : ownF k s with
      | none => rw [h1] at h; cases h
      | some x => exact ih (by omega) h1
theorem ownF_lent {k : Nat} {s s2 : Sg} {os : List Nat} (h : ownF k s = some (os, s2)) : s2.lent = s.lent := by
  induction k generalizing os s2 with
  | zero => simp only [ownF] at h; cases h; rfl
  | succ k ih =>
    simp only [ownF] at h
    cases h1 : ownF k s with
    | none => rw [h1] at h; cases h
    | some x =>
      obtain ⟨os1, s1⟩ := x
      rw [h1] at h
      simp only [freshF] at h
      split at h
      · cases h
      · rename_i o s3 h3
        split at h3
        · cases h3
          cases h
          have a := ih h1
          exact a
        · cases h3
section
variable {P : Program} {w : World} {K : PySem.W.Frag} {mg : Str → Option Value} {base : Heap} (T : Tx K mg)
include T
theorem ok_do {p : List Wk} {ys : List (List Str)} {M n lv : Nat} (hl : 1 ≤ lv) (hp : PrOk p ys) (GS : Fn_Run_steps T P w base CX0 lv (spSteps K p ys M n)) (GF : Fn_Run_fresh T P w base CX0 1 (spFresh K)) : Fn_Run_do T P w base CX0 (lv + 1) (spDo K p ys M n) := by
  have G_Run_steps := GS
  have G_Run_fresh := GF
  refine T.F_Run_do.ok sc_Run_do (fun vs H Q E h => by obtain ⟨_, _, _, _, _, _, _, _, _, _, _, _, _, _, _, _, _, _, rfl, _⟩ := h; rfl) fun cdv A outer s0 H vs Q E hr h => ?_
  obtain ⟨r, nl, sl, ll, pw0, yw0, s, s2, s', at_, wk, os, hs, fa, dxf, lo, lp, us, rfl, hW, hwk, hfa, hlp, hlpo, hph, hown, hgo, k⟩ := h
  refine ⟨_, (pss_cons (ps_fld (pv 2) (pe_lc (own := [("k", 3)]) (g := gName 3) (tt := tYes) rfl sc_Run_do.nd (pi_range1 rfl T.b_range (pa_cons (pe_ix (kix_tup K) (pe_ix (kix_tup K) (kpe_fld K (pv 0)) (pv 1) (fun _ _ => rfl)) pe_int (fun _ _ => rfl)) pa_nil)) (blkOk_by (N := ["self", "at", "frame", "k"]) (sc := defScope s_Run_do) (by decide +kernel)) (fun _ _ _ _ _ => (pg_name (i := 3) sc_Run_do.nd rfl (Or.inl rfl))) (fun _ _ _ _ _ => pts_nil) (fun _ _ _ _ _ => (pe_meth (pv 0) T.c_Run T.m_Run_fresh G_Run_fresh (hr.mono (by omega)) T.bd_Run_fresh .nil pass0 (pa_cons pe_int pa_nil)))) rfl)
  (pss_one (ps_expr (pe_meth (pv 0) T.c_Run T.m_Run_steps G_Run_steps (hr.mono (by omega)) T.bd_Run_steps .nil pass0 (pa_cons (pe_ix (kix_tup K) (pe_ix (kix_tup K) (kpe_fld K (pv 0)) (pv 1) (fun _ _ => rfl)) pe_int (fun _ _ => rfl)) (pa_cons (pv 2) pa_nil)))))), ?_⟩
  obtain ⟨dx, hob⟩ := hW.run.ob
  have hwp := hp.h1 wk (List.mem_of_getElem? hwk)
  have hpa : atI (p.map encW) (at_ : Int) = some (.tuple [.int (wk.params : Int), .int (wk.owns : Int), .tuple (encB wk.body)]) := atI_nat (by rw [List.getElem?_map, hwk] <;> rfl)
  have tp := hW.tp
  unfold encP at tp
  have nefa : fa ∉ sR r nl sl ll := by
    obtain ⟨vs2, q1, q2⟩ := hW.run.lent
    simp only [sR, List.mem_cons, List.not_mem_nil, or_false, not_or]
    refine ⟨fun e => ?_, fun e => ?_, fun e => ?_, fun e => ?_⟩
    · rw [e, hob] at hfa; simp [runFs] at hfa
    · have := hW.run.nums; rw [← e, hfa] at this; cases this
    · have := hW.run.said; rw [← e, hfa] at this; cases this
    · rw [← e, hfa] at q1; cases q1
  have efld : ∀ {H1}, Ex H H1 → ∀ σ : L2.St, σ[0]? = some (some (.ref r)) → EvD K (tFld K (tVar 0) "program") σ H1 (.tuple (p.map encW)) := fun e σ hσ => ed_fld hσ (e _ _ hob) T.c_Run T.na_Run_program (by rfl) (tp.ex e)
  refine w_seq (w_setf rfl (w_lcR (K := K) (n := wk.owns) ?_ (by omega) (fun _ => rfl) (fun q i H1 => H q = none ∧ ∃ os1 s1, ownF i s = some (os1, s1) ∧ H1 q = some (.lst (nV os1)) ∧ RunAt K r nl sl ll pw0 yw0 s1 H1 ∧ Fr [q, nl] H H1) ?_ ?_ ?_))
  · refine eda_cons (ed_ixT (i := 1) (ed_ixT (i := (at_ : Int)) (efld (Ex.refl H) _ rfl) (ed_var rfl (.int _)) hpa) ed_ci rfl) eda_nil
  · intro H1 q e1 hq
    exact ⟨fresh_back e1 hq, [], s, rfl, upd_same, (hW.run.ex e1).ex (Ex.new hq), Fr.of (e1.trans (Ex.new hq))⟩
  · rintro q i H1 hi ⟨hq, os1, s1, h1, h2, R1, f1⟩
    obtain ⟨dx1, hob1⟩ := R1.ob
    obtain ⟨os2, s2', h3⟩ := ownF_less (i := i + 1) (by omega) hown
    have h3' := h3
    simp only [ownF, h1, freshF] at h3
    have hn : s1.nums.length < mostL := by
      split at h3
      · cases h3
      · rename_i o s3 h4
        split at h4
        · assumption
        · cases h4
    rw [if_pos hn] at h3
    cases h3
    refine w_meth rfl hob1 (by rfl) (w_cons (w_c (w_nil ⟨r, nl, sl, ll, pw0, yw0, s1, 0, rfl, R1, hn, fun H2 R2 f2 => ?_⟩)))
    have hqn : q ≠ nl := fun e => by
      have := hW.run.nums
      rw [← e, hq] at this
      cases this
    have hq2 : H2 q = some (.lst (nV os1)) := f2 _ _ (by simpa using hqn) h2
    refine ⟨_, hq2, ?_, hq, _, _, h3', ?_, ?_, (f1.trans (f2.sub (by simp))).trans (Fr.upd (by simp))⟩
    · have : ∀ {i : Nat} {s s1 : Sg} {os1 : List Nat}, ownF i s = some (os1, s1) → os1.length = i := by
        intro i
        induction i with
        | zero => intro s s1 os1 h; simp only [ownF] at h; cases h; rfl
        | succ i ih =>
          intro s s1 os1 h
          simp only [ownF] at h
          split at h
          · cases h
          · rename_i a b h4
            split at h
            · cases h
            · cases h
              simp [ih h4]
      rw [nV, List.length_map, this h1]
      exact sz_lt (by omega)
    · rw [upd_same]
      simp [nV]
    · exact R2.updo hq2 (hW.run.off hq)
  · rintro q H1 ⟨hq, os1, s1, h1, h2, R1, f1⟩
    rw [hown] at h1
    cases h1
    have nqf : q ≠ fa := fun e => by rw [e, hfa] at hq; cases hq
    have nqs := hW.run.off hq
    have nfn : fa ≠ nl := fun e => nefa (by rw [e]; simp [sR])
    have hfa1 : H1 fa = some (.ins (He.ga K "Frame") dxf [("owns", .ref lo), ("pars", .ref lp)]) := f1 _ _ (by simp [nqf.symm, nfn]) hfa
    refine ⟨_, dxf, _, hfa1, T.c_Frame, T.na_Frame_owns, by show 2 < 1000; decide, ?_⟩
    have R2 : RunAt K r nl sl ll pw0 yw0 s2 (upd H1 fa (.ins (He.ga K "Frame") dxf [("owns", .ref q), ("pars", .ref lp)])) := R1.updm hfa1 True.intro nefa
    have nlf : lp ≠ fa := fun e => by rw [e, hfa] at hlp; cases hlp
    have nlq : lp ≠ q := fun e => by rw [e, hq] at hlp; cases hlp
    have nln : lp ≠ nl := fun e => hlpo (by rw [e]; simp [sR])
    have hf2 : PFra K (Ofs (sR r nl sl ll) (upd H1 fa (.ins (He.ga K "Frame") dxf [("owns", .ref q), ("pars", .ref lp)]))) fa (.mk os hs) := by
      refine .mk (dx := dxf) (lo := q) (lp := lp) (vs := us) (ofs_get upd_same nefa) (ofs_get (by rw [upd_ne nqf]; exact h2) nqs) (ofs_get (by rw [upd_ne nlf]; exact f1 _ _ (by simp [nlq, nln]) hlp) hlpo) (hph.ex fun x o hx => ?_)
      unfold Ofs at hx
      split at hx
      · cases hx
      · rename_i hxs
        simp only [List.mem_cons, not_or] at hxs
        refine ofs_get ?_ hxs.2
        rw [upd_ne hxs.1]
        refine f1 _ _ ?_ hx
        have n1 : x ≠ q := fun e => by rw [e, hq] at hx; cases hx
        have n2 : x ≠ nl := fun e => hxs.2 (by rw [e]; simp [sR])
        simp [n1, n2]
    have F2 : Fr (fa :: sR r nl sl ll) H (upd H1 fa (.ins (He.ga K "Frame") dxf [("owns", .ref q), ("pars", .ref lp)])) := by
      refine Fr.fresh (p := q) ?_ hq
      refine (f1.sub ?_).trans (Fr.upd (by simp))
      simp [sR]
    have ep : putF ("owns" : Str) (V.ref q) ([(("owns" : Str), V.ref lo), (("pars" : Str), V.ref lp)] : List (Str × V)) = [(("owns" : Str), V.ref q), (("pars" : Str), V.ref lp)] := by rfl
    dsimp only
    rw [ep]
    have hm2 : ∃ u, upd H1 fa (.ins (He.ga K "Frame") dxf [("owns", .ref q), ("pars", .ref lp)]) fa = some u := ⟨_, upd_same⟩
    generalize upd H1 fa (.ins (He.ga K "Frame") dxf [("owns", .ref q), ("pars", .ref lp)]) = H2 at *
    obtain ⟨dx2, hob2⟩ := R2.ob
    have kk : Keep K H H2 := F2.keep fun a ha => by
      rcases List.mem_cons.mp ha with e | ha
      · rw [e]; exact ⟨_, hfa, True.intro⟩
      · exact hW.run.mu a ha
    have tp2 := tp.kp kk
    have W2 : RunW K p ys r nl sl ll pw0 yw0 s2 H2 := ⟨R2, hW.tp.kp kk, hW.ty.kp kk, by rw [ownF_lent hown]; exact hW.lt⟩
    refine w_drop (w_meth rfl hob2 (by rfl) (w_cons (w_d (K := K) (d := .tuple (encB wk.body)) ?_ fun vb H3 e3 tb => w_cons (w_v rfl (w_nil ?_)))))
    · exact ed_ixT (i := 2) (ed_ixT (i := (at_ : Int)) (ed_fld rfl hob2 T.c_Run T.na_Run_program (by rfl) tp2) (ed_var rfl (.int _)) hpa) ed_ci rfl
    refine ⟨r, nl, sl, ll, pw0, yw0, vb, s2, s', wk.body, fa, .mk os hs, rfl, W2.ex e3, tb, hwp.2, hf2.fr (Fr.of e3), hgo, fun ll' H' R' f' hll' => ?_⟩
    refine k ll' H' R' ((F2.trans (Fr.of e3)).trans (f'.sub (by simp +contextual))) ?_
    rcases hll' with e | e
    · exact .inl e
    · refine .inr (none_back (F2.trans (Fr.of e3)) (fun a ha => ?_) e)
      rcases List.mem_cons.mp ha with e2 | ha
      · obtain ⟨u, hu⟩ := hm2
        rw [e2]
        exact ⟨u, e3 _ _ hu⟩
      · obtain ⟨u, hu, _⟩ := (R2.ex e3).mu a ha
        exact ⟨u, hu⟩
end
end Hw

set_option maxRecDepth 100000
set_option maxHeartbeats 4000000
/-! RU6: steps by the program -/
namespace Hw
open PySem PySem.Spec PyProof.Rows L2 Evl
local macro_rules | `(tactic| walk_at "dd") => `(tactic| first | rfl | decide | (simp; done) | omega)
local macro_rules | `(tactic| walk_at "td") => `(tactic| first | assumption | exact Td.int _ | exact Td.bl _ | exact Td.str _ | exact Td.non | exact Td.tup (by assumption) (by assumption))
local macro_rules | `(tactic| walk_at "ev") => `(tactic| first
  | exact ed_ci | exact ed_cs | exact ed_cb | exact ed_cn
  | (apply ed_cg; assumption)
  | (apply ed_var; (rfl); (walk_at "td"))
  | (apply ed_ixT; (walk_at "ev"); (walk_at "ev"); (first | rfl | assumption))
  | (apply ed_rowI; (rfl); (assumption); (walk_at "ev"); (rfl))
  | (apply ed_ixL; (apply EvDL.rd; walk_at "edl"); (walk_at "ev"); (rfl))
  | (apply ed_intb; (walk_at "ev"))
  | (apply ed_len; walk_at "ev")
  | (apply ed_lenV; (apply ev_rowR; (rfl); (assumption); (walk_at "ev"); (rfl)); (assumption))
  | (apply ed_Ii; (walk_at "ev"); (walk_at "ev"); (walk_at "cc"))
  | (apply ed_isi; (walk_at "ev"); (rfl))
  | (apply ed_I0i; (walk_at "ev"); (walk_at "ev"))
  | (apply ed_I0b; (walk_at "ev"); (walk_at "ev"))
  | (apply ed_eqi; (walk_at "ev"); (walk_at "ev"))
  | (apply ed_nei; (walk_at "ev"); (walk_at "ev"))
  | (apply ed_andF; walk_at "ev")
  | (apply ed_andV; (walk_at "ev"); (intro _; walk_at "ev"))
  | (apply ed_orT; walk_at "ev")
  | (apply ed_orV; (walk_at "ev"); (intro _; walk_at "ev"))
  | (apply ed_notT; walk_at "ev")
  | (apply ed_notF; walk_at "ev")
  | (apply ed_notV; walk_at "ev")
  | (apply ed_chain; (walk_at "ev"); (walk_at "ev"); (intro _; walk_at "ev"))
  | (apply ed_eqS; (walk_at "ev"); (walk_at "ev"); (walk_at "bb"); (walk_at "bb"))
  | (apply ed_neS; (walk_at "ev"); (walk_at "ev"); (walk_at "bb"); (walk_at "bb"))
  | (apply ed_inT; (walk_at "ev"); (walk_at "ev"); (rfl); (rfl))
  | (apply ed_niT; (walk_at "ev"); (walk_at "ev"); (rfl); (rfl))
  | (apply ed_tup; (walk_at "eva"); (walk_at "bb"))
  | (apply ed_sl; (walk_at "ev"); (walk_at "evo"); (walk_at "evo"))
  | (apply ed_eqN; (apply EvDL.rd; walk_at "edl"); (walk_at "edl"); (walk_at "bb"))
  | (apply ed_neN; (apply EvDL.rd; walk_at "edl"); (walk_at "edl"); (walk_at "bb"))
  | (apply ed_ixL; (apply edr_var; (rfl); (assumption); (assumption)); (walk_at "ev"); (first | rfl | assumption))
  | (apply ed_lenL; (apply edr_var; (rfl); (assumption); (assumption)))
  | (apply ed_call; (walk_at "eva"); (walk_at "post")))
local macro_rules | `(tactic| walk_at "edl") => `(tactic| first
  | assumption
  | (apply edl_lst; (walk_at "eva"); (walk_at "bb")))
local macro_rules | `(tactic| walk_at "eva") => `(tactic| first
  | exact eda_nil
  | (apply eda_cons; (walk_at "ev"); (walk_at "eva")))
local macro_rules | `(tactic| walk_at "evo") => `(tactic| first
  | exact eok_none
  | (apply eok_some; walk_at "ev"))
local macro_rules | `(tactic| walk_at "bb") => `(tactic| first | rfl | assumption | (simp; done) | (simp; omega) | decide +kernel)
local macro_rules | `(tactic| walk_at "et") => `(tactic| first
  | exact tk_yes
  | (apply tk_andF; walk_at "et")
  | (apply tk_and; (walk_at "et"); (intro _; walk_at "et"))
  | (apply tk_orT; walk_at "et")
  | (apply tk_or; (walk_at "et"); (intro _; walk_at "et"))
  | (apply tk_notT; walk_at "et")
  | (apply tk_notF; walk_at "et")
  | (apply tk_not; walk_at "et")
  | (apply tk_v; walk_at "ev")
  | (apply tk_vB; walk_at "ev"))
local macro_rules | `(tactic| walk_at "if") => `(tactic| first
  | (apply pst_whenF; (walk_at "et"); (walk_at "bb"))
  | (apply pst_whenT; (walk_at "et"); (walk_at "bb")))
local macro_rules | `(tactic| walk_at "post") => `(tactic| first | assumption | exact ⟨_, _, rfl, rfl⟩ | exact ⟨_, _, _, _, rfl, by omega, by omega, rfl⟩ | exact ⟨_, _, _, 0, rfl, by omega, by omega, rfl⟩)
local macro_rules | `(tactic| walk_at "cc") => `(tactic| first | assumption | decide | omega | (refine ⟨?_, ?_⟩ <;> first | decide | omega) | (exact Or.inl (by constructor <;> omega)))

/-- from one state of a run to a later one -/
def Nx (r nl sl ll ll' : Addr) (H H' : Hp) : Prop := Fr (sR r nl sl ll) H H' ∧ (ll' = ll ∨ H ll' = none)
section
variable {K : PySem.W.Frag} {H H1 H2 : Hp} {p : List Wk} {ys : List (List Str)} {r nl sl ll ll1 ll2 fa : Addr} {pw0 yw0 : V} {s s1 s' : Sg} {f : Fra}
theorem Nx.refl : Nx r nl sl ll ll H H := ⟨Fr.refl, .inl rfl⟩
theorem Nx.of (e : Ex H H1) : Nx r nl sl ll ll H H1 := ⟨Fr.of e, .inl rfl⟩
theorem Nx.trans (a : Nx r nl sl ll ll1 H H1) (R : RunAt K r nl sl ll1 pw0 yw0 s1 H1) (b : Nx r nl sl ll1 ll2 H1 H2) : Nx r nl sl ll ll2 H H2 := by
  refine ⟨fun q o hq h => ?_, ?_⟩
  · refine b.1 q o ?_ (a.1 q o hq h)
    simp only [sR, List.mem_cons, List.not_mem_nil, or_false, not_or] at hq ⊢
    refine ⟨hq.1, hq.2.1, hq.2.2.1, fun e => ?_⟩
    rcases a.2 with e2 | e2
    · exact hq.2.2.2 (e.trans e2)
    · rw [e, e2] at h; cases h
  · rcases b.2 with e | e
    · rw [e]; exact a.2
    · by_cases h : ll2 = ll
      · exact .inl h
      · refine .inr ?_
        cases hq : H ll2 with
        | none => rfl
        | some o =>
          by_cases hs : ll2 ∈ sR r nl sl ll
          · simp only [sR, List.mem_cons, List.not_mem_nil, or_false] at hs
            have hm : ll2 ∈ sR r nl sl ll1 := by
              simp only [sR, List.mem_cons, List.not_mem_nil, or_false]
              rcases hs with h1 | h1 | h1 | h1
              · exact .inl h1
              · exact .inr (.inl h1)
              · exact .inr (.inr (.inl h1))
              · exact absurd h1 h
            obtain ⟨u, hu, _⟩ := R.mu ll2 hm
            rw [e] at hu
            cases hu
          · have := a.1 ll2 o hs hq
            rw [e] at this
            cases this
theorem Nx.ex (a : Nx r nl sl ll ll1 H H1) (e : Ex H1 H2) : Nx r nl sl ll ll1 H H2 := ⟨a.1.trans (Fr.of e), a.2⟩
theorem PFra.nx (h : PFra K (Ofs (sR r nl sl ll) H) fa f) (a : Nx r nl sl ll ll1 H H1) : PFra K (Ofs (sR r nl sl ll1) H1) fa f := h.ex fun q o hx => by
  unfold Ofs at hx
  split at hx
  · cases hx
  · rename_i hq
    refine ofs_get (a.1 q o hq hx) ?_
    simp only [sR, List.mem_cons, List.not_mem_nil, or_false, not_or] at hq ⊢
    refine ⟨hq.1, hq.2.1, hq.2.2.1, fun e => ?_⟩
    rcases a.2 with e2 | e2
    · exact hq.2.2.2 (e.trans e2)
    · rw [e, e2] at hx; cases hx
end
theorem goF_snoc {st : Stm → Sg → Option Sg} : ∀ {xs : List Stm} {x : Stm} {s : Sg}, goF st (xs ++ [x]) s = (goF st xs s).bind (st x)
  | [], x, s => by
    simp only [List.nil_append, goF, Option.bind_some]
    cases st x s <;> rfl
  | y :: xs, x, s => by
    simp only [List.cons_append, goF]
    cases st y s with
    | none => rfl
    | some s1 => exact goF_snoc
theorem goF_take {st : Stm → Sg → Option Sg} : ∀ {body : List Stm} {s s' : Sg} (i : Nat), goF st body s = some s' → ∃ s1, goF st (body.take i) s = some s1
  | [], s, s', i, h => by simp [goF]
  | y :: xs, s, s', 0, h => by simp [goF]
  | y :: xs, s, s', i + 1, h => by
    simp only [List.take_succ_cons, goF] at h ⊢
    cases h1 : st y s with
    | none => rw [h1] at h; cases h
    | some s1 =>
      rw [h1] at h
      exact goF_take i h
theorem goF_at {st : Stm → Sg → Option Sg} {body : List Stm} {s s' s1 : Sg} {i : Nat} {x : Stm} (h : goF st body s = some s') (hx : body[i]? = some x) (h1 : goF st (body.take i) s = some s1) : ∃ s2, st x s1 = some s2 ∧ goF st (body.take (i + 1)) s = some s2 := by
  obtain ⟨s2, h2⟩ := goF_take (i + 1) h
  have h3 := h2
  rw [take_snoc hx, goF_snoc, h1] at h2
  exact ⟨s2, h2, h3⟩
theorem goF_keep {st : Stm → Sg → Option Sg} {α : Type} (g : Sg → α) (hst : ∀ x s s', st x s = some s' → g s' = g s) : ∀ {body : List Stm} {s s' : Sg}, goF st body s = some s' → g s' = g s
  | [], s, s', h => by simp only [goF] at h; cases h; rfl
  | y :: xs, s, s', h => by
    simp only [goF] at h
    cases h1 : st y s with
    | none => rw [h1] at h; cases h
    | some s1 =>
      rw [h1] at h
      exact (goF_keep g hst h).trans (hst _ _ _ h1)
theorem stepF_lent {p : List Wk} {ys : List (List Str)} {M : Nat} : ∀ {n : Nat} {f : Fra} {x : Stm} {s s' : Sg}, stepF p ys M n f x s = some s' → s'.lent = s.lent
  | 0, f, x, s, s', h => by simp [stepF] at h
  | n + 1, f, .set pt t, s, s', h => by
    simp only [stepF] at h
    split at h
    · cases h
    · rename_i v s1 h1
      have a1 := (numF_lent h1).1
      split at h
      · cases h
      · rename_i s2 h2
        cases h
        exact (findF_lent h2).1.trans a1
      · rename_i pl th s2 h2
        split at h
        · cases h
          have a2 := (findF_lent h2).1
          exact a2.trans a1
        · cases h
  | n + 1, f, .say t, s, s', h => by
    simp only [stepF] at h
    split at h
    · cases h
    · rename_i v s1 h1
      split at h
      · cases h
        have a1 := (numF_lent h1).1
        exact a1
      · cases h
  | n + 1, f, .ite t a b, s, s', h => by
    simp only [stepF] at h
    split at h
    · cases h
    · rename_i v s1 h1
      exact (goF_keep Sg.lent (fun x s s' h => stepF_lent h) h).trans (numF_lent h1).1
  | n + 1, f, .call c ts, s, s', h => by
    simp only [stepF] at h
    split at h
    · split at h
      · cases h
      · split at h
        · cases h
        · split at h
          · cases h
          · split at h
            · cases h
            · cases h
              rfl
    · cases h
/-- a say more -/
theorem RunAt.adds {K : PySem.W.Frag} {H : Hp} {r nl sl ll : Addr} {pw0 yw0 : V} {s : Sg} {v : Nat} (h : RunAt K r nl sl ll pw0 yw0 s H) : RunAt K r nl sl ll pw0 yw0 { s with said := s.said ++ [v] } (upd H sl (.lst (nV s.said ++ [.int (v : Int)]))) := by
  obtain ⟨dx, h1⟩ := h.ob
  obtain ⟨vs, h2, h3⟩ := h.lent
  obtain ⟨n1, n2, n3⟩ := h.ne
  exact ⟨⟨dx, by rw [upd_ne n2]; exact h1⟩, by rw [upd_ne h.d1]; exact h.nums, by rw [upd_same]; simp [nV], ⟨vs, by rw [upd_ne (Ne.symm h.d3)]; exact h2, h3.kp (Keep.upd h.said True.intro)⟩, h.d1, h.d2, h.d3⟩
section
variable {P : Program} {w : World} {K : PySem.W.Frag} {mg : Str → Option Value} {base : Heap} (T : Tx K mg)
include T
theorem steps_step {p : List Wk} {ys : List (List Str)} {M n lv : Nat} (hl : M + 4 ≤ lv) (hp : PrOk p ys) (spS spC : Sp) (hS : 0 < n → spS = spSteps K p ys M (n - 1) ∧ spC = spCall K p ys M (n - 1))
    (GS : Fn_Run_steps T P w base CX0 lv spS) (GC : Fn_Run_call T P w base CX0 lv spC) (GN : Fn_Run_number T P w base CX0 (M + 2) (spNum K M)) (GP : Fn_Run_put T P w base CX0 (M + 3) (spPut K M)) : Fn_Run_steps T P w base CX0 (lv + 1) (spSteps K p ys M n) := by
  have G_Run_steps := GS
  have G_Run_call := GC
  have G_Run_number := GN
  have G_Run_put := GP
  refine T.F_Run_steps.ok sc_Run_steps (fun vs H Q E h => by obtain ⟨_, _, _, _, _, _, _, _, _, _, _, _, rfl, _⟩ := h; rfl) fun cdv A outer s0 H vs Q E hr h => ?_
  obtain ⟨r, nl, sl, ll, pw0, yw0, bv, s, s', body, fa, f, rfl, hW, tb, hcal, hf, hgo, k⟩ := h
  refine ⟨_, (pss_one (ps_for (passes_of rfl) rfl (kpi_tup K (pv 1)) (pg_name (i := 3) sc_Run_steps.nd rfl (Or.inl rfl))
    (pss_one (ps_if (pt_cmpR (kop_eq K hr.units) (pe_ix (kix_tup K) (pv 3) pe_int (fun _ _ => rfl)) pe_str (nomark _))
      (pss_one (ps_expr (pe_meth (pv 0) T.c_Run T.m_Run_put G_Run_put (hr.mono (by omega)) T.bd_Run_put .nil pass0 (pa_cons (pe_ix (kix_tup K) (pv 3) pe_int (fun _ _ => rfl)) (pa_cons (pe_meth (pv 0) T.c_Run T.m_Run_number G_Run_number (hr.mono (by omega)) T.bd_Run_number .nil pass0 (pa_cons (pe_ix (kix_tup K) (pv 3) pe_int (fun _ _ => rfl)) (pa_cons (pv 2) pa_nil))) (pa_cons (pv 2) pa_nil))))))
      (pss_one (ps_if (pt_cmpR (kop_eq K hr.units) (pe_ix (kix_tup K) (pv 3) pe_int (fun _ _ => rfl)) pe_str (nomark _))
        (pss_one (ps_expr (pe_bm PySem.F.plainAttrs_list PySem.F.slot_list_append PySem.F.type_list_append mt_append (kpe_fld K (pv 0)) (pa_cons (pe_meth (pv 0) T.c_Run T.m_Run_number G_Run_number (hr.mono (by omega)) T.bd_Run_number .nil pass0 (pa_cons (pe_ix (kix_tup K) (pv 3) pe_int (fun _ _ => rfl)) (pa_cons (pv 2) pa_nil))) pa_nil))))
        (pss_one (ps_if (pt_cmpR (kop_eq K hr.units) (pe_ix (kix_tup K) (pv 3) pe_int (fun _ _ => rfl)) pe_str (nomark _))
          (pss_one (ps_expr (pe_meth (pv 0) T.c_Run T.m_Run_steps G_Run_steps (hr.mono (by omega)) T.bd_Run_steps .nil pass0 (pa_cons (pe_ifExp (pt_cmpR op_ne (pe_meth (pv 0) T.c_Run T.m_Run_number G_Run_number (hr.mono (by omega)) T.bd_Run_number .nil pass0 (pa_cons (pe_ix (kix_tup K) (pv 3) pe_int (fun _ _ => rfl)) (pa_cons (pv 2) pa_nil))) pe_int (nomark _)) (pe_ix (kix_tup K) (pv 3) pe_int (fun _ _ => rfl)) (pe_ix (kix_tup K) (pv 3) pe_int (fun _ _ => rfl))) (pa_cons (pv 2) pa_nil)))))
          (pss_one (ps_expr (pe_meth (pv 0) T.c_Run T.m_Run_call G_Run_call (hr.mono (by omega)) T.bd_Run_call .nil pass0 (pa_cons (pe_ix (kix_tup K) (pv 3) pe_int (fun _ _ => rfl)) (pa_cons (pe_ix (kix_tup K) (pv 3) pe_int (fun _ _ => rfl)) (pa_cons (pv 2) pa_nil)))))))))))))), ?_⟩
  have tb2 : Td K H bv (.tuple (body.map encS)) := by
    rw [← encB_map]
    exact tb
  refine w_forTv (K := K) body encS rfl tb2 (fun i σ' H' => ∃ (u3 : Option V) (ll1 : Addr) (s1 : Sg), σ' = [some (.ref r), some bv, some (.ref fa), u3] ∧ goF (stepF p ys M n f) (body.take i) s = some s1 ∧ RunAt K r nl sl ll1 pw0 yw0 s1 H' ∧ Nx r nl sl ll ll1 H H') ?_ ?_ ?_ ?_
  · exact ⟨_, ll, s, rfl, rfl, hW.run, Nx.refl⟩
  · rintro i σ' H' ⟨u3, ll1, s1, rfl, _, _, nx⟩
    exact hW.run.keep nx.1
  · rintro i x v σ' H1 hx tx ⟨u3, ll1, s1, rfl, h1, R1, nx⟩
    obtain ⟨s2, hst, h2⟩ := goF_at hgo hx h1
    have hlt : s1.lent.length ≤ mostL := by
      rw [goF_keep Sg.lent (fun x s s' h => stepF_lent h) h1]
      exact hW.lt
    have kp1 : Keep K H H1 := hW.run.keep nx.1
    have W1 : RunW K p ys r nl sl ll1 pw0 yw0 s1 H1 := ⟨R1, hW.tp.kp kp1, hW.ty.kp kp1, hlt⟩
    have hf1 := hf.nx nx
    have hmem := List.mem_of_getElem? hx
    obtain ⟨m, rfl⟩ : ∃ m, n = m + 1 := ⟨n - 1, by cases n with
      | zero => simp [stepF] at hst
      | succ n => omega⟩
    obtain ⟨rfl, rfl⟩ := hS (by omega)
    have em : m + 1 - 1 = m := by omega
    rw [em] at *
    have fin : ∀ {H2 ll2}, RunAt K r nl sl ll2 pw0 yw0 s2 H2 → Nx r nl sl ll1 ll2 H1 H2 → ∃ (u3 : Option V) (lx : Addr) (sx : Sg), ([some (.ref r), some bv, some (.ref fa), some v] : L2.St) = [some (.ref r), some bv, some (.ref fa), u3] ∧ goF (stepF p ys M (m + 1) f) (body.take (i + 1)) s = some sx ∧ RunAt K r nl sl lx pw0 yw0 sx H2 ∧ Nx r nl sl ll lx H H2 := fun R2 n2 => ⟨_, _, s2, rfl, h2, R2, nx.trans R1 n2⟩
    dsimp only
    refine Pst.go (K := K) ?_
    cases x with
    | set pt t =>
      unfold encS at tx
      simp only [stepF] at hst
      cases q1 : numF M t f s1 with
      | none => rw [q1] at hst; cases hst
      | some x1 =>
        obtain ⟨vn, sa⟩ := x1
        rw [q1] at hst
        dsimp only at hst
        cases q2 : findF M pt f sa with
        | none => rw [q2] at hst; cases hst
        | some x2 =>
          obtain ⟨o, sb⟩ := x2
          rw [q2] at hst
          have q3 : putO o vn sb = some s2 := by
            cases o with
            | none => exact hst
            | some pp => exact hst
          refine pst_if (K := K) (b := true) ?_ (fun _ => pst_of fun H2 e2 => ?_) (fun hb => by cases hb)
          · apply tk_is
            · walk_at "et"
            · simp
          have W2 := W1.ex e2
          obtain ⟨dx, hob⟩ := W2.run.ob
          replace tx := tx.ex e2
          refine w_drop (w_meth rfl hob (by rfl) (w_cons (w_d (K := K) (d := encT pt) ?_ fun v1 H3 e3 t3 => ?_)))
          · walk_at "ev"
          have W3 := W2.ex e3
          obtain ⟨dx3, hob3⟩ := W3.run.ob
          replace tx := tx.ex e3
          refine w_cons (w_meth rfl hob3 (by rfl) (w_cons (w_d (K := K) (d := encT t) ?_ fun v4 H4 e4 t4 => ?_)))
          · walk_at "ev"
          have W4 := W3.ex e4
          have n4 : Nx r nl sl ll1 ll1 H1 H4 := Nx.of ((e2.trans e3).trans e4)
          refine w_cons (w_v rfl (w_nil ⟨r, nl, sl, ll1, pw0, yw0, v4, s1, sa, t, fa, f, vn, rfl, W4.run, hlt, t4, hf1.nx n4, q1, fun H5 R5 f5 => ?_⟩))
          have n5 : Nx r nl sl ll1 ll1 H1 H5 := n4.trans W4.run ⟨f5.r4, .inl rfl⟩
          have t5 : Td K H5 v1 (encT pt) := (t3.ex e4).kp (W4.run.keep1 f5)
          refine w_cons (w_v rfl (w_nil ⟨r, nl, sl, ll1, pw0, yw0, v1, sa, sb, pt, fa, f, o, vn, rfl, R5, by rw [(numF_lent q1).1]; exact hlt, t5, hf1.nx n5, q2, by rw [q3]; rfl, fun s6 H6 h6 R6 f6 => ?_⟩))
          rw [q3] at h6
          cases h6
          exact fin R6 (n5.trans R5 ⟨f6.sub (by simp [sR]), .inl rfl⟩)
    | say t =>
      unfold encS at tx
      simp only [stepF] at hst
      cases q1 : numF M t f s1 with
      | none => rw [q1] at hst; cases hst
      | some x1 =>
        obtain ⟨vn, sa⟩ := x1
        rw [q1] at hst
        dsimp only at hst
        have q3 : sa.said.length < mostL := by
          split at hst
          · assumption
          · cases hst
        rw [if_pos q3] at hst
        cases hst
        refine pst_if (K := K) (b := false) ?_ (fun hb => by cases hb) (fun _ => ?_)
        · apply tk_is
          · walk_at "et"
          · simp
        refine pst_if (K := K) (b := true) ?_ (fun _ => pst_of fun H2 e2 => ?_) (fun hb => by cases hb)
        · apply tk_is
          · walk_at "et"
          · simp
        have W2 := W1.ex e2
        obtain ⟨dx, hob⟩ := W2.run.ob
        replace tx := tx.ex e2
        refine w_appF rfl hob T.c_Run T.na_Run_said (by rfl) W2.run.said (w_meth rfl hob (by rfl) (w_cons (w_d (K := K) (d := encT t) ?_ fun v4 H4 e4 t4 => ?_)))
        · walk_at "ev"
        have W4 := W2.ex e4
        have n4 : Nx r nl sl ll1 ll1 H1 H4 := Nx.of (e2.trans e4)
        refine w_cons (w_v rfl (w_nil ⟨r, nl, sl, ll1, pw0, yw0, v4, s1, sa, t, fa, f, vn, rfl, W4.run, hlt, t4, hf1.nx n4, q1, fun H5 R5 f5 => ?_⟩))
        have n5 : Nx r nl sl ll1 ll1 H1 H5 := n4.trans W4.run ⟨f5.r4, .inl rfl⟩
        refine ⟨nV sa.said, R5.said, ?_, ?_⟩
        · simp only [nV, List.length_map]
          exact sz_lt (by unfold mostL at q3; omega)
        exact fin R5.adds (n5.trans R5 ⟨Fr.upd (by simp [sR]), .inl rfl⟩)
    | ite t ba bb =>
      unfold encS at tx
      simp only [stepF] at hst
      cases q1 : numF M t f s1 with
      | none => rw [q1] at hst; cases hst
      | some x1 =>
        obtain ⟨vn, sa⟩ := x1
        rw [q1] at hst
        dsimp only at hst
        refine pst_if (K := K) (b := false) ?_ (fun hb => by cases hb) (fun _ => ?_)
        · apply tk_is
          · walk_at "et"
          · simp
        refine pst_if (K := K) (b := false) ?_ (fun hb => by cases hb) (fun _ => ?_)
        · apply tk_is
          · walk_at "et"
          · simp
        refine pst_if (K := K) (b := true) ?_ (fun _ => pst_of fun H2 e2 => ?_) (fun hb => by cases hb)
        · apply tk_is
          · walk_at "et"
          · simp
        have W2 := W1.ex e2
        obtain ⟨dx, hob⟩ := W2.run.ob
        replace tx := tx.ex e2
        refine w_drop (w_meth rfl hob (by rfl) (w_cons (w_if (w_test (w_op (w_meth rfl hob (by rfl) (w_cons (w_d (K := K) (d := encT t) ?_ fun v4 H4 e4 t4 => ?_))))))))
        · walk_at "ev"
        have W4 := W2.ex e4
        have n4 : Nx r nl sl ll1 ll1 H1 H4 := Nx.of (e2.trans e4)
        refine w_cons (w_v rfl (w_nil ⟨r, nl, sl, ll1, pw0, yw0, v4, s1, sa, t, fa, f, vn, rfl, W4.run, hlt, t4, hf1.nx n4, q1, fun H5 R5 f5 => w_c ⟨by rfl, _, rfl, ?_⟩⟩))
        have n5 : Nx r nl sl ll1 ll1 H1 H5 := n4.trans W4.run ⟨f5.r4, .inl rfl⟩
        have kp5 : Keep K H4 H5 := W4.run.keep1 f5
        have hla : sa.lent.length ≤ mostL := by rw [(numF_lent q1).1]; exact hlt
        have W5 : RunW K p ys r nl sl ll1 pw0 yw0 sa H5 := ⟨R5, W4.tp.kp kp5, W4.ty.kp kp5, hla⟩
        replace tx := (tx.ex e4).kp kp5
        by_cases hv : vn = 0
        · have eV : (!decide (V.int (vn : Int) = V.int 0)) = false := by simp [hv]
          rw [if_neg (by simpa using hv)] at hst
          have hmb : bb ∈ bods (.ite t ba bb) := by simp [bods]
          have hb2 := bods_sm (smB_mem hcal.1 hmem) hmb
          rw [eV]
          refine iteF (w_d (K := K) (d := .tuple (encB bb)) ?_ fun v6 H6 e6 t6 => ?_)
          · walk_at "ev"
          have W6 := W5.ex e6
          have n6 := n5.ex e6
          exact w_cons (w_v rfl (w_nil ⟨r, nl, sl, ll1, pw0, yw0, v6, sa, s2, bb, fa, f, rfl, W6, t6, ⟨hb2.2, hb2.1, fun z hz => hcal.2.2 z (callsB_mem hmem (callsS_bods hmb hz))⟩, hf1.nx n6, hst, fun ll2 H7 R7 f7 h7 => fin R7 (n6.trans W6.run ⟨f7, h7⟩)⟩))
        · have eV : (!decide (V.int (vn : Int) = V.int 0)) = true := by simp [hv]
          rw [if_pos (by simpa using hv)] at hst
          have hmb : ba ∈ bods (.ite t ba bb) := by simp [bods]
          have hb2 := bods_sm (smB_mem hcal.1 hmem) hmb
          rw [eV]
          refine iteT (w_d (K := K) (d := .tuple (encB ba)) ?_ fun v6 H6 e6 t6 => ?_)
          · walk_at "ev"
          have W6 := W5.ex e6
          have n6 := n5.ex e6
          exact w_cons (w_v rfl (w_nil ⟨r, nl, sl, ll1, pw0, yw0, v6, sa, s2, ba, fa, f, rfl, W6, t6, ⟨hb2.2, hb2.1, fun z hz => hcal.2.2 z (callsB_mem hmem (callsS_bods hmb hz))⟩, hf1.nx n6, hst, fun ll2 H7 R7 f7 h7 => fin R7 (n6.trans W6.run ⟨f7, h7⟩)⟩))
    | call c ts =>
      unfold encS at tx
      refine pst_if (K := K) (b := false) ?_ (fun hb => by cases hb) (fun _ => ?_)
      · apply tk_is
        · walk_at "et"
        · simp
      refine pst_if (K := K) (b := false) ?_ (fun hb => by cases hb) (fun _ => ?_)
      · apply tk_is
        · walk_at "et"
        · simp
      refine pst_if (K := K) (b := false) ?_ (fun hb => by cases hb) (fun _ => pst_of fun H2 e2 => ?_)
      · apply tk_is
        · walk_at "et"
        · simp
      have W2 := W1.ex e2
      obtain ⟨dx, hob⟩ := W2.run.ob
      replace tx := tx.ex e2
      obtain ⟨ws, hws, hwl⟩ := hcal.2.2 (c, ts) (callsB_mem hmem (by simp [callsS]))
      have hsm : ts.length ≤ 1000 := by
        have := smB_mem hcal.1 hmem
        simpa [smS] using this
      refine w_drop (w_meth rfl hob (by rfl) (w_cons (w_d (K := K) (d := .int (c : Int)) ?_ fun v3 H3 e3 t3 => w_cons (w_d (K := K) (d := .tuple (ts.map encT)) ?_ fun v4 H4 e4 t4 => ?_))))
      · walk_at "ev"
      · replace tx := tx.ex e3
        walk_at "ev"
      cases t3
      have W4 := W2.ex (e3.trans e4)
      have n4 : Nx r nl sl ll1 ll1 H1 H4 := Nx.of (e2.trans (e3.trans e4))
      exact w_cons (w_v rfl (w_nil ⟨r, nl, sl, ll1, pw0, yw0, v4, s1, s2, c, ts, fa, f, rfl, W4, t4, ⟨ws, hws, hwl⟩, hsm, hf1.nx n4, hst, fun ll2 H5 R5 f5 h5 => fin R5 (n4.trans W4.run ⟨f5, h5⟩)⟩))
  · rintro σ' H1 ⟨u3, ll1, s1, rfl, h1, R1, nx⟩
    rw [List.take_length, hgo] at h1
    cases h1
    exact k ll1 H1 R1 nx.1 nx.2
end
end Hw

set_option maxRecDepth 100000
set_option maxHeartbeats 4000000
/-! RU7: calls by the program -/
namespace Hw
open PySem PySem.Spec PyProof.Rows L2 Evl
local macro_rules | `(tactic| walk_at "dd") => `(tactic| first | rfl | decide | (simp; done) | omega)
local macro_rules | `(tactic| walk_at "td") => `(tactic| first | assumption | exact Td.int _ | exact Td.bl _ | exact Td.str _ | exact Td.non | exact Td.tup (by assumption) (by assumption))
local macro_rules | `(tactic| walk_at "ev") => `(tactic| first
  | exact ed_ci | exact ed_cs | exact ed_cb | exact ed_cn
  | (apply ed_cg; assumption)
  | (apply ed_var; (rfl); (walk_at "td"))
  | (apply ed_ixT; (walk_at "ev"); (walk_at "ev"); (first | rfl | assumption))
  | (apply ed_rowI; (rfl); (assumption); (walk_at "ev"); (rfl))
  | (apply ed_ixL; (apply EvDL.rd; walk_at "edl"); (walk_at "ev"); (rfl))
  | (apply ed_intb; (walk_at "ev"))
  | (apply ed_len; walk_at "ev")
  | (apply ed_lenV; (apply ev_rowR; (rfl); (assumption); (walk_at "ev"); (rfl)); (assumption))
  | (apply ed_Ii; (walk_at "ev"); (walk_at "ev"); (walk_at "cc"))
  | (apply ed_isi; (walk_at "ev"); (rfl))
  | (apply ed_I0i; (walk_at "ev"); (walk_at "ev"))
  | (apply ed_I0b; (walk_at "ev"); (walk_at "ev"))
  | (apply ed_eqi; (walk_at "ev"); (walk_at "ev"))
  | (apply ed_nei; (walk_at "ev"); (walk_at "ev"))
  | (apply ed_andF; walk_at "ev")
  | (apply ed_andV; (walk_at "ev"); (intro _; walk_at "ev"))
  | (apply ed_orT; walk_at "ev")
  | (apply ed_orV; (walk_at "ev"); (intro _; walk_at "ev"))
  | (apply ed_notT; walk_at "ev")
  | (apply ed_notF; walk_at "ev")
  | (apply ed_notV; walk_at "ev")
  | (apply ed_chain; (walk_at "ev"); (walk_at "ev"); (intro _; walk_at "ev"))
  | (apply ed_eqS; (walk_at "ev"); (walk_at "ev"); (walk_at "bb"); (walk_at "bb"))
  | (apply ed_neS; (walk_at "ev"); (walk_at "ev"); (walk_at "bb"); (walk_at "bb"))
  | (apply ed_inT; (walk_at "ev"); (walk_at "ev"); (rfl); (rfl))
  | (apply ed_niT; (walk_at "ev"); (walk_at "ev"); (rfl); (rfl))
  | (apply ed_tup; (walk_at "eva"); (walk_at "bb"))
  | (apply ed_sl; (walk_at "ev"); (walk_at "evo"); (walk_at "evo"))
  | (apply ed_eqN; (apply EvDL.rd; walk_at "edl"); (walk_at "edl"); (walk_at "bb"))
  | (apply ed_neN; (apply EvDL.rd; walk_at "edl"); (walk_at "edl"); (walk_at "bb"))
  | (apply ed_ixL; (apply edr_var; (rfl); (assumption); (assumption)); (walk_at "ev"); (first | rfl | assumption))
  | (apply ed_lenL; (apply edr_var; (rfl); (assumption); (assumption)))
  | (apply ed_call; (walk_at "eva"); (walk_at "post")))
local macro_rules | `(tactic| walk_at "edl") => `(tactic| first
  | assumption
  | (apply edl_lst; (walk_at "eva"); (walk_at "bb")))
local macro_rules | `(tactic| walk_at "eva") => `(tactic| first
  | exact eda_nil
  | (apply eda_cons; (walk_at "ev"); (walk_at "eva")))
local macro_rules | `(tactic| walk_at "evo") => `(tactic| first
  | exact eok_none
  | (apply eok_some; walk_at "ev"))
local macro_rules | `(tactic| walk_at "bb") => `(tactic| first | rfl | assumption | (simp; done) | (simp; omega) | decide +kernel)
local macro_rules | `(tactic| walk_at "et") => `(tactic| first
  | exact tk_yes
  | (apply tk_andF; walk_at "et")
  | (apply tk_and; (walk_at "et"); (intro _; walk_at "et"))
  | (apply tk_orT; walk_at "et")
  | (apply tk_or; (walk_at "et"); (intro _; walk_at "et"))
  | (apply tk_notT; walk_at "et")
  | (apply tk_notF; walk_at "et")
  | (apply tk_not; walk_at "et")
  | (apply tk_v; walk_at "ev")
  | (apply tk_vB; walk_at "ev"))
local macro_rules | `(tactic| walk_at "if") => `(tactic| first
  | (apply pst_whenF; (walk_at "et"); (walk_at "bb"))
  | (apply pst_whenT; (walk_at "et"); (walk_at "bb")))
local macro_rules | `(tactic| walk_at "post") => `(tactic| first | assumption | exact ⟨_, _, rfl, rfl⟩ | exact ⟨_, _, _, _, rfl, by omega, by omega, rfl⟩ | exact ⟨_, _, _, 0, rfl, by omega, by omega, rfl⟩)
local macro_rules | `(tactic| walk_at "cc") => `(tactic| first | assumption | decide | omega | (refine ⟨?_, ?_⟩ <;> first | decide | omega) | (exact Or.inl (by constructor <;> omega)))

theorem handAll_snoc {M : Nat} {f : Fra} {t : Th} {w : Str} : ∀ {ts : List Th} {ws : List Str} {s : Sg}, ts.length = ws.length → handAll M (ts ++ [t]) (ws ++ [w]) f s = match handAll M ts ws f s with
    | none => none
    | some (hs, bs, s1) => match handF M t w f s1 with
      | none => none
      | some (h, b, s2) => some (hs ++ [h], bs ++ [b], s2)
  | [], [], s, _ => by
    simp only [List.nil_append, handAll]
    all_goals (rcases handF M t w f s with _ | ⟨h, b, s1⟩ <;> rfl)
  | [], _ :: _, s, h => by simp at h
  | _ :: _, [], s, h => by simp at h
  | t' :: ts, w' :: ws, s, h => by
    have hl : ts.length = ws.length := by simpa using h
    simp only [List.cons_append, handAll]
    cases handF M t' w' f s with
    | none => rfl
    | some x =>
      obtain ⟨h1, b1, s1⟩ := x
      dsimp only
      rw [handAll_snoc hl]
      cases handAll M ts ws f s1 with
      | none => rfl
      | some y =>
        obtain ⟨hs, bs, s2⟩ := y
        dsimp only
        cases handF M t w f s2 with
        | none => rfl
        | some z => obtain ⟨h3, b3, s3⟩ := z; rfl
theorem handAll_take {M : Nat} {f : Fra} : ∀ {ts : List Th} {ws : List Str} {s : Sg} {x : List Hd × List (Option (Nat × Nat)) × Sg} (i : Nat), handAll M ts ws f s = some x → ∃ y, handAll M (ts.take i) (ws.take i) f s = some y
  | [], ws, s, x, i, h => by simp [handAll]
  | t :: ts, [], s, x, i, h => by simp [handAll] at h
  | t :: ts, w :: ws, s, x, 0, h => by simp [handAll]
  | t :: ts, w :: ws, s, x, i + 1, h => by
    simp only [handAll] at h
    simp only [List.take_succ_cons, handAll]
    cases h1 : handF M t w f s with
    | none => rw [h1] at h; cases h
    | some z =>
      obtain ⟨hd, b, s1⟩ := z
      rw [h1] at h
      dsimp only at h ⊢
      cases h2 : handAll M ts ws f s1 with
      | none => rw [h2] at h; cases h
      | some y =>
        obtain ⟨y2, h3⟩ := handAll_take i h2
        rw [h3]
        exact ⟨_, rfl⟩
theorem handAll_at {M : Nat} {f : Fra} {ts : List Th} {ws : List Str} {s : Sg} {x : List Hd × List (Option (Nat × Nat)) × Sg} {i : Nat} {t : Th} {w : Str} {hs : List Hd} {bs : List (Option (Nat × Nat))} {s1 : Sg} (hl : ts.length = ws.length) (h : handAll M ts ws f s = some x) (ht : ts[i]? = some t) (hw : ws[i]? = some w) (h1 : handAll M (ts.take i) (ws.take i) f s = some (hs, bs, s1)) :
    ∃ hd b s2, handF M t w f s1 = some (hd, b, s2) ∧ handAll M (ts.take (i + 1)) (ws.take (i + 1)) f s = some (hs ++ [hd], bs ++ [b], s2) := by
  obtain ⟨y, h2⟩ := handAll_take (i + 1) h
  have h3 := h2
  rw [take_snoc ht, take_snoc hw, handAll_snoc (by simp [hl]), h1] at h2
  dsimp only at h2
  cases h4 : handF M t w f s1 with
  | none => rw [h4] at h2; cases h2
  | some z =>
    obtain ⟨hd, b, s2⟩ := z
    rw [h4] at h2
    dsimp only at h2
    refine ⟨hd, b, s2, rfl, ?_⟩
    rw [take_snoc ht, take_snoc hw, handAll_snoc (by simp [hl]), h1]
    dsimp only
    rw [h4]
/-- the ones that are laid back, as they stand -/
def bD (bs : List (Option (Nat × Nat))) : List PyData := (bs.filterMap id).map fun x => .tuple [.int (x.1 : Int), .int (x.2 : Int)]
theorem bD_none {bs : List (Option (Nat × Nat))} : bD (bs ++ [none]) = bD bs := by simp [bD]
theorem bD_some {bs : List (Option (Nat × Nat))} {x : Nat × Nat} : bD (bs ++ [some x]) = bD bs ++ [.tuple [.int (x.1 : Int), .int (x.2 : Int)]] := by simp [bD]
def wayT : List Str := ["copy", "place", "back", "want"]
theorem way_of {w : Str} (h : isWay w = true) : w = "back" ∨ w = "copy" ∨ w = "place" ∨ w = "want" := by
  simp only [isWay, List.any_cons, List.any_nil, Bool.or_false, Bool.or_eq_true] at h
  have e : ∀ {a b : Str}, PyData.eqv (.str a) (.str b) = true → b = a := fun {a b} h => by
    simp [PyData.eqv] at h
    exact h.symm
  rcases h with h | h | h | h
  · exact .inl (e h)
  · exact .inr (.inl (e h))
  · exact .inr (.inr (.inl (e h)))
  · exact .inr (.inr (.inr (e h)))
section
variable {K : PySem.W.Frag} {σ : L2.St} {H H' H2 Hs : Hp} {D : Ends} {tu tz : TS} {ta : TA}
/-- for a, b in zip of two tuples, whatever is done -/
theorem w_forZv {α β : Type} {j l : Nat} (xs : List α) (ys : List β) (f : α → PyData) (g : β → PyData) (h : EvDA K ta σ H [.tuple (xs.map f), .tuple (ys.map g)]) (hl : xs.length = ys.length) (Pv : Hp → Nat → L2.St → Hp → Prop)
    (h0 : ∀ H1, Ex H H1 → Pv H1 0 σ H1) (hk : ∀ H1 i σ' H', Ex H H1 → Pv H1 i σ' H' → Keep K H1 H') (hex : ∀ H1 i σ' H' H'', Pv H1 i σ' H' → Ex H' H'' → Pv H1 i σ' H'')
    (hs : ∀ H1 i x y v u σ' H', xs[i]? = some x → ys[i]? = some y → Ex H H1 → Td K H' v (f x) → Td K H' u (g y) → Pv H1 i σ' H' → tu { D with nx := Pv H1 (i + 1), ct := Pv H1 (i + 1), bk := D.nx } ((σ'.set j (some v)).set l (some u)) H')
    (hd : ∀ H1 σ' H', Ex H H1 → Pv H1 xs.length σ' H' → D.nx σ' H') : tFor (RZ.iZipA K ta) (gTup K 2 (gCons (gName j) (gCons (gName l) gNil))) tu D σ H := h H (Ex.refl H) _ fun ws H1 e tw => by
  obtain _ | ⟨w1, _ | ⟨w2, _ | _⟩⟩ := tw
  obtain ⟨pa, xa, rfl, ha, alla⟩ := w1.tup_inv
  obtain ⟨pb, xb, rfl, hb, allb⟩ := w2.tup_inv
  have la := alla.length
  have lb := allb.length
  rw [List.length_map] at la lb
  refine ⟨pa, pb, xa, xb, rfl, .inr ⟨ha, hb, RZ.for_zipT (xs := xa) (ys := xb) (by omega) (Pv H1) (h0 H1 e) (fun i σ' H' q => ⟨hk H1 i σ' H' e q _ _ ha, hk H1 i σ' H' e q _ _ hb⟩) (fun i x y T σ' H' hx hy q hT => ?_) (fun σ' H' q => hd H1 σ' H' e (by rw [← la]; exact q))⟩⟩
  obtain ⟨d1, hd1, td1⟩ := alla.getV hx
  obtain ⟨d2, hd2, td2⟩ := allb.getV hy
  rw [List.getElem?_map] at hd1 hd2
  obtain ⟨z1, hz1, rfl⟩ := Option.map_eq_some_iff.mp hd1
  obtain ⟨z2, hz2, rfl⟩ := Option.map_eq_some_iff.mp hd2
  have e4 : Ex H' (upd H' T (.tup [x, y])) := Ex.new hT
  refine ⟨T, [x, y], rfl, SqT.of upd_same, rfl, x, [y], rfl, y, [], rfl, rfl, ?_⟩
  exact hs H1 i z1 z2 x y σ' (upd H' T (.tup [x, y])) hz1 hz2 e ((td1.kp (hk H1 i σ' H' e q)).ex e4) ((td2.kp (hk H1 i σ' H' e q)).ex e4) (hex H1 i σ' H' _ q e4)
variable {r nl sl ll fi lp lo dxi bk : Addr} {pw0 yw0 : V} {s s' : Sg} {hs : List Hd} {bs : List (Option (Nat × Nat))} {h : Hd}
/-- the call's own objects stand apart -/
structure Apart (r nl sl ll fi lp bk : Addr) : Prop where
  a1 : fi ∉ sR r nl sl ll
  a2 : lp ∉ sR r nl sl ll
  a3 : bk ∉ sR r nl sl ll
  a4 : fi ≠ lp
  a5 : fi ≠ bk
  a6 : lp ≠ bk
/-- amid a call's things -/
structure LI (K : PySem.W.Frag) (r nl sl ll fi lp lo dxi bk : Addr) (pw0 yw0 : V) (Hs : Hp) (s : Sg) (hs : List Hd) (bs : List (Option (Nat × Nat))) (H : Hp) : Prop where
  run : RunAt K r nl sl ll pw0 yw0 s H
  fr : H fi = some (.ins (He.ga K "Frame") dxi [("owns", .ref lo), ("pars", .ref lp)])
  ps : ∃ us, H lp = some (.lst us) ∧ PHds K (Ofs (lp :: fi :: bk :: sR r nl sl ll) H) us hs
  bs : ∃ bv, H bk = some (.lst bv) ∧ TdAll K H bv (bD bs)
  f : Fr (lp :: bk :: sR r nl sl ll) Hs H
theorem LI.fr1 (L : LI K r nl sl ll fi lp lo dxi bk pw0 yw0 Hs s hs bs H) (A : Apart r nl sl ll fi lp bk) (f : Fr (sR r nl sl ll) H H') (R : RunAt K r nl sl ll pw0 yw0 s' H') : LI K r nl sl ll fi lp lo dxi bk pw0 yw0 Hs s' hs bs H' := by
  obtain ⟨us, u1, u2⟩ := L.ps
  obtain ⟨bv, b1, b2⟩ := L.bs
  exact ⟨R, f _ _ A.a1 L.fr, ⟨us, f _ _ A.a2 u1, u2.ex (ofs_fr (f.sub (by simp +contextual)))⟩, ⟨bv, f _ _ A.a3 b1, b2.kp (L.run.keep f)⟩, L.f.trans (f.sub (by simp +contextual))⟩
theorem LI.ex (L : LI K r nl sl ll fi lp lo dxi bk pw0 yw0 Hs s hs bs H) (e : Ex H H') : LI K r nl sl ll fi lp lo dxi bk pw0 yw0 Hs s hs bs H' := by
  obtain ⟨us, u1, u2⟩ := L.ps
  obtain ⟨bv, b1, b2⟩ := L.bs
  exact ⟨L.run.ex e, e _ _ L.fr, ⟨us, e _ _ u1, u2.ex (ofs_fr (Fr.of e))⟩, ⟨bv, e _ _ b1, b2.ex e⟩, L.f.trans (Fr.of e)⟩
/-- one more handed -/
theorem PHds.snoc {F : Hp} : ∀ {vs : List V} {hs : List Hd} {v : V} {h : Hd}, PHds K F vs hs → PHd K F v h → PHds K F (vs ++ [v]) (hs ++ [h])
  | _, _, _, _, .nil, g => .cons g .nil
  | _, _, _, _, .cons a b, g => .cons a (PHds.snoc b g)
theorem LI.push {us : List V} {v : V} (L : LI K r nl sl ll fi lp lo dxi bk pw0 yw0 Hs s hs bs H) (A : Apart r nl sl ll fi lp bk) (hu : H lp = some (.lst us)) (g : PHd K (Ofs (lp :: fi :: bk :: sR r nl sl ll) H) v h) : LI K r nl sl ll fi lp lo dxi bk pw0 yw0 Hs s (hs ++ [h]) bs (upd H lp (.lst (us ++ [v]))) := by
  obtain ⟨us', u1, u2⟩ := L.ps
  rw [hu] at u1
  cases u1
  obtain ⟨bv, b1, b2⟩ := L.bs
  have e : Ex (Ofs (lp :: fi :: bk :: sR r nl sl ll) H) (Ofs (lp :: fi :: bk :: sR r nl sl ll) (upd H lp (.lst (us ++ [v])))) := ofs_fr (Fr.upd (by simp))
  exact ⟨L.run.updo hu A.a2, by rw [upd_ne A.a4]; exact L.fr, ⟨_, upd_same, (u2.ex e).snoc (g.ex e)⟩, ⟨bv, by rw [upd_ne (Ne.symm A.a6)]; exact b1, b2.kp (Keep.upd hu True.intro)⟩, L.f.trans (Fr.upd (by simp))⟩
theorem LI.skip (L : LI K r nl sl ll fi lp lo dxi bk pw0 yw0 Hs s hs bs H) : LI K r nl sl ll fi lp lo dxi bk pw0 yw0 Hs s hs (bs ++ [none]) H := ⟨L.run, L.fr, L.ps, by rw [bD_none]; exact L.bs, L.f⟩
/-- one more laid back -/
theorem LI.back {bv : List V} {v : V} {x : Nat × Nat} (L : LI K r nl sl ll fi lp lo dxi bk pw0 yw0 Hs s hs bs H) (A : Apart r nl sl ll fi lp bk) (hb : H bk = some (.lst bv)) (t : Td K H v (.tuple [.int (x.1 : Int), .int (x.2 : Int)])) : LI K r nl sl ll fi lp lo dxi bk pw0 yw0 Hs s hs (bs ++ [some x]) (upd H bk (.lst (bv ++ [v]))) := by
  obtain ⟨us, u1, u2⟩ := L.ps
  obtain ⟨bv', b1, b2⟩ := L.bs
  rw [hb] at b1
  cases b1
  have kk : Keep K H (upd H bk (.lst (bv ++ [v]))) := Keep.upd hb True.intro
  exact ⟨L.run.updo hb A.a3, by rw [upd_ne A.a5]; exact L.fr, ⟨us, by rw [upd_ne A.a6]; exact u1, u2.ex (ofs_fr (Fr.upd (by simp)))⟩, ⟨_, upd_same, by rw [bD_some]; exact (b2.kp kk).snoc (t.kp kk)⟩, L.f.trans (Fr.upd (by simp))⟩
theorem LI.mu (L : LI K r nl sl ll fi lp lo dxi bk pw0 yw0 Hs s hs bs H) : ∀ a ∈ lp :: fi :: bk :: sR r nl sl ll, ∃ u, H a = some u ∧ Mut (some u) := fun a ha => by
  obtain ⟨us, u1, _⟩ := L.ps
  obtain ⟨bv, b1, _⟩ := L.bs
  rcases List.mem_cons.mp ha with e | ha
  · rw [e]; exact ⟨_, u1, True.intro⟩
  rcases List.mem_cons.mp ha with e | ha
  · rw [e]; exact ⟨_, L.fr, True.intro⟩
  rcases List.mem_cons.mp ha with e | ha
  · rw [e]; exact ⟨_, b1, True.intro⟩
  exact L.run.mu a ha
theorem LI.off {x : Addr} (L : LI K r nl sl ll fi lp lo dxi bk pw0 yw0 Hs s hs bs H) (hx : H x = none) : x ∉ lp :: fi :: bk :: sR r nl sl ll := fun hm => by
  obtain ⟨u, hu, _⟩ := L.mu x hm
  rw [hx] at hu
  cases hu
theorem keep_ofs {S : List Addr} (m : ∀ a ∈ S, ∃ u, H a = some u ∧ Mut (some u)) : Keep K H (Ofs S H) := fun b xs q => by
  have ne : ∀ u, H b = some u → ¬ Mut (some u) → b ∉ S := fun u hu nm hb => by
    obtain ⟨u2, h2, m2⟩ := m b hb
    rw [hu] at h2
    cases h2
    exact nm m2
  rcases q with (q | ⟨oo, q⟩) | q
  · exact .inl (.inl (ofs_get q (ne _ q fun z => z)))
  · exact .inl (.inr ⟨oo, ofs_get q (ne _ q fun z => z)⟩)
  · exact .inr q
theorem PHds.length {F : Hp} : ∀ {vs : List V} {hs : List Hd}, PHds K F vs hs → vs.length = hs.length
  | _, _, .nil => rfl
  | _, _, .cons _ b => by simp [PHds.length b]
theorem RunAt.setm {dx : Addr} {m : Nat} (h : RunAt K r nl sl ll pw0 yw0 s H) : RunAt K r nl sl ll pw0 yw0 { s with many := m } (upd H r (.ins (He.ga K "Run") dx (runFs pw0 yw0 nl sl ll { s with many := m }))) := by
  obtain ⟨dx', h1⟩ := h.ob
  obtain ⟨vs, h2, h3⟩ := h.lent
  obtain ⟨n1, n2, n3⟩ := h.ne
  exact ⟨⟨dx, upd_same⟩, by rw [upd_ne (Ne.symm n1)]; exact h.nums, by rw [upd_ne (Ne.symm n2)]; exact h.said, ⟨vs, by rw [upd_ne (Ne.symm n3)]; exact h2, h3.kp (Keep.upd h1 True.intro)⟩, h.d1, h.d2, h.d3⟩
theorem RunAt.addl {vs : List V} {v : V} {x : Nat × Nat} (h : RunAt K r nl sl ll pw0 yw0 s H) (hv : H ll = some (.lst vs)) (t : Td K H v (.tuple [.int (x.1 : Int), .int (x.2 : Int)])) : RunAt K r nl sl ll pw0 yw0 { s with lent := s.lent ++ [x] } (upd H ll (.lst (vs ++ [v]))) := by
  obtain ⟨dx, h1⟩ := h.ob
  obtain ⟨vs', h2, h3⟩ := h.lent
  rw [hv] at h2
  cases h2
  obtain ⟨n1, n2, n3⟩ := h.ne
  have kk : Keep K H (upd H ll (.lst (vs ++ [v]))) := Keep.upd hv True.intro
  exact ⟨⟨dx, by rw [upd_ne n3]; exact h1⟩, by rw [upd_ne h.d2]; exact h.nums, by rw [upd_ne h.d3]; exact h.said, ⟨_, upd_same, by rw [List.map_append]; exact (h3.kp kk).snoc (t.kp kk)⟩, h.d1, h.d2, h.d3⟩
theorem RunAt.setl {dx ll' : Addr} {vs : List V} {l : List (Nat × Nat)} (h : RunAt K r nl sl ll pw0 yw0 s H) (hv : H ll' = some (.lst vs)) (t : TdAll K H vs (l.map fun x => .tuple [.int (x.1 : Int), .int (x.2 : Int)])) (n1 : ll' ≠ r) (n2 : nl ≠ ll') (n3 : sl ≠ ll') : RunAt K r nl sl ll' pw0 yw0 { s with lent := l } (upd H r (.ins (He.ga K "Run") dx (runFs pw0 yw0 nl sl ll' { s with lent := l }))) := by
  obtain ⟨dx', h1⟩ := h.ob
  obtain ⟨m1, m2, m3⟩ := h.ne
  exact ⟨⟨dx, upd_same⟩, by rw [upd_ne (Ne.symm m1)]; exact h.nums, by rw [upd_ne (Ne.symm m2)]; exact h.said, ⟨vs, by rw [upd_ne n1]; exact hv, t.kp (Keep.upd h1 True.intro)⟩, h.d1, n2, n3⟩
end
end Hw

set_option maxRecDepth 100000
set_option maxHeartbeats 4000000
/-! RU8: calls by the program -/
namespace Hw
open PySem PySem.Spec PyProof.Rows L2 Evl
local macro_rules | `(tactic| walk_at "dd") => `(tactic| first | rfl | decide | (simp; done) | omega)
local macro_rules | `(tactic| walk_at "td") => `(tactic| first | assumption | exact Td.int _ | exact Td.bl _ | exact Td.str _ | exact Td.non | exact Td.tup (by assumption) (by assumption))
local macro_rules | `(tactic| walk_at "ev") => `(tactic| first
  | exact ed_ci | exact ed_cs | exact ed_cb | exact ed_cn
  | (apply ed_cg; assumption)
  | (apply ed_var; (rfl); (walk_at "td"))
  | (apply ed_ixT; (walk_at "ev"); (walk_at "ev"); (first | rfl | assumption))
  | (apply ed_rowI; (rfl); (assumption); (walk_at "ev"); (rfl))
  | (apply ed_ixL; (apply EvDL.rd; walk_at "edl"); (walk_at "ev"); (rfl))
  | (apply ed_intb; (walk_at "ev"))
  | (apply ed_len; walk_at "ev")
  | (apply ed_lenV; (apply ev_rowR; (rfl); (assumption); (walk_at "ev"); (rfl)); (assumption))
  | (apply ed_Ii; (walk_at "ev"); (walk_at "ev"); (walk_at "cc"))
  | (apply ed_isi; (walk_at "ev"); (rfl))
  | (apply ed_I0i; (walk_at "ev"); (walk_at "ev"))
  | (apply ed_I0b; (walk_at "ev"); (walk_at "ev"))
  | (apply ed_eqi; (walk_at "ev"); (walk_at "ev"))
  | (apply ed_nei; (walk_at "ev"); (walk_at "ev"))
  | (apply ed_andF; walk_at "ev")
  | (apply ed_andV; (walk_at "ev"); (intro _; walk_at "ev"))
  | (apply ed_orT; walk_at "ev")
  | (apply ed_orV; (walk_at "ev"); (intro _; walk_at "ev"))
  | (apply ed_notT; walk_at "ev")
  | (apply ed_notF; walk_at "ev")
  | (apply ed_notV; walk_at "ev")
  | (apply ed_chain; (walk_at "ev"); (walk_at "ev"); (intro _; walk_at "ev"))
  | (apply ed_eqS; (walk_at "ev"); (walk_at "ev"); (walk_at "bb"); (walk_at "bb"))
  | (apply ed_neS; (walk_at "ev"); (walk_at "ev"); (walk_at "bb"); (walk_at "bb"))
  | (apply ed_inT; (walk_at "ev"); (walk_at "ev"); (rfl); (rfl))
  | (apply ed_niT; (walk_at "ev"); (walk_at "ev"); (rfl); (rfl))
  | (apply ed_tup; (walk_at "eva"); (walk_at "bb"))
  | (apply ed_sl; (walk_at "ev"); (walk_at "evo"); (walk_at "evo"))
  | (apply ed_eqN; (apply EvDL.rd; walk_at "edl"); (walk_at "edl"); (walk_at "bb"))
  | (apply ed_neN; (apply EvDL.rd; walk_at "edl"); (walk_at "edl"); (walk_at "bb"))
  | (apply ed_ixL; (apply edr_var; (rfl); (assumption); (assumption)); (walk_at "ev"); (first | rfl | assumption))
  | (apply ed_lenL; (apply edr_var; (rfl); (assumption); (assumption)))
  | (apply ed_call; (walk_at "eva"); (walk_at "post")))
local macro_rules | `(tactic| walk_at "edl") => `(tactic| first
  | assumption
  | (apply edl_lst; (walk_at "eva"); (walk_at "bb")))
local macro_rules | `(tactic| walk_at "eva") => `(tactic| first
  | exact eda_nil
  | (apply eda_cons; (walk_at "ev"); (walk_at "eva")))
local macro_rules | `(tactic| walk_at "evo") => `(tactic| first
  | exact eok_none
  | (apply eok_some; walk_at "ev"))
local macro_rules | `(tactic| walk_at "bb") => `(tactic| first | rfl | assumption | (simp; done) | (simp; omega) | decide +kernel)
local macro_rules | `(tactic| walk_at "et") => `(tactic| first
  | exact tk_yes
  | (apply tk_andF; walk_at "et")
  | (apply tk_and; (walk_at "et"); (intro _; walk_at "et"))
  | (apply tk_orT; walk_at "et")
  | (apply tk_or; (walk_at "et"); (intro _; walk_at "et"))
  | (apply tk_notT; walk_at "et")
  | (apply tk_notF; walk_at "et")
  | (apply tk_not; walk_at "et")
  | (apply tk_v; walk_at "ev")
  | (apply tk_vB; walk_at "ev"))
local macro_rules | `(tactic| walk_at "if") => `(tactic| first
  | (apply pst_whenF; (walk_at "et"); (walk_at "bb"))
  | (apply pst_whenT; (walk_at "et"); (walk_at "bb")))
local macro_rules | `(tactic| walk_at "post") => `(tactic| first | assumption | exact ⟨_, _, rfl, rfl⟩ | exact ⟨_, _, _, _, rfl, by omega, by omega, rfl⟩ | exact ⟨_, _, _, 0, rfl, by omega, by omega, rfl⟩)
local macro_rules | `(tactic| walk_at "cc") => `(tactic| first | assumption | decide | omega | (refine ⟨?_, ?_⟩ <;> first | decide | omega) | (exact Or.inl (by constructor <;> omega)))

def backG : List (Nat × Nat) → List Nat → Option (List Nat)
  | [], ns => some ns
  | (pl, o) :: r, ns => match ns[o]? with
    | none => none
    | some v => if pl < ns.length then backG r (ns.set pl v) else none
theorem backF_G : ∀ (bs : List (Option (Nat × Nat))) (ns : List Nat), backF bs ns = backG (bs.filterMap id) ns
  | [], ns => rfl
  | none :: r, ns => by simp [backF, backF_G r]
  | some (pl, o) :: r, ns => by
    simp only [backF, List.filterMap_cons, id, backG]
    cases ns[o]? with
    | none => rfl
    | some v =>
      dsimp only
      split
      · exact backF_G r _
      · rfl
theorem handAll_len {M : Nat} {f : Fra} : ∀ {ts : List Th} {ws : List Str} {s s' : Sg} {hs : List Hd} {bs : List (Option (Nat × Nat))}, handAll M ts ws f s = some (hs, bs, s') → hs.length = ts.length
  | [], ws, s, s', hs, bs, h => by simp only [handAll] at h; cases h; rfl
  | t :: ts, [], s, s', hs, bs, h => by simp [handAll] at h
  | t :: ts, w :: ws, s, s', hs, bs, h => by
    simp only [handAll] at h
    cases h1 : handF M t w f s with
    | none => rw [h1] at h; cases h
    | some z =>
      obtain ⟨hd, b, s1⟩ := z
      rw [h1] at h
      dsimp only at h
      cases h2 : handAll M ts ws f s1 with
      | none => rw [h2] at h; cases h
      | some y =>
        obtain ⟨a1, a2, a3⟩ := y
        rw [h2] at h
        cases h
        simp [handAll_len h2]
theorem handAll_len2 {M : Nat} {f : Fra} : ∀ {ts : List Th} {ws : List Str} {s s' : Sg} {hs : List Hd} {bs : List (Option (Nat × Nat))}, handAll M ts ws f s = some (hs, bs, s') → bs.length = ts.length
  | [], ws, s, s', hs, bs, h => by simp only [handAll] at h; cases h; rfl
  | t :: ts, [], s, s', hs, bs, h => by simp [handAll] at h
  | t :: ts, w :: ws, s, s', hs, bs, h => by
    simp only [handAll] at h
    cases h1 : handF M t w f s with
    | none => rw [h1] at h; cases h
    | some z =>
      obtain ⟨hd, b, s1⟩ := z
      rw [h1] at h
      dsimp only at h
      cases h2 : handAll M ts ws f s1 with
      | none => rw [h2] at h; cases h
      | some y =>
        obtain ⟨a1, a2, a3⟩ := y
        rw [h2] at h
        cases h
        simp [handAll_len2 h2]
theorem handF_lt {M : Nat} {t : Th} {w : Str} {f : Fra} {s s' : Sg} {hd : Hd} {b : Option (Nat × Nat)} (h : handF M t w f s = some (hd, b, s')) (hs : s.lent.length ≤ mostL) : s'.lent.length ≤ mostL := by
  unfold handF at h
  cases hfd : (if isLent w = true then findF M t f s else some (none, s)) with
  | none => rw [hfd] at h; cases h
  | some x =>
    obtain ⟨fd, s1⟩ := x
    rw [hfd] at h
    have h1 : s1.lent.length ≤ mostL := by
      split at hfd
      · rw [(findF_lent hfd).1]; exact hs
      · cases hfd; exact hs
    dsimp only at h
    split at h
    · cases h; exact h1
    · cases fd with
      | none =>
        dsimp only at h
        split at h
        · cases h
        · rename_i v s2 h2
          have h3 := (numF_lent h2).1
          simp only [freshF] at h
          split at h
          · cases h
          · rename_i pl s3 h4
            split at h4
            · cases h4
              cases h
              show s2.lent.length ≤ mostL
              rw [h3]
              exact h1
            · cases h4
      | some pt =>
        obtain ⟨pl, th⟩ := pt
        dsimp only at h
        split at h
        · rename_i hlt
          have h5 : ((come pl th s1).lent ++ [(pl, (come pl th s1).many + 1)]).length ≤ mostL := by
            rw [List.length_append]
            exact hlt
          split at h
          · split at h
            · cases h
              exact h5
            · cases h
          · split at h
            · cases h
            · simp only [freshF] at h
              split at h
              · cases h
              · rename_i o s4 h6
                split at h6
                · cases h6
                  cases h
                  exact h5
                · cases h6
        · cases h
theorem handAll_lt {M : Nat} {f : Fra} : ∀ {ts : List Th} {ws : List Str} {s s' : Sg} {hs : List Hd} {bs : List (Option (Nat × Nat))}, handAll M ts ws f s = some (hs, bs, s') → s.lent.length ≤ mostL → s'.lent.length ≤ mostL
  | [], ws, s, s', hs, bs, h, hl => by simp only [handAll] at h; cases h; exact hl
  | t :: ts, [], s, s', hs, bs, h, hl => by simp [handAll] at h
  | t :: ts, w :: ws, s, s', hs, bs, h, hl => by
    simp only [handAll] at h
    cases h1 : handF M t w f s with
    | none => rw [h1] at h; cases h
    | some z =>
      obtain ⟨hd, b, s1⟩ := z
      rw [h1] at h
      dsimp only at h
      cases h2 : handAll M ts ws f s1 with
      | none => rw [h2] at h; cases h
      | some y =>
        obtain ⟨a1, a2, a3⟩ := y
        rw [h2] at h
        cases h
        exact handAll_lt h2 (handF_lt h1 hl)
/-- for a, b in a list of pairs that stands in a variable -/
theorem w_forLv {K : PySem.W.Frag} {σ : L2.St} {H : Hp} {D : Ends} {tu : TS} {α : Type} {n j l : Nat} {bk : Addr} {bv : List V} (xs : List α) (f1 f2 : α → PyData) (hv : σ[n]? = some (some (.ref bk))) (Pv : Nat → L2.St → Hp → Prop) (h0 : Pv 0 σ H)
    (hk : ∀ i σ' H', Pv i σ' H' → H' bk = some (.lst bv) ∧ TdAll K H' bv (xs.map fun x => .tuple [f1 x, f2 x]))
    (hs : ∀ i x v u σ' H', xs[i]? = some x → Td K H' v (f1 x) → Td K H' u (f2 x) → Pv i σ' H' → tu { D with nx := Pv (i + 1), ct := Pv (i + 1), bk := D.nx } ((σ'.set j (some v)).set l (some u)) H')
    (hd : ∀ σ' H', Pv xs.length σ' H' → D.nx σ' H') : tFor (iList K (tVar n)) (gTup K 2 (gCons (gName j) (gCons (gName l) gNil))) tu D σ H := by
  refine ⟨.ref bk, hv, bk, rfl, ⟨bv, SqL.of (hk 0 σ H h0).1⟩, ?_⟩
  have hlen := (hk 0 σ H h0).2.length
  rw [List.length_map] at hlen
  refine for_list Pv h0 (fun i σ' H' _ q => SqL.of (hk i σ' H' q).1) (fun i x σ' H' hi q => ?_) (fun σ' H' q => hd σ' H' (by rw [← hlen]; exact q))
  obtain ⟨d, hdd, td⟩ := (hk i σ' H' q).2.getV hi
  rw [List.getElem?_map] at hdd
  obtain ⟨z, hz, rfl⟩ := Option.map_eq_some_iff.mp hdd
  obtain ⟨a, zs, rfl, hq, hqa⟩ := td.tup_inv
  obtain _ | ⟨u1, _ | ⟨u2, _ | _⟩⟩ := hqa
  exact ⟨a, _, rfl, hq, rfl, _, _, rfl, _, _, rfl, rfl, hs i z _ _ σ' H' hz u1 u2 q⟩
section
variable {P : Program} {w : World} {K : PySem.W.Frag} {mg : Str → Option Value} {base : Heap} (T : Tx K mg)
include T
theorem call_step {p : List Wk} {ys : List (List Str)} {M n lv : Nat} (hl : M + 4 ≤ lv) (hp : PrOk p ys) (GD : Fn_Run_do T P w base CX0 lv (spDo K p ys M n)) (GF : Fn_Run_find T P w base CX0 (M + 2) (spFind K M)) (GN : Fn_Run_number T P w base CX0 (M + 2) (spNum K M)) (GC : Fn_Run_come T P w base CX0 1 (spCome K)) (GR : Fn_Run_fresh T P w base CX0 1 (spFresh K))
    (GI : Fn_Frame___init__ T P w base CX0 1 (spFrI K)) (GL : Fn_Lent___init__ T P w base CX0 1 (spLeI K)) : Fn_Run_call T P w base CX0 (lv + 1) (spCall K p ys M n) := by
  have G_Run_do := GD
  have G_Run_find := GF
  have G_Run_number := GN
  have G_Run_come := GC
  have G_Run_fresh := GR
  have G_Frame___init__ := GI
  have G_Lent___init__ := GL
  refine T.F_Run_call.ok sc_Run_call (fun vs H Q E h => by obtain ⟨_, _, _, _, _, _, _, _, _, _, _, _, _, rfl, _⟩ := h; rfl) fun cdv A outer s0 H vs Q E hr h => ?_
  obtain ⟨r, nl, sl, ll, pw0, yw0, tsv, s, s', c, ts, fa, f, rfl, hW, tts, ⟨ws, hws, hwl⟩, htl, hf, hst, k⟩ := h
  refine ⟨_, (pss_cons (ps_set (i := 4) sc_Run_call.nd rfl (Or.inl rfl) (pe_make0 T.mk_Frame G_Frame___init__ (hr.mono (by omega)) (by rfl) T.g_Frame T.bd_Frame___init__ .nil pass0))
  (pss_cons (ps_set (i := 5) sc_Run_call.nd rfl (Or.inl rfl) (pe_lst pa_nil))
  (pss_cons (ps_set (i := 6) sc_Run_call.nd rfl (Or.inl rfl) (pe_callTy (kc_list K) rfl T.b_list (by decide +kernel) (pa_cons (kpe_fld K (pv 0)) pa_nil)))
  (pss_cons (ps_for (passes_of rfl) rfl (kpi_zip K (by rfl) T.b_zip (pa_cons (pv 2) (pa_cons (pe_ix (kix_tup K) (kpe_fld K (pv 0)) (pv 1) (fun _ _ => rfl)) pa_nil))) (kpg_tup K rfl (pgs_cons (pg_name (i := 7) sc_Run_call.nd rfl (Or.inl rfl)) (pgs_cons (pg_name (i := 8) sc_Run_call.nd rfl (Or.inl rfl)) pgs_nil)))
    (pss_cons (ps_set (i := 9) sc_Run_call.nd rfl (Or.inl rfl) (pe_ifExp (pt_cmpR (kop_in K) (pv 8) (pe_tup (pa_cons pe_str (pa_cons pe_str pa_nil))) rfl) (pe_meth (pv 0) T.c_Run T.m_Run_find G_Run_find (hr.mono (by omega)) T.bd_Run_find .nil pass0 (pa_cons (pv 7) (pa_cons (pv 3) pa_nil))) pe_non))
    (pss_one (ps_if (pt_cmpR (kop_eq K hr.units) (pv 8) pe_str (nomark _))
      (pss_one (ps_expr (pe_bm PySem.F.plainAttrs_list PySem.F.slot_list_append PySem.F.type_list_append mt_append (kpe_fld K (pv 4)) (pa_cons (pe_make T.mk_Lent G_Lent___init__ (hr.mono (by omega)) (by rfl) T.g_Lent T.bd_Lent___init__ .nil pass0 (pa_cons pe_non (pa_cons (pe_tup pa_nil) (pa_cons (pv 7) (pa_cons (pv 3) pa_nil))))) pa_nil))))
      (pss_one (ps_if (pt_cmp (pc_isN (pv 9)) rfl)
        (pss_one (ps_expr (pe_bm PySem.F.plainAttrs_list PySem.F.slot_list_append PySem.F.type_list_append mt_append (kpe_fld K (pv 4)) (pa_cons (pe_make T.mk_Lent G_Lent___init__ (hr.mono (by omega)) (by rfl) T.g_Lent T.bd_Lent___init__ .nil pass0 (pa_cons (pe_meth (pv 0) T.c_Run T.m_Run_fresh G_Run_fresh (hr.mono (by omega)) T.bd_Run_fresh .nil pass0 (pa_cons (pe_meth (pv 0) T.c_Run T.m_Run_number G_Run_number (hr.mono (by omega)) T.bd_Run_number .nil pass0 (pa_cons (pv 7) (pa_cons (pv 3) pa_nil))) pa_nil)) (pa_cons (pe_tup pa_nil) (pa_cons pe_non (pa_cons pe_non pa_nil))))) pa_nil))))
        (pss_cons (ps_expr (pe_meth (pv 0) T.c_Run T.m_Run_come G_Run_come (hr.mono (by omega)) T.bd_Run_come .nil pass0 (pa_cons (pe_ix (kix_tup K) (pv 9) pe_int (fun _ _ => rfl)) (pa_cons (pe_ix (kix_tup K) (pv 9) pe_int (fun _ _ => rfl)) pa_nil))))
        (pss_cons (ps_fld (pv 0) (pe_op op_add (kpe_fld K (pv 0)) pe_int) rfl)
        (pss_cons (ps_expr (pe_bm PySem.F.plainAttrs_list PySem.F.slot_list_append PySem.F.type_list_append mt_append (kpe_fld K (pv 0)) (pa_cons (pe_tup (pa_cons (pe_ix (kix_tup K) (pv 9) pe_int (fun _ _ => rfl)) (pa_cons (kpe_fld K (pv 0)) pa_nil))) pa_nil)))
        (pss_one (ps_if (pt_cmpR (kop_eq K hr.units) (pv 8) pe_str (nomark _))
          (pss_one (ps_expr (pe_bm PySem.F.plainAttrs_list PySem.F.slot_list_append PySem.F.type_list_append mt_append (kpe_fld K (pv 4)) (pa_cons (pe_make T.mk_Lent G_Lent___init__ (hr.mono (by omega)) (by rfl) T.g_Lent T.bd_Lent___init__ .nil pass0 (pa_cons (pe_ix (kix_tup K) (pv 9) pe_int (fun _ _ => rfl)) (pa_cons (pe_op (kop_cat K) (pe_ix (kix_tup K) (pv 9) pe_int (fun _ _ => rfl)) (pe_tup (pa_cons (kpe_fld K (pv 0)) pa_nil))) (pa_cons pe_non (pa_cons pe_non pa_nil))))) pa_nil))))
          (pss_cons (ps_expr (pe_bm PySem.F.plainAttrs_list PySem.F.slot_list_append PySem.F.type_list_append mt_append (kpe_fld K (pv 4)) (pa_cons (pe_make T.mk_Lent G_Lent___init__ (hr.mono (by omega)) (by rfl) T.g_Lent T.bd_Lent___init__ .nil pass0 (pa_cons (pe_meth (pv 0) T.c_Run T.m_Run_fresh G_Run_fresh (hr.mono (by omega)) T.bd_Run_fresh .nil pass0 (pa_cons (pe_ix (kix_list K) (kpe_fld K (pv 0)) (pe_ix (kix_tup K) (pv 9) pe_int (fun _ _ => rfl)) (fun _ _ => rfl)) pa_nil)) (pa_cons (pe_tup pa_nil) (pa_cons pe_non (pa_cons pe_non pa_nil))))) pa_nil)))
          (pss_one (ps_expr (pe_bm PySem.F.plainAttrs_list PySem.F.slot_list_append PySem.F.type_list_append mt_append (pv 5) (pa_cons (pe_tup (pa_cons (pe_ix (kix_tup K) (pv 9) pe_int (fun _ _ => rfl)) (pa_cons (kpe_fld K (pe_ix (kix_list K) (kpe_fld K (pv 4)) (pe_un un_neg pe_int) (fun _ _ => rfl))) pa_nil))) pa_nil))))))))))))))))
  (pss_cons (ps_expr (pe_meth (pv 0) T.c_Run T.m_Run_do G_Run_do (hr.mono (by omega)) T.bd_Run_do .nil pass0 (pa_cons (pv 1) (pa_cons (pv 4) pa_nil))))
  (pss_cons (ps_fld (pv 0) (pv 6) rfl)
  (pss_one (ps_for (passes_of rfl) rfl (kpi_list K (pv 5)) (kpg_tup K rfl (pgs_cons (pg_name (i := 10) sc_Run_call.nd rfl (Or.inl rfl)) (pgs_cons (pg_name (i := 11) sc_Run_call.nd rfl (Or.inl rfl)) pgs_nil)))
    (pss_one (ps_asg (pe_ix (kix_list K) (kpe_fld K (pv 0)) (pv 11) (fun _ _ => rfl)) (pg_sub (kpe_fld K (pv 0)) (pv 10) set_list))))))))))), ?_⟩
  simp only [stepF, hws] at hst
  cases hwk : p[c]? with
  | none => rw [hwk] at hst; cases hst
  | some wk =>
  rw [hwk] at hst
  dsimp only at hst
  cases hha : handAll M ts ws f s with
  | none => rw [hha] at hst; cases hst
  | some x1 =>
  obtain ⟨hs, bs, s1⟩ := x1
  rw [hha] at hst
  dsimp only at hst
  cases hown : ownF wk.owns s1 with
  | none => rw [hown] at hst; cases hst
  | some x2 =>
  obtain ⟨os, s2⟩ := x2
  rw [hown] at hst
  dsimp only at hst
  cases hgo : goF (stepF p ys M n (.mk os hs)) wk.body s2 with
  | none => rw [hgo] at hst; cases hst
  | some s3 =>
  rw [hgo] at hst
  dsimp only at hst
  cases hba : backF bs s3.nums with
  | none => rw [hba] at hst; cases hst
  | some nsx =>
  rw [hba] at hst
  cases hst
  have hlay : ∀ z ∈ ws, (PyData.str z).canLay0 = true := hp.h2 ws (List.mem_of_getElem? hws)
  refine w_seq (w_asg (w_mk (w_nil (mkFrame_go fun fi dxi lo lp H1 hfi hlo hlp hll e1 hF1 hlo1 hlp1 => ?_))))
  refine w_seq (w_asg (w_lst (w_nil ⟨Nat.zero_le _, fun bk hbk => ?_⟩)))
  have W1 := hW.ex e1
  have hbk0 : H bk = none := fresh_back e1 hbk
  have A : Apart r nl sl ll fi lp bk := by
    refine ⟨hW.run.off hfi, hW.run.off hlp, hW.run.off hbk0, fun e => ?_, fun e => ?_, fun e => ?_⟩
    · rw [e, hlp1] at hF1; cases hF1
    · rw [← e, hF1] at hbk; cases hbk
    · rw [← e, hlp1] at hbk; cases hbk
  have e2 : Ex H1 (upd H1 bk (.lst [])) := Ex.new hbk
  have hbk2 : upd H1 bk (.lst []) bk = some (.lst []) := upd_same
  dsimp only
  generalize upd H1 bk (.lst []) = H2 at *
  have W2 := W1.ex e2
  obtain ⟨dx2, hob2⟩ := W2.run.ob
  obtain ⟨lvs, hlx, hla⟩ := W2.run.lent
  refine w_seq (w_asg ?_)
  refine w_fld rfl hob2 T.c_Run T.na_Run_lent (by rfl) ⟨ll, lvs, rfl, .inl (SqL.of hlx), fun ah hah => ?_⟩
  have e3 : Ex H2 (upd H2 ah (.lst lvs)) := Ex.new hah
  have hah3 : upd H2 ah (.lst lvs) ah = some (.lst lvs) := upd_same
  have hah0 : H ah = none := fresh_back (e1.trans e2) hah
  dsimp only
  have nah : ah ≠ fi ∧ ah ≠ lp ∧ ah ≠ bk := by
    refine ⟨fun e => ?_, fun e => ?_, fun e => ?_⟩
    · rw [e, e2 _ _ hF1] at hah; cases hah
    · rw [e, e2 _ _ hlp1] at hah; cases hah
    · rw [e, hbk2] at hah; cases hah
  generalize upd H2 ah (.lst lvs) = H3 at *
  have W3 := W2.ex e3
  have e13 := (e1.trans e2).trans e3
  obtain ⟨dx3, hob3⟩ := W3.run.ob
  have L3 : LI K r nl sl ll fi lp lo dxi bk pw0 yw0 H3 s [] [] H3 := ⟨W3.run, e3 _ _ (e2 _ _ hF1), ⟨[], e3 _ _ (e2 _ _ hlp1), .nil⟩, ⟨[], e3 _ _ hbk2, .nil⟩, Fr.refl⟩
  refine seq_cut (fun σ' H' => ∃ u7 u8 u9 : Option V, σ' = [some (.ref r), some (.int (c : Int)), some tsv, some (.ref fa), some (.ref fi), some (.ref bk), some (.ref ah), u7, u8, u9, none, none] ∧ LI K r nl sl ll fi lp lo dxi bk pw0 yw0 H3 s1 hs bs H') ?_ fun N hN => ?_
  · rintro σ' H4 ⟨u7, u8, u9, rfl, L4⟩
    have kp4 : Keep K H3 H4 := L4.f.keep fun a ha => L3.mu a (by
      simp only [List.mem_cons] at ha ⊢
      rcases ha with e | e | e
      · exact .inl e
      · exact .inr (.inr (.inl e))
      · exact .inr (.inr (.inr e)))
    have W4 : RunW K p ys r nl sl ll pw0 yw0 s1 H4 := ⟨L4.run, W3.tp.kp kp4, W3.ty.kp kp4, handAll_lt hha hW.lt⟩
    obtain ⟨dx4, hob4⟩ := L4.run.ob
    obtain ⟨us4, u4, p4⟩ := L4.ps
    have exq : Ex (Ofs (lp :: fi :: bk :: sR r nl sl ll) H4) (Ofs (fi :: sR r nl sl ll) H4) := fun q o h => by
      unfold Ofs at h
      split at h
      · cases h
      · rename_i hq
        simp only [List.mem_cons, not_or] at hq
        exact ofs_get h (by simp only [List.mem_cons, not_or]; exact ⟨hq.2.1, hq.2.2.2⟩)
    try dsimp only
    refine w_seq (w_drop (w_meth rfl hob4 (by rfl) (w_cons (w_v rfl (w_cons (w_v rfl (w_nil ⟨r, nl, sl, ll, pw0, yw0, s1, s2, s3, c, wk, os, hs, fi, dxi, lo, lp, us4, rfl, W4, hwk, L4.fr, u4, A.a2, p4.ex exq, hown, hgo, fun ll5 H5 R5 f5 h5 => ?_⟩)))))))
    try dsimp only
    have nas := W2.run.off hah
    have ah4 : H4 ah = some (.lst lvs) := L4.f _ _ (by simp [nah.2.1, nah.2.2, nas]) hah3
    have ah5 : H5 ah = some (.lst lvs) := f5 _ _ (by simp [nah.1, nas]) ah4
    have kp5 : Keep K H4 H5 := f5.keep fun a ha => by
      rcases List.mem_cons.mp ha with e | ha
      · rw [e]; exact ⟨_, L4.fr, True.intro⟩
      · exact L4.run.mu a ha
    have la5 := ((hla.ex e3).kp kp4).kp kp5
    obtain ⟨dx5, hob5⟩ := R5.ob
    refine w_seq (w_setf rfl (w_v rfl ⟨_, dx5, _, hob5, T.c_Run, T.na_Run_lent, by show 7 < 1000; decide, ?_⟩))
    have nas2 : ah ≠ r ∧ ah ≠ nl ∧ ah ≠ sl := by
      simp only [sR, List.mem_cons, List.not_mem_nil, or_false, not_or] at nas
      exact ⟨nas.1, nas.2.1, nas.2.2.1⟩
    have R6 := R5.setl (dx := dx5) (l := s.lent) ah5 la5 nas2.1 (Ne.symm nas2.2.1) (Ne.symm nas2.2.2)
    obtain ⟨bv4, b4, bt4⟩ := L4.bs
    have nbr : bk ≠ r := fun e => A.a3 (by rw [e]; simp [sR])
    have b5 : H5 bk = some (.lst bv4) := f5 _ _ (by simp [Ne.symm A.a5, A.a3]) b4
    have bt5 := bt4.kp kp5
    have k56 : Keep K H5 (upd H5 r (.ins (He.ga K "Run") dx5 (runFs pw0 yw0 nl sl ah { s3 with lent := s.lent }))) := Keep.upd hob5 True.intro
    have b6 : upd H5 r (.ins (He.ga K "Run") dx5 (runFs pw0 yw0 nl sl ah { s3 with lent := s.lent })) bk = some (.lst bv4) := by
      rw [upd_ne nbr]
      exact b5
    have bt6 := bt5.kp k56
    have f56 : Fr [r] H5 (upd H5 r (.ins (He.ga K "Run") dx5 (runFs pw0 yw0 nl sl ah { s3 with lent := s.lent }))) := Fr.upd (by simp)
    have R6' : RunAt K r nl sl ah pw0 yw0 { s3 with lent := s.lent, nums := s3.nums } (upd H5 r (.ins (He.ga K "Run") dx5 (runFs pw0 yw0 nl sl ah { s3 with lent := s.lent }))) := R6
    have ep : putF ("lent" : Str) (V.ref ah) (runFs pw0 yw0 nl sl ll5 s3) = runFs pw0 yw0 nl sl ah { s3 with lent := s.lent } := by rfl
    rw [ep]
    dsimp only
    generalize upd H5 r (.ins (He.ga K "Run") dx5 (runFs pw0 yw0 nl sl ah { s3 with lent := s.lent })) = H6 at *
    have fr6 : Fr (lp :: bk :: fi :: sR r nl sl ll) H H6 := ((((Fr.of e13).trans (L4.f.sub (by simp +contextual))).trans (f5.sub (by simp +contextual))).trans (f56.sub (by simp [sR])))
    rw [backF_G] at hba
    have nbn : bk ≠ nl := fun e => A.a3 (by rw [e]; simp [sR])
    refine w_forLv (K := K) (bv := bv4) (bs.filterMap id) (fun x => .int (x.1 : Int)) (fun x => .int (x.2 : Int)) rfl (fun i σ' H' => ∃ (u10 u11 : Option V) (ns : List Nat), σ' = [some (.ref r), some (.int (c : Int)), some tsv, some (.ref fa), some (.ref fi), some (.ref bk), some (.ref ah), u7, u8, u9, u10, u11] ∧ backG ((bs.filterMap id).drop i) ns = some nsx ∧ RunAt K r nl sl ah pw0 yw0 { s3 with lent := s.lent, nums := ns } H' ∧ Fr [nl] H6 H') ⟨_, _, _, rfl, hba, R6', Fr.refl⟩ ?_ ?_ ?_
    · rintro i σ' H7 ⟨u10, u11, ns, rfl, h1, R7, f7⟩
      exact ⟨f7 _ _ (by simpa using nbn) b6, bt6.kp (R6'.keep (f7.sub (by simp)))⟩
    · rintro i ⟨pl, o⟩ v u σ' H7 hx tv tu ⟨u10, u11, ns, rfl, h1, R7, f7⟩
      have hdr : (bs.filterMap id).drop i = (pl, o) :: (bs.filterMap id).drop (i + 1) := by
        obtain ⟨hi, e⟩ := List.getElem?_eq_some_iff.mp hx
        rw [List.drop_eq_getElem_cons hi, e]
      rw [hdr] at h1
      simp only [backG] at h1
      cases hno : ns[o]? with
      | none => rw [hno] at h1; cases h1
      | some vn =>
      rw [hno] at h1
      dsimp only at h1
      have hpl : pl < ns.length := by
        split at h1
        · assumption
        · cases h1
      rw [if_pos hpl] at h1
      obtain ⟨dx7, hob7⟩ := R7.ob
      try dsimp only
      refine w_asgG (w_d (K := K) (d := .int (vn : Int)) ?_ fun v8 H8 e8 t8 => ?_)
      · exact ed_ixL (i := (o : Int)) (edr_fld rfl hob7 T.c_Run T.na_Run_numbers (by rfl) R7.nums (nV_td _)) (ed_var rfl tu) (atI_nat (by rw [nD, List.getElem?_map, hno] <;> rfl))
      cases t8
      refine gsub_go (i := pl) rfl (e8 _ _ hob7) T.c_Run T.na_Run_numbers (by rfl) (ed_var rfl (tv.ex e8)) fun H9 e9 => ?_
      have R9 := (R7.ex e8).ex e9
      exact ⟨_, R9.nums, by simp [nV]; exact hpl, _, _, _, rfl, h1, R9.setn, ((f7.trans (Fr.of (e8.trans e9)))).trans (Fr.upd (by simp))⟩
    · rintro σ' H7 ⟨u10, u11, ns, rfl, h1, R7, f7⟩
      rw [List.drop_length] at h1
      cases h1
      exact k ah H7 R7 ((((fr6.trans (f7.sub (by simp [sR]))).fresh hlp).fresh hbk0).fresh hfi) (.inr hah0)
  · have hdom : ∀ q o, H q = some o → q ≠ lp ∧ q ≠ fi ∧ q ≠ bk := fun q o h => ⟨(fun e => by rw [e, hlp] at h; cases h), (fun e => by rw [e, hfi] at h; cases h), (fun e => by rw [e, hbk0] at h; cases h)⟩
    have hfx : ∀ {H4}, Fr (lp :: bk :: sR r nl sl ll) H3 H4 → PFra K (Ofs (sR r nl sl ll) H4) fa f ∧ PFra K (Ofs (lp :: fi :: bk :: sR r nl sl ll) H4) fa f := fun {H4} f4 => by
      have st : ∀ q o, Ofs (sR r nl sl ll) H q = some o → H4 q = some o ∧ q ∉ sR r nl sl ll ∧ q ≠ lp ∧ q ≠ fi ∧ q ≠ bk := fun q o h => by
        unfold Ofs at h
        split at h
        · cases h
        · rename_i hq
          obtain ⟨n1, n2, n3⟩ := hdom q o h
          exact ⟨f4 q o (by simp [n1, n3, hq]) (e13 q o h), hq, n1, n2, n3⟩
      refine ⟨hf.ex fun q o h => ?_, hf.ex fun q o h => ?_⟩
      · obtain ⟨h1, h2, _⟩ := st q o h
        exact ofs_get h1 h2
      · obtain ⟨h1, h2, h3, h4, h5⟩ := st q o h
        exact ofs_get h1 (by simp [h2, h3, h4, h5])
    have ty3 : Td K H3 yw0 (.tuple (ys.map fun y => .tuple (y.map PyData.str))) := W3.ty
    refine w_forZv (K := K) ts ws encT PyData.str ?_ hwl.symm (fun Hz i σ' H' => ∃ (u7 u8 u9 : Option V) (hs1 : List Hd) (bs1 : List (Option (Nat × Nat))) (sa : Sg), σ' = [some (.ref r), some (.int (c : Int)), some tsv, some (.ref fa), some (.ref fi), some (.ref bk), some (.ref ah), u7, u8, u9, none, none] ∧ handAll M (ts.take i) (ws.take i) f s = some (hs1, bs1, sa) ∧ LI K r nl sl ll fi lp lo dxi bk pw0 yw0 Hz sa hs1 bs1 H') ?_ ?_ ?_ ?_ ?_
    · refine eda_cons (ed_var rfl (tts.ex e13)) (eda_cons (ed_ixT (ds := ys.map fun y => .tuple (y.map PyData.str)) (i := (c : Int)) (ed_fld rfl hob3 T.c_Run T.na_Run_ways (by rfl) ty3) (ed_var rfl (.int _)) (atI_nat (by rw [List.getElem?_map, hws] <;> rfl))) eda_nil)
    · intro Hz ez
      have L := L3.ex ez
      exact ⟨_, _, _, [], [], s, rfl, by simp [handAll], ⟨L.run, L.fr, L.ps, L.bs, Fr.refl⟩⟩
    · rintro Hz i σ' H' ez ⟨u7, u8, u9, hs1, bs1, sa, rfl, h1, L⟩
      have L0 := L3.ex ez
      refine L.f.keep fun a ha => ?_
      obtain ⟨us0, q1, _⟩ := L0.ps
      obtain ⟨bv0, q2, _⟩ := L0.bs
      rcases List.mem_cons.mp ha with e | ha
      · rw [e]; exact ⟨_, q1, True.intro⟩
      rcases List.mem_cons.mp ha with e | ha
      · rw [e]; exact ⟨_, q2, True.intro⟩
      exact L0.run.mu a ha
    · rintro Hz i σ' H' H'' ⟨u7, u8, u9, hs1, bs1, sa, rfl, h1, L⟩ e
      exact ⟨_, _, _, hs1, bs1, sa, rfl, h1, L.ex e⟩
    · rintro Hz i t wy v u σ' H4 ht hw ez tv tu ⟨u7, u8, u9, hs1, bs1, sa, rfl, h1, L4⟩
      obtain ⟨hd, b, sb, h2, h3⟩ := handAll_at hwl.symm hha ht hw h1
      have hlw := hlay wy (List.mem_of_getElem? hw)
      have hsa : sa.lent.length ≤ mostL := handAll_lt h1 hW.lt
      have fz : ∀ {H5}, Fr (lp :: bk :: sR r nl sl ll) Hz H5 → Fr (lp :: bk :: sR r nl sl ll) H3 H5 := fun q => (Fr.of ez).trans q
      dsimp only
      unfold handF at h2
      cases hfd : (if isLent wy = true then findF M t f sa else some (none, sa)) with
      | none => rw [hfd] at h2; cases h2
      | some x3 =>
      obtain ⟨fd, sc⟩ := x3
      rw [hfd] at h2
      dsimp only at h2
      have hsc : sc.lent.length ≤ mostL := by
        split at hfd
        · rw [(findF_lent hfd).1]; exact hsa
        · cases hfd; exact hsa
      refine seq_cut (fun σ2 H5 => ∃ x, σ2 = [some (.ref r), some (.int (c : Int)), some tsv, some (.ref fa), some (.ref fi), some (.ref bk), some (.ref ah), some v, some u, some x, none, none] ∧ Td K H5 x (encO fd) ∧ Td K H5 v (encT t) ∧ Td K H5 u (.str wy) ∧ LI K r nl sl ll fi lp lo dxi bk pw0 yw0 Hz sc hs1 bs1 H5) ?_ fun N hN => ?_
      · rintro σ2 H5 ⟨x, rfl, tx, tv5, tu5, L5⟩
        have hlen1 : hs1.length ≤ 1000 := by
          have := handAll_len h1
          rw [List.length_take] at this
          omega
        have usz : ∀ {us : List V} {F : Hp}, PHds K F us hs1 → us.length < sizeLine := fun q => by
          rw [q.length]
          exact sz_lt (by omega)
        refine Pst.go (K := K) ?_
        refine pst_if (K := K) (b := isW "want" wy) (tk_v (ed_eqS (ed_var rfl tu5) ed_cs hlw (by simp))) (fun hb => pst_of fun H6 e6 => ?_) (fun hb => ?_)
        · rw [if_pos hb] at h2
          cases h2
          have L6 := L5.ex e6
          obtain ⟨us6, u6, _⟩ := L6.ps
          refine w_appF rfl L6.fr T.c_Frame T.na_Frame_pars (by rfl) u6 (w_mk (w_cons (w_c (w_cons (w_tup (w_nil ⟨Nat.zero_le _, fun pt hpt => w_cons (w_v rfl (w_cons (w_v rfl (w_nil (mkLent_go fun xa dxl H8 hxa e8 hL => ?_)))))⟩))))))
          have L8 := (L6.ex (Ex.new hpt)).ex e8
          have hx8 := (L6.ex (Ex.new hpt)).off hxa
          obtain ⟨us8, u8, p8⟩ := L8.ps
          refine ⟨us8, u8, usz p8, _, _, _, hs1 ++ [.want t f], bs1 ++ [none], _, rfl, h3, (L8.push A u8 (.want (ofs_get hL hx8) ((((tv5.ex e6).ex (Ex.new hpt)).ex e8).kp (keep_ofs L8.mu)) (hfx (fz L8.f)).2)).skip⟩
        rw [if_neg (by rw [hb]; decide)] at h2
        cases fd with
        | none =>
          refine pst_if (K := K) (b := true) (tk_is (tk_vB (ed_isN (ed_var rfl tx))) rfl) (fun _ => pst_of fun H6 e6 => ?_) (fun hb => by cases hb)
          dsimp only at h2
          cases hnu : numF M t f sc with
          | none => rw [hnu] at h2; cases h2
          | some x4 =>
          obtain ⟨vn, sd⟩ := x4
          rw [hnu] at h2
          dsimp only at h2
          cases hfr : freshF vn sd with
          | none => rw [hfr] at h2; cases h2
          | some x5 =>
          obtain ⟨pl, se⟩ := x5
          rw [hfr] at h2
          cases h2
          have hfr2 : sd.nums.length < mostL ∧ pl = sd.nums.length ∧ sb = { sd with nums := sd.nums ++ [vn] } := by
            simp only [freshF] at hfr
            split at hfr
            · rename_i hq
              cases hfr
              exact ⟨hq, rfl, rfl⟩
            · cases hfr
          obtain ⟨hq, rfl, rfl⟩ := hfr2
          have L6 := L5.ex e6
          obtain ⟨dx6, hob6⟩ := L6.run.ob
          obtain ⟨us6, u6, _⟩ := L6.ps
          refine w_appF rfl L6.fr T.c_Frame T.na_Frame_pars (by rfl) u6 (w_mk (w_cons (w_meth rfl hob6 (by rfl) (w_cons ?_))))
          refine w_meth rfl hob6 (by rfl) (w_cons (w_v rfl (w_cons (w_v rfl (w_nil ⟨r, nl, sl, ll, pw0, yw0, v, sc, sd, t, fa, f, vn, rfl, L6.run, hsc, tv5.ex e6, (hfx (fz L6.f)).1, hnu, fun H7 R7 f7 => ?_⟩)))))
          have L7 := L6.fr1 A f7.r4 R7
          refine w_nil ⟨r, nl, sl, ll, pw0, yw0, sd, vn, rfl, R7, hq, fun H8 R8 f8 => ?_⟩
          have L8 := L7.fr1 A (f8.sub (by simp [sR])) R8
          refine w_cons (w_tup (w_nil ⟨Nat.zero_le _, fun pt hpt => w_cons (w_c (w_cons (w_c (w_nil (mkLent_go fun xa dxl H9 hxa e9 hL => ?_)))))⟩))
          have L9 := (L8.ex (Ex.new hpt)).ex e9
          have hx9 := (L8.ex (Ex.new hpt)).off hxa
          obtain ⟨us9, u9', p9⟩ := L9.ps
          refine ⟨us9, u9', usz p9, _, _, _, hs1 ++ [.road sd.nums.length []], bs1 ++ [none], _, rfl, h3, (L9.push A u9' (.road (th := []) (ofs_get hL hx9) (((td_new (ds := []) hpt .nil).ex e9).kp (keep_ofs L9.mu)))).skip⟩
        | some pt =>
          obtain ⟨pl, th⟩ := pt
          refine pst_if (K := K) (b := false) (tk_is (tk_vB (ed_isN (ed_var rfl tx))) rfl) (fun hb => by cases hb) (fun _ => pst_of fun H6 e6 => ?_)
          dsimp only at h2
          have hlt : (come pl th sc).lent.length < mostL := by
            split at h2
            · assumption
            · cases h2
          rw [if_pos hlt] at h2
          have L6 := L5.ex e6
          obtain ⟨dx6, hob6⟩ := L6.run.ob
          have tx6 := tx.ex e6
          unfold encO at tx6
          refine w_seq (w_drop (w_meth rfl hob6 (by rfl) (w_cons (w_d (K := K) (d := .int (pl : Int)) ?_ fun v7 H7 e7 t7 => w_cons (w_d (K := K) (d := .tuple (nD th)) ?_ fun v8 H8 e8 t8 => w_nil ?_)))))
          · exact ed_ixT (i := 0) (ed_var rfl tx6) ed_ci rfl
          · exact ed_ixT (i := 1) (ed_var rfl (tx6.ex e7)) ed_ci rfl
          cases t7
          have L8 := L6.ex (e7.trans e8)
          refine ⟨r, nl, sl, ll, pw0, yw0, v8, sc, pl, th, rfl, L8.run, hsc, t8, fun H9 R9 f9 => ?_⟩
          have L9 := L8.fr1 A f9.r4 R9
          have tx9 := (tx6.ex (e7.trans e8)).kp (L8.run.keep1 f9)
          have tu9 := ((tu5.ex e6).ex (e7.trans e8)).kp (L8.run.keep1 f9)
          obtain ⟨dx9, hob9⟩ := R9.ob
          dsimp only
          refine w_seq (w_setf rfl (w_d (K := K) (d := .int (((come pl th sc).many + 1 : Nat) : Int)) ?_ fun v10 H10 e10 t10 => ⟨_, dx9, _, e10 _ _ hob9, T.c_Run, T.na_Run_many, by show 7 < 1000; decide, ?_⟩))
          · refine ed_is (ed_I0i (ed_fld rfl hob9 T.c_Run T.na_Run_many (by rfl) (.int ((come pl th sc).many : Int))) ed_ci) ?_
            simp
          cases t10
          have L10 := L9.ex e10
          have R11 := L10.run.setm (dx := dx9) (m := (come pl th sc).many + 1)
          have f11 : Fr [r] H10 (upd H10 r (.ins (He.ga K "Run") dx9 (runFs pw0 yw0 nl sl ll { come pl th sc with many := (come pl th sc).many + 1 }))) := Fr.upd (by simp)
          have L11 := L10.fr1 A f11.r4 R11
          have tx11 := (tx9.ex e10).kp (L10.run.keep1 f11)
          have tu11 := (tu9.ex e10).kp (L10.run.keep1 f11)
          show tSeq _ _ _ _ (upd H10 r (.ins (He.ga K "Run") dx9 (runFs pw0 yw0 nl sl ll { come pl th sc with many := (come pl th sc).many + 1 })))
          generalize upd H10 r (.ins (He.ga K "Run") dx9 (runFs pw0 yw0 nl sl ll { come pl th sc with many := (come pl th sc).many + 1 })) = H11 at *
          obtain ⟨dx11, hob11⟩ := R11.ob
          obtain ⟨lv11, hl11, hla11⟩ := R11.lent
          refine w_seq (w_appF rfl hob11 T.c_Run T.na_Run_lent (by rfl) hl11 (w_d (K := K) (d := .tuple [.int (pl : Int), .int (((come pl th sc).many + 1 : Nat) : Int)]) ?_ fun v12 H12 e12 t12 => ?_))
          · exact ed_tup (eda_cons (ed_ixT (i := 0) (ed_var rfl tx11) ed_ci rfl) (eda_cons (ed_fld rfl hob11 T.c_Run T.na_Run_many (by rfl) (.int _)) eda_nil)) (by simp)
          have L12 := L11.ex e12
          have hl12 := e12 _ _ hl11
          have hsz12 : lv11.length < sizeLine := by
            rw [hla11.length, List.length_map]
            show (come pl th sc).lent.length < sizeLine
            exact sz_lt (by unfold mostL at hlt; omega)
          refine ⟨lv11, hl12, hsz12, ?_⟩
          have R13 := L12.run.addl (x := (pl, (come pl th sc).many + 1)) hl12 t12
          have f13 : Fr (sR r nl sl ll) H12 (upd H12 ll (.lst (lv11 ++ [v12]))) := Fr.upd (by simp [sR])
          have L13 := L12.fr1 A f13 R13
          have tx13 := (tx11.ex e12).kp (L12.run.keep f13)
          have tu13 := (tu11.ex e12).kp (L12.run.keep f13)
          dsimp only
          generalize upd H12 ll (.lst (lv11 ++ [v12])) = H13 at *
          refine Pst.go (K := K) ?_
          refine pst_if (K := K) (b := isW "place" wy) (tk_v (ed_eqS (ed_var rfl tu13) ed_cs hlw (by simp))) (fun hb2 => pst_of fun H14 e14 => ?_) (fun hb2 => pst_of fun H14 e14 => ?_)
          · rw [if_pos hb2] at h2
            have hth : th.length < mostL := by
              split at h2
              · assumption
              · cases h2
            rw [if_pos hth] at h2
            cases h2
            have L14 := L13.ex e14
            have tx14 := tx13.ex e14
            obtain ⟨dx14, hob14⟩ := L14.run.ob
            obtain ⟨us14, u14, _⟩ := L14.ps
            refine w_appF rfl L14.fr T.c_Frame T.na_Frame_pars (by rfl) u14 (w_mk (w_cons (w_d (K := K) (d := .int (pl : Int)) (ed_ixT (i := 0) (ed_var rfl tx14) ed_ci rfl) fun v15 H15 e15 t15 => ?_)))
            cases t15
            have L15 := L14.ex e15
            obtain ⟨dx15, hob15⟩ := L15.run.ob
            refine w_cons (w_d (K := K) (d := .tuple (nD (th ++ [(come pl th sc).many + 1]))) ?_ fun v16 H16 e16 t16 => ?_)
            · refine ed_is (ed_cat (ds := nD th) (es := [.int (((come pl th sc).many + 1 : Nat) : Int)]) (ed_ixT (i := 1) (ed_var rfl (tx14.ex e15)) ed_ci rfl) (ed_tup (eda_cons (ed_fld rfl hob15 T.c_Run T.na_Run_many (by rfl) (.int _)) eda_nil) (by simp)) ?_) ?_
              · simp only [nD, List.length_map, List.length_cons, List.length_nil]
                unfold mostL at hth
                omega
              · simp [nD]
            have L16 := L15.ex e16
            refine w_cons (w_c (w_cons (w_c (w_nil (mkLent_go fun xa dxl H17 hxa e17 hL => ?_)))))
            have L17 := L16.ex e17
            have hx17 := L16.off hxa
            obtain ⟨us17, u17, p17⟩ := L17.ps
            exact ⟨us17, u17, usz p17, _, _, _, hs1 ++ [.road pl (th ++ [(come pl th sc).many + 1])], bs1 ++ [none], _, rfl, h3, (L17.push A u17 (.road (ofs_get hL hx17) ((t16.ex e17).kp (keep_ofs L17.mu)))).skip⟩
          · rw [if_neg (by rw [hb2]; decide)] at h2
            cases hnv : (come pl th sc).nums[pl]? with
            | none => rw [hnv] at h2; cases h2
            | some vn =>
            rw [hnv] at h2
            dsimp only at h2
            have hq : (come pl th sc).nums.length < mostL := by
              simp only [freshF] at h2
              split at h2
              · cases h2
              · rename_i o s4 h6
                split at h6
                · assumption
                · cases h6
            simp only [freshF] at h2
            rw [if_pos hq] at h2
            cases h2
            have L14 := L13.ex e14
            have tx14 := tx13.ex e14
            obtain ⟨dx14, hob14⟩ := L14.run.ob
            obtain ⟨us14, u14, _⟩ := L14.ps
            refine w_seq (w_appF rfl L14.fr T.c_Frame T.na_Frame_pars (by rfl) u14 (w_mk (w_cons (w_meth rfl hob14 (by rfl) (w_cons (w_d (K := K) (d := .int (vn : Int)) ?_ fun v15 H15 e15 t15 => w_nil ?_))))))
            · exact ed_ixL (i := (pl : Int)) (edr_fld rfl hob14 T.c_Run T.na_Run_numbers (by rfl) L14.run.nums (nV_td _)) (ed_ixT (i := 0) (ed_var rfl tx14) ed_ci rfl) (atI_nat (by rw [nD, List.getElem?_map, hnv] <;> rfl))
            cases t15
            have L15 := L14.ex e15
            refine ⟨r, nl, sl, ll, pw0, yw0, _, vn, rfl, L15.run, hq, fun H16 R16 f16 => ?_⟩
            have L16 := L15.fr1 A (f16.sub (by simp [sR])) R16
            have tx16 := (tx14.ex e15).kp (L15.run.keep (f16.sub (by simp)))
            refine w_cons (w_tup (w_nil ⟨Nat.zero_le _, fun pt hpt => w_cons (w_c (w_cons (w_c (w_nil (mkLent_go fun xa dxl H17 hxa e17 hL => ?_)))))⟩))
            have L17 := (L16.ex (Ex.new hpt)).ex e17
            have hx17 := (L16.ex (Ex.new hpt)).off hxa
            obtain ⟨us17, u17, p17⟩ := L17.ps
            refine ⟨us17, u17, usz p17, ?_⟩
            have L18 := L17.push A u17 (.road (th := []) (ofs_get hL hx17) (((td_new (ds := []) hpt .nil).ex e17).kp (keep_ofs L17.mu)))
            have hxl : xa ≠ lp := fun e => hx17 (by rw [e]; simp)
            have hL18 : upd H17 lp (.lst (us17 ++ [.ref xa])) xa = _ := (upd_ne hxl).trans hL
            have hl18 : upd H17 lp (.lst (us17 ++ [.ref xa])) lp = some (.lst (us17 ++ [.ref xa])) := upd_same
            have tx18 := ((tx16.ex (Ex.new hpt)).ex e17).kp (Keep.upd (o := .lst (us17 ++ [.ref xa])) u17 True.intro)
            generalize upd H17 lp (.lst (us17 ++ [.ref xa])) = H18 at *
            obtain ⟨bv18, b18, bt18⟩ := L18.bs
            refine w_app rfl b18 (w_tup (w_cons (w_d (K := K) (d := .int (pl : Int)) (ed_ixT (i := 0) (ed_var rfl tx18) ed_ci rfl) fun v19 H19 e19 t19 => ?_)))
            cases t19
            have L19 := L18.ex e19
            have eat : atI (us17 ++ [V.ref xa]) (-1) = some (.ref xa) := by
              have e1 : ixN (us17 ++ [V.ref xa]).length (-1) = some us17.length := by
                unfold ixN
                rw [if_neg (by decide), if_pos (by simp only [List.length_append, List.length_cons, List.length_nil]; omega)]
                simp only [List.length_append, List.length_cons, List.length_nil]
                congr 1
                omega
              unfold atI
              rw [e1]
              simp
            refine w_cons (w_op (w_fld rfl L19.fr T.c_Frame T.na_Frame_pars (by rfl) ⟨1, rfl, lp, _, -1, .ref xa, rfl, rfl, SqL.of (e19 _ _ hl18), eat, ?_⟩))
            refine ⟨xa, _, dxl, _, _, rfl, e19 _ _ hL18, T.c_Lent, T.na_Lent_place, by rfl, w_nil ⟨by show 2 ≤ sizeLine; decide, fun pq hpq => ?_⟩⟩
            have L20 := L19.ex (Ex.new (o := .tup [.int (pl : Int), .int ((come pl th sc).nums.length : Int)]) hpq)
            have b20 := (Ex.new (o := .tup [.int (pl : Int), .int ((come pl th sc).nums.length : Int)]) hpq) _ _ (e19 _ _ b18)
            refine ⟨bv18, b20, ?_, _, _, _, hs1 ++ [.road (come pl th sc).nums.length []], bs1 ++ [some (pl, (come pl th sc).nums.length)], _, rfl, h3, L20.back A b20 (td_new hpq (tdall2 (.int _) (.int _)))⟩
            rw [bt18.length]
            have q1 := handAll_len2 h1
            have q2 : (bD bs1).length ≤ bs1.length := by
              simp only [bD, List.length_map]
              exact List.length_filterMap_le _ _
            rw [List.length_take] at q1
            exact sz_lt (by omega)
      · refine w_asg (w_if (w_t (K := K) (b := isLent wy) (tk_v (ed_inT (ed_var rfl tu) (ed_tup (eda_cons ed_cs (eda_cons ed_cs eda_nil)) (by simp)) rfl rfl)) fun H5 e5 => ?_))
        have L5 := L4.ex e5
        cases hil : isLent wy with
        | false =>
          rw [hil] at hfd
          simp at hfd
          obtain ⟨rfl, rfl⟩ := hfd
          exact iteF (w_c (hN _ _ ⟨_, rfl, .non, tv.ex e5, tu.ex e5, L5⟩))
        | true =>
          rw [hil] at hfd
          simp at hfd
          obtain ⟨dx5, hob5⟩ := L5.run.ob
          refine iteT (w_meth rfl hob5 (by rfl) (w_cons (w_v rfl (w_cons (w_v rfl (w_nil ⟨r, nl, sl, ll, pw0, yw0, v, sa, sc, t, fa, f, fd, rfl, L5.run, hsa, tv.ex e5, (hfx (fz L5.f)).1, hfd, fun x H6 R6 f6 t6 => ?_⟩))))))
          exact hN _ _ ⟨_, rfl, t6, (tv.ex e5).kp (L5.run.keep1 f6), (tu.ex e5).kp (L5.run.keep1 f6), L5.fr1 A f6.r4 R6⟩
    · rintro Hz σ' H4 ez ⟨u7, u8, u9, hs1, bs1, sa, rfl, h1, L4⟩
      rw [List.take_length, hwl.symm, List.take_length, hha] at h1
      cases h1
      exact hN _ _ ⟨_, _, _, rfl, ⟨L4.run, L4.fr, L4.ps, L4.bs, (Fr.of ez).trans L4.f⟩⟩
end
end Hw

set_option maxRecDepth 100000
set_option maxHeartbeats 4000000
/-! RU9: whole runs by the program -/
namespace Hw
open PySem PySem.Spec PyProof.Rows L2 Evl
local macro_rules | `(tactic| walk_at "dd") => `(tactic| first | rfl | decide | (simp; done) | omega)
local macro_rules | `(tactic| walk_at "td") => `(tactic| first | assumption | exact Td.int _ | exact Td.bl _ | exact Td.str _ | exact Td.non | exact Td.tup (by assumption) (by assumption))
local macro_rules | `(tactic| walk_at "ev") => `(tactic| first
  | exact ed_ci | exact ed_cs | exact ed_cb | exact ed_cn
  | (apply ed_cg; assumption)
  | (apply ed_var; (rfl); (walk_at "td"))
  | (apply ed_ixT; (walk_at "ev"); (walk_at "ev"); (first | rfl | assumption))
  | (apply ed_rowI; (rfl); (assumption); (walk_at "ev"); (rfl))
  | (apply ed_ixL; (apply EvDL.rd; walk_at "edl"); (walk_at "ev"); (rfl))
  | (apply ed_intb; (walk_at "ev"))
  | (apply ed_len; walk_at "ev")
  | (apply ed_lenV; (apply ev_rowR; (rfl); (assumption); (walk_at "ev"); (rfl)); (assumption))
  | (apply ed_Ii; (walk_at "ev"); (walk_at "ev"); (walk_at "cc"))
  | (apply ed_isi; (walk_at "ev"); (rfl))
  | (apply ed_I0i; (walk_at "ev"); (walk_at "ev"))
  | (apply ed_I0b; (walk_at "ev"); (walk_at "ev"))
  | (apply ed_eqi; (walk_at "ev"); (walk_at "ev"))
  | (apply ed_nei; (walk_at "ev"); (walk_at "ev"))
  | (apply ed_andF; walk_at "ev")
  | (apply ed_andV; (walk_at "ev"); (intro _; walk_at "ev"))
  | (apply ed_orT; walk_at "ev")
  | (apply ed_orV; (walk_at "ev"); (intro _; walk_at "ev"))
  | (apply ed_notT; walk_at "ev")
  | (apply ed_notF; walk_at "ev")
  | (apply ed_notV; walk_at "ev")
  | (apply ed_chain; (walk_at "ev"); (walk_at "ev"); (intro _; walk_at "ev"))
  | (apply ed_eqS; (walk_at "ev"); (walk_at "ev"); (walk_at "bb"); (walk_at "bb"))
  | (apply ed_neS; (walk_at "ev"); (walk_at "ev"); (walk_at "bb"); (walk_at "bb"))
  | (apply ed_inT; (walk_at "ev"); (walk_at "ev"); (rfl); (rfl))
  | (apply ed_niT; (walk_at "ev"); (walk_at "ev"); (rfl); (rfl))
  | (apply ed_tup; (walk_at "eva"); (walk_at "bb"))
  | (apply ed_sl; (walk_at "ev"); (walk_at "evo"); (walk_at "evo"))
  | (apply ed_eqN; (apply EvDL.rd; walk_at "edl"); (walk_at "edl"); (walk_at "bb"))
  | (apply ed_neN; (apply EvDL.rd; walk_at "edl"); (walk_at "edl"); (walk_at "bb"))
  | (apply ed_ixL; (apply edr_var; (rfl); (assumption); (assumption)); (walk_at "ev"); (first | rfl | assumption))
  | (apply ed_lenL; (apply edr_var; (rfl); (assumption); (assumption)))
  | (apply ed_call; (walk_at "eva"); (walk_at "post")))
local macro_rules | `(tactic| walk_at "edl") => `(tactic| first
  | assumption
  | (apply edl_lst; (walk_at "eva"); (walk_at "bb")))
local macro_rules | `(tactic| walk_at "eva") => `(tactic| first
  | exact eda_nil
  | (apply eda_cons; (walk_at "ev"); (walk_at "eva")))
local macro_rules | `(tactic| walk_at "evo") => `(tactic| first
  | exact eok_none
  | (apply eok_some; walk_at "ev"))
local macro_rules | `(tactic| walk_at "bb") => `(tactic| first | rfl | assumption | (simp; done) | (simp; omega) | decide +kernel)
local macro_rules | `(tactic| walk_at "et") => `(tactic| first
  | exact tk_yes
  | (apply tk_andF; walk_at "et")
  | (apply tk_and; (walk_at "et"); (intro _; walk_at "et"))
  | (apply tk_orT; walk_at "et")
  | (apply tk_or; (walk_at "et"); (intro _; walk_at "et"))
  | (apply tk_notT; walk_at "et")
  | (apply tk_notF; walk_at "et")
  | (apply tk_not; walk_at "et")
  | (apply tk_v; walk_at "ev")
  | (apply tk_vB; walk_at "ev"))
local macro_rules | `(tactic| walk_at "if") => `(tactic| first
  | (apply pst_whenF; (walk_at "et"); (walk_at "bb"))
  | (apply pst_whenT; (walk_at "et"); (walk_at "bb")))
local macro_rules | `(tactic| walk_at "post") => `(tactic| first | assumption | exact ⟨_, _, rfl, rfl⟩ | exact ⟨_, _, _, _, rfl, by omega, by omega, rfl⟩ | exact ⟨_, _, _, 0, rfl, by omega, by omega, rfl⟩)
local macro_rules | `(tactic| walk_at "cc") => `(tactic| first | assumption | decide | omega | (refine ⟨?_, ?_⟩ <;> first | decide | omega) | (exact Or.inl (by constructor <;> omega)))

/-- Run.__init__ -/
def spRunI (K : PySem.W.Frag) (p : List Wk) (ys : List (List Str)) (M n : Nat) : Sp := fun vs H Q _ => ∃ (x dx : Addr) (pw0 yw0 cv : V) (cells : List Nat) (s' : Sg), vs = [.ref x, pw0, yw0, cv] ∧ H x = some (.ins (He.ga K "Run") dx []) ∧ Td K H pw0 (encP p) ∧ Td K H yw0 (encY ys) ∧ Td K H cv (.tuple (nD cells)) ∧ runF p ys M n cells = some s' ∧
  ∀ nl sl ll H', H sl = none → RunAt K x nl sl ll pw0 yw0 s' H' → (∀ q o, q ≠ x → H q = some o → H' q = some o) → Q .non H'
theorem cut3 {ns : List Nat} : cutD (nD ns) none (some 3) = nD (ns.take 3) := by
  unfold cutD
  have e : HT.sIx (nD ns).length (nD ns).length (some 3) = min 3 (nD ns).length := HT.sIx_nat _ _ 3
  rw [HT.sIx_none, e, List.drop_zero, Nat.sub_zero, nD, List.length_map]
  rcases Nat.le_total 3 ns.length with h | h
  · rw [Nat.min_eq_left h, nD, List.map_take]
  · rw [Nat.min_eq_right h, List.take_of_length_le (by simp), List.take_of_length_le h, nD]
theorem w_sl {r : V → Option Int → Option Int → Hp → VK → Prop} {te : TE} {tl th : TO} {σ : L2.St} {H : Hp} {Q : VK} (h : te σ H fun x H1 => tl σ H1 fun l H2 => th σ H2 fun u H3 => r x l u H3 Q) : tSl r te tl th σ H Q := h
section
variable {P : Program} {w : World} {K : PySem.W.Frag} {mg : Str → Option Value} {base : Heap} (T : Tx K mg)
include T
theorem ok_steps {p : List Wk} {ys : List (List Str)} {M : Nat} (hp : PrOk p ys) : ∀ n : Nat, Fn_Run_steps T P w base CX0 (M + 4 + 3 * n + 1) (spSteps K p ys M n)
  | 0 => steps_step T (lv := M + 4) (Nat.le_refl _) hp (fun _ _ _ _ => False) (fun _ _ _ _ => False) (fun h => absurd h (Nat.lt_irrefl _)) (fn_vac fun _ _ _ _ h => h) (fn_vac fun _ _ _ _ h => h) (ok_fn T M).2 (ok_put T (ok_fn T M).1 (ok_come T))
  | n + 1 => by
    have g := ok_steps (M := M) hp n
    have d := ok_do T (by omega) hp g (ok_fresh T)
    have c := call_step T (by omega) hp d (ok_fn T M).1 (ok_fn T M).2 (ok_come T) (ok_fresh T) (ok_frI T) (ok_leI T)
    have s := steps_step T (lv := M + 4 + 3 * n + 1 + 1 + 1) (n := n + 1) (by omega) hp (spSteps K p ys M n) (spCall K p ys M n) (fun _ => ⟨rfl, rfl⟩) (FnOk.mono g (by omega)) c (ok_fn T M).2 (ok_put T (ok_fn T M).1 (ok_come T))
    have e : M + 4 + 3 * (n + 1) + 1 = M + 4 + 3 * n + 1 + 1 + 1 + 1 := by omega
    rw [e]
    exact s
theorem ok_runI {p : List Wk} {ys : List (List Str)} {M n lv : Nat} (hl : 2 ≤ lv) (hp : PrOk p ys) (GD : Fn_Run_do T P w base CX0 lv (spDo K p ys M n)) (GI : Fn_Frame___init__ T P w base CX0 1 (spFrI K)) : Fn_Run___init__ T P w base CX0 (lv + 1) (spRunI K p ys M n) := by
  have G_Run_do := GD
  have G_Frame___init__ := GI
  refine T.F_Run___init__.ok sc_Run___init__ (fun vs H Q E h => by obtain ⟨_, _, _, _, _, _, _, rfl, _⟩ := h; rfl) fun cdv A outer s0 H vs Q E hr h => ?_
  obtain ⟨x, dx, pw0, yw0, cv, cells, s', rfl, hx, tp, ty, tc, hrun, k⟩ := h
  refine ⟨_, (pss_cons (ps_fld (pv 0) (pv 1) rfl)
  (pss_cons (ps_fld (pv 0) (pv 2) rfl)
  (pss_cons (ps_fld (pv 0) (pe_callTy (kc_list K) rfl T.b_list (by decide +kernel) (pa_cons (pv 3) pa_nil)) rfl)
  (pss_cons (ps_fld (pv 0) (pe_lst pa_nil) rfl)
  (pss_cons (ps_fld (pv 0) (pe_lst pa_nil) rfl)
  (pss_cons (ps_fld (pv 0) pe_int rfl)
  (pss_cons (ps_fld (pv 0) pe_bl rfl)
  (pss_one (ps_expr (pe_meth (pv 0) T.c_Run T.m_Run_do G_Run_do (hr.mono (by omega)) T.bd_Run_do .nil pass0 (pa_cons pe_int (pa_cons (pe_make0 T.mk_Frame G_Frame___init__ (hr.mono (by omega)) (by rfl) T.g_Frame T.bd_Frame___init__ .nil pass0) pa_nil)))))))))))), ?_⟩
  refine w_seq (w_setf rfl (w_v rfl ⟨_, dx, [], hx, T.c_Run, T.na_Run_program, by decide, ?_⟩))
  dsimp only
  refine w_seq (w_setf rfl (w_v rfl ⟨_, dx, [("program", pw0)], upd_same, T.c_Run, T.na_Run_ways, by show 1 < 1000; decide, ?_⟩))
  have tc2 := (tc.kp (Keep.upd (o := .ins (He.ga K "Run") dx [("program", pw0)]) hx True.intro)).kp (Keep.upd (o := .ins (He.ga K "Run") dx [("program", pw0), ("ways", yw0)]) upd_same True.intro)
  obtain ⟨pc, cs, rfl, hpc, hca⟩ := tc2.tup_inv
  have ecs : cs = nV cells := by
    have : ∀ (ns : List Nat) (xs : List V) (H : Hp), TdAll K H xs (nD ns) → xs = nV ns := by
      intro ns
      induction ns with
      | nil => intro xs H h; cases h; rfl
      | cons n r ih =>
        intro xs H h
        cases h with
        | cons a b =>
          cases a
          rw [ih _ _ b]
          rfl
    exact this _ _ _ hca
  subst ecs
  have fr2 : ∀ q o, q ≠ x → H q = some o → upd (upd H x (.ins (He.ga K "Run") dx [("program", pw0)])) x (.ins (He.ga K "Run") dx [("program", pw0), ("ways", yw0)]) q = some o := fun q o hq h => by
    rw [upd_ne hq, upd_ne hq]
    exact h
  have hx2 : upd (upd H x (.ins (He.ga K "Run") dx [("program", pw0)])) x (.ins (He.ga K "Run") dx [("program", pw0), ("ways", yw0)]) x = some (.ins (He.ga K "Run") dx [("program", pw0), ("ways", yw0)]) := upd_same
  have ep : putF ("ways" : Str) yw0 ([("program", pw0)] : List (Str × V)) = ([("program", pw0), ("ways", yw0)] : List (Str × V)) := by rfl
  dsimp only
  rw [ep]
  have ep2 : putF ("program" : Str) pw0 [] = ([("program", pw0)] : List (Str × V)) := by rfl
  rw [ep2]
  generalize upd (upd H x (.ins (He.ga K "Run") dx [("program", pw0)])) x (.ins (He.ga K "Run") dx [("program", pw0), ("ways", yw0)]) = H2 at *
  refine w_seq (w_setf rfl (w_cons (w_v rfl (w_nil ⟨pc, _, rfl, .inr hpc, fun nl hnl => ⟨_, dx, _, (Ex.new hnl) _ _ hx2, T.c_Run, T.na_Run_numbers, by show 2 < 1000; decide, ?_⟩⟩))))
  have nnx : nl ≠ x := fun e => by rw [e, hx2] at hnl; cases hnl
  have ep3 : putF ("numbers" : Str) (V.ref nl) ([("program", pw0), ("ways", yw0)] : List (Str × V)) = ([("program", pw0), ("ways", yw0), ("numbers", .ref nl)] : List (Str × V)) := by rfl
  dsimp only
  rw [ep3]
  have fr3 : ∀ q o, q ≠ x → H2 q = some o → upd (upd H2 nl (.lst (nV cells))) x (.ins (He.ga K "Run") dx [("program", pw0), ("ways", yw0), ("numbers", .ref nl)]) q = some o := fun q o hq h => by
    rw [upd_ne hq]
    exact Ex.new hnl _ _ h
  have hx3 : upd (upd H2 nl (.lst (nV cells))) x (.ins (He.ga K "Run") dx [("program", pw0), ("ways", yw0), ("numbers", .ref nl)]) x = some (.ins (He.ga K "Run") dx [("program", pw0), ("ways", yw0), ("numbers", .ref nl)]) := upd_same
  have hn3 : upd (upd H2 nl (.lst (nV cells))) x (.ins (He.ga K "Run") dx [("program", pw0), ("ways", yw0), ("numbers", .ref nl)]) nl = some (.lst (nV cells)) := by rw [upd_ne nnx]; exact upd_same
  generalize upd (upd H2 nl (.lst (nV cells))) x (.ins (He.ga K "Run") dx [("program", pw0), ("ways", yw0), ("numbers", .ref nl)]) = H3 at *
  refine w_seq (w_setf rfl (w_lst (w_nil ⟨Nat.zero_le _, fun sl hsl => ⟨_, dx, _, (Ex.new hsl) _ _ hx3, T.c_Run, T.na_Run_said, by show 3 < 1000; decide, ?_⟩⟩)))
  have nsx : sl ≠ x := fun e => by rw [e, hx3] at hsl; cases hsl
  have nsn : sl ≠ nl := fun e => by rw [e, hn3] at hsl; cases hsl
  have ep4 : putF ("said" : Str) (V.ref sl) ([("program", pw0), ("ways", yw0), ("numbers", .ref nl)] : List (Str × V)) = ([("program", pw0), ("ways", yw0), ("numbers", .ref nl), ("said", .ref sl)] : List (Str × V)) := by rfl
  dsimp only
  rw [ep4]
  have fr4 : ∀ q o, q ≠ x → H3 q = some o → upd (upd H3 sl (.lst [])) x (.ins (He.ga K "Run") dx [("program", pw0), ("ways", yw0), ("numbers", .ref nl), ("said", .ref sl)]) q = some o := fun q o hq h => by
    rw [upd_ne hq]
    exact Ex.new hsl _ _ h
  have hx4 : upd (upd H3 sl (.lst [])) x (.ins (He.ga K "Run") dx [("program", pw0), ("ways", yw0), ("numbers", .ref nl), ("said", .ref sl)]) x = some (.ins (He.ga K "Run") dx [("program", pw0), ("ways", yw0), ("numbers", .ref nl), ("said", .ref sl)]) := upd_same
  have hs4 : upd (upd H3 sl (.lst [])) x (.ins (He.ga K "Run") dx [("program", pw0), ("ways", yw0), ("numbers", .ref nl), ("said", .ref sl)]) sl = some (.lst []) := by rw [upd_ne nsx]; exact upd_same
  have hn4 := fr4 nl _ nnx hn3
  generalize upd (upd H3 sl (.lst [])) x (.ins (He.ga K "Run") dx [("program", pw0), ("ways", yw0), ("numbers", .ref nl), ("said", .ref sl)]) = H4 at *
  refine w_seq (w_setf rfl (w_lst (w_nil ⟨Nat.zero_le _, fun ll hll => ⟨_, dx, _, (Ex.new hll) _ _ hx4, T.c_Run, T.na_Run_lent, by show 4 < 1000; decide, ?_⟩⟩)))
  have nlx : ll ≠ x := fun e => by rw [e, hx4] at hll; cases hll
  have nln : ll ≠ nl := fun e => by rw [e, hn4] at hll; cases hll
  have nls : ll ≠ sl := fun e => by rw [e, hs4] at hll; cases hll
  have ep5 : putF ("lent" : Str) (V.ref ll) ([("program", pw0), ("ways", yw0), ("numbers", .ref nl), ("said", .ref sl)] : List (Str × V)) = ([("program", pw0), ("ways", yw0), ("numbers", .ref nl), ("said", .ref sl), ("lent", .ref ll)] : List (Str × V)) := by rfl
  dsimp only
  rw [ep5]
  have fr5 : ∀ q o, q ≠ x → H4 q = some o → upd (upd H4 ll (.lst [])) x (.ins (He.ga K "Run") dx [("program", pw0), ("ways", yw0), ("numbers", .ref nl), ("said", .ref sl), ("lent", .ref ll)]) q = some o := fun q o hq h => by
    rw [upd_ne hq]
    exact Ex.new hll _ _ h
  have hx5 : upd (upd H4 ll (.lst [])) x (.ins (He.ga K "Run") dx [("program", pw0), ("ways", yw0), ("numbers", .ref nl), ("said", .ref sl), ("lent", .ref ll)]) x = some (.ins (He.ga K "Run") dx [("program", pw0), ("ways", yw0), ("numbers", .ref nl), ("said", .ref sl), ("lent", .ref ll)]) := upd_same
  have hl5 : upd (upd H4 ll (.lst [])) x (.ins (He.ga K "Run") dx [("program", pw0), ("ways", yw0), ("numbers", .ref nl), ("said", .ref sl), ("lent", .ref ll)]) ll = some (.lst []) := by rw [upd_ne nlx]; exact upd_same
  have hn5 := fr5 nl _ nnx hn4
  have hs5 := fr5 sl _ nsx hs4
  generalize upd (upd H4 ll (.lst [])) x (.ins (He.ga K "Run") dx [("program", pw0), ("ways", yw0), ("numbers", .ref nl), ("said", .ref sl), ("lent", .ref ll)]) = H5 at *
  refine w_seq (w_setf rfl (w_c ⟨_, dx, _, hx5, T.c_Run, T.na_Run_many, by show 5 < 1000; decide, ?_⟩))
  have ep6 : putF ("many" : Str) (V.int 0) ([("program", pw0), ("ways", yw0), ("numbers", .ref nl), ("said", .ref sl), ("lent", .ref ll)] : List (Str × V)) = ([("program", pw0), ("ways", yw0), ("numbers", .ref nl), ("said", .ref sl), ("lent", .ref ll), ("many", .int 0)] : List (Str × V)) := by rfl
  dsimp only
  rw [ep6]
  refine w_seq (w_setf rfl (w_c ⟨_, dx, _, upd_same, T.c_Run, T.na_Run_mixed, by show 6 < 1000; decide, ?_⟩))
  have ep7 : putF ("mixed" : Str) (V.bl false) ([("program", pw0), ("ways", yw0), ("numbers", .ref nl), ("said", .ref sl), ("lent", .ref ll), ("many", .int 0)] : List (Str × V)) = runFs pw0 yw0 nl sl ll ⟨cells, [], [], 0, false⟩ := by rfl
  dsimp only
  rw [ep7]
  have fr7 : ∀ q o, q ≠ x → H q = some o → upd (upd H5 x (.ins (He.ga K "Run") dx [("program", pw0), ("ways", yw0), ("numbers", .ref nl), ("said", .ref sl), ("lent", .ref ll), ("many", .int 0)])) x (.ins (He.ga K "Run") dx (runFs pw0 yw0 nl sl ll ⟨cells, [], [], 0, false⟩)) q = some o := fun q o hq h => by
    rw [upd_ne hq, upd_ne hq]
    exact fr5 q o hq (fr4 q o hq (fr3 q o hq (fr2 q o hq h)))
  have R7 : RunAt K x nl sl ll pw0 yw0 ⟨cells, [], [], 0, false⟩ (upd (upd H5 x (.ins (He.ga K "Run") dx [("program", pw0), ("ways", yw0), ("numbers", .ref nl), ("said", .ref sl), ("lent", .ref ll), ("many", .int 0)])) x (.ins (He.ga K "Run") dx (runFs pw0 yw0 nl sl ll ⟨cells, [], [], 0, false⟩))) := by
    refine ⟨⟨dx, upd_same⟩, ?_, ?_, ⟨[], ?_, .nil⟩, Ne.symm nsn, Ne.symm nln, Ne.symm nls⟩
    · rw [upd_ne nnx, upd_ne nnx]; exact hn5
    · rw [upd_ne nsx, upd_ne nsx]; exact hs5
    · rw [upd_ne nlx, upd_ne nlx]; exact hl5
  have hsl0 : H sl = none := by
    cases e : H sl with
    | none => rfl
    | some o =>
      have := fr3 sl o nsx (fr2 sl o nsx e)
      rw [hsl] at this
      cases this
  have hnl0 : H nl = none := by
    cases e : H nl with
    | none => rfl
    | some o =>
      have := fr2 nl o nnx e
      rw [hnl] at this
      cases this
  have hll0 : H ll = none := by
    cases e : H ll with
    | none => rfl
    | some o =>
      have := fr4 ll o nlx (fr3 ll o nlx (fr2 ll o nlx e))
      rw [hll] at this
      cases this
  have kk : Keep K H (upd (upd H5 x (.ins (He.ga K "Run") dx [("program", pw0), ("ways", yw0), ("numbers", .ref nl), ("said", .ref sl), ("lent", .ref ll), ("many", .int 0)])) x (.ins (He.ga K "Run") dx (runFs pw0 yw0 nl sl ll ⟨cells, [], [], 0, false⟩))) := by
    refine Fr.keep (S := [x]) (fun q o hq h => fr7 q o (by simpa using hq) h) fun a ha => ?_
    have e : a = x := by simpa using ha
    rw [e]
    exact ⟨_, hx, True.intro⟩
  have tp7 := tp.kp kk
  have ty7 := ty.kp kk
  generalize upd (upd H5 x (.ins (He.ga K "Run") dx [("program", pw0), ("ways", yw0), ("numbers", .ref nl), ("said", .ref sl), ("lent", .ref ll), ("many", .int 0)])) x (.ins (He.ga K "Run") dx (runFs pw0 yw0 nl sl ll ⟨cells, [], [], 0, false⟩)) = H7 at *
  obtain ⟨dx7, hob7⟩ := R7.ob
  unfold runF at hrun
  cases hwk : p[0]? with
  | none => rw [hwk] at hrun; cases hrun
  | some wk =>
  rw [hwk] at hrun
  dsimp only at hrun
  cases hown : ownF wk.owns ⟨cells, [], [], 0, false⟩ with
  | none => rw [hown] at hrun; cases hrun
  | some x2 =>
  obtain ⟨os, s2⟩ := x2
  rw [hown] at hrun
  dsimp only at hrun
  refine w_drop (w_meth rfl hob7 (by rfl) (w_cons (w_c (w_cons (w_mk (w_nil (mkFrame_go fun fi dxi lo lp H8 hfi hlo hlp hll8 e8 hF8 hlo8 hlp8 => w_nil ?_)))))))
  refine ⟨x, nl, sl, ll, pw0, yw0, ⟨cells, [], [], 0, false⟩, s2, s', 0, wk, os, [], fi, dxi, lo, lp, [], rfl, ⟨R7.ex e8, tp7.ex e8, ty7.ex e8, Nat.zero_le _⟩, hwk, hF8, hlp8, R7.off hlp, .nil, hown, hrun, fun ll' H' R' f' _ => ?_⟩
  refine k nl sl ll' H' hsl0 R' fun q o hq h => ?_
  refine f' q o ?_ (e8 q o (fr7 q o hq h))
  have n1 : q ≠ fi := fun e => by
    have := fr7 q o hq h
    rw [e, hfi] at this
    cases this
  have n2 : q ≠ nl := fun e => by rw [e, hnl0] at h; cases h
  have n3 : q ≠ sl := fun e => by rw [e, hsl0] at h; cases h
  have n4 : q ≠ ll := fun e => by rw [e, hll0] at h; cases h
  simp [sR, n1, n2, n3, n4, hq]
/-- what was said, the common cells -/
def spOut (K : PySem.W.Frag) (p : List Wk) (ys : List (List Str)) (M n : Nat) : Sp := fun vs H Q _ => ∃ (pw0 yw0 cv : V) (cells : List Nat) (s' : Sg), vs = [pw0, yw0, cv] ∧ Td K H pw0 (encP p) ∧ Td K H yw0 (encY ys) ∧ Td K H cv (.tuple (nD cells)) ∧ runF p ys M n cells = some s' ∧
  ∀ q sl tv H', H q = none → H sl = none → Ex H H' → H' q = some (.tup [.ref sl, tv]) → H' sl = some (.lst (nV s'.said)) → Td K H' tv (.tuple (nD (s'.nums.take 3))) → Q (.ref q) H'
theorem ok_out {p : List Wk} {ys : List (List Str)} {M n lv : Nat} (hl : 2 ≤ lv) (GI : Fn_Run___init__ T P w base CX0 lv (spRunI K p ys M n)) : Fn_out_of T P w base CX0 (lv + 2) (spOut K p ys M n) := by
  have G_Run___init__ := GI
  refine T.F_out_of.ok sc_out_of (fun vs H Q E h => by obtain ⟨_, _, _, _, _, rfl, _⟩ := h; rfl) fun cdv A outer s0 H vs Q E hr h => ?_
  obtain ⟨pw0, yw0, cv, cells, s', rfl, tp, ty, tc, hrun, k⟩ := h
  refine ⟨_, (pss_cons (ps_set (i := 3) sc_out_of.nd rfl (Or.inl rfl) (pe_make T.mk_Run G_Run___init__ (hr.mono (by omega)) (by rfl) T.g_Run T.bd_Run___init__ .nil pass0 (pa_cons (pv 0) (pa_cons (pv 1) (pa_cons (pv 2) pa_nil)))))
  (pss_one (ps_ret (pe_tup (pa_cons (kpe_fld K (pv 3)) (pa_cons (pe_callTy (kc_tuple K) rfl T.b_tuple (by decide +kernel) (pa_cons (pe_slice (ksl_list K) (kpe_fld K (pv 3)) po_none (po_some (pe_gint rfl T.g_COMMON))) pa_nil)) pa_nil)))))), ?_⟩
  refine w_seq (w_asg (w_mk (w_cons (w_v rfl (w_cons (w_v rfl (w_cons (w_v rfl (w_nil fun x dx hx hdx hne => ?_)))))))))
  have e1 : Ex H (upd (upd H dx (.own x)) x (.ins (He.ga K "Run") dx [])) := (Ex.new hdx).trans (Ex.new (by rw [upd_ne (Ne.symm hne)]; exact hx))
  refine ⟨x, dx, pw0, yw0, cv, cells, s', rfl, upd_same, tp.ex e1, ty.ex e1, tc.ex e1, hrun, fun nl sl ll H' hsl R fr => ⟨rfl, ?_⟩⟩
  have e2 : Ex H H' := fun q o h => fr q o (fun e => by rw [e, hx] at h; cases h) (e1 q o h)
  have hsl0 : H sl = none := fresh_back e1 hsl
  obtain ⟨dx2, hob⟩ := R.ob
  dsimp only
  refine w_ret (w_tup (w_cons (w_fld rfl hob T.c_Run T.na_Run_said (by rfl) (w_cons ?_))))
  refine w_tupl ?_
  refine w_sl (w_fld rfl hob T.c_Run T.na_Run_numbers (by rfl) ⟨3, rfl, nl, _, rfl, SqL.of R.nums, fun p3 hp3 => ?_⟩)
  have t3 : TdAll K H' (cutV (nV s'.nums) none (some 3)) (nD (s'.nums.take 3)) := by
    rw [← cut3]
    exact (nV_td s'.nums).cut none (some 3)
  refine tupl_go upd_same fun l hl3 => w_nil ⟨by show 2 ≤ sizeLine; decide, fun q hq => ?_⟩
  have e3 : Ex H' (upd H' p3 (.lst (cutV (nV s'.nums) none (some 3)))) := Ex.new hp3
  have e4 : Ex (upd H' p3 (.lst (cutV (nV s'.nums) none (some 3)))) (upd (upd H' p3 (.lst (cutV (nV s'.nums) none (some 3)))) l (.tup (cutV (nV s'.nums) none (some 3)))) := Ex.new hl3
  refine k q sl (.ref l) _ (fresh_back ((e2.trans e3).trans e4) hq) hsl0 (((e2.trans e3).trans e4).trans (Ex.new hq)) upd_same ((e3.trans e4).trans (Ex.new hq) _ _ R.said) ?_
  exact (td_new hl3 (t3.ex e3)).ex (Ex.new hq)
/-- ran, of what is none of the refused -/
def spRan (K : PySem.W.Frag) (p : List Wk) (ys : List (List Str)) (M n : Nat) : Sp := fun vs H Q _ => ∃ (pw0 yw0 cv : V) (cells : List Nat) (s' : Sg), vs = [pw0, yw0, cv] ∧ Td K H pw0 (encP p) ∧ Td K H yw0 (encY ys) ∧ Td K H cv (.tuple (nD cells)) ∧ okP p = true ∧ okY p ys = true ∧ smP p ∧ smY ys ∧ cells.length = 3 ∧ (∀ c ∈ cells, c < 3) ∧ runF p ys M n cells = some s' ∧
  ∀ q sl tv H', H q = none → H sl = none → Ex H H' → H' q = some (.tup [.ref sl, tv]) → H' sl = some (.lst (nV s'.said)) → Td K H' tv (.tuple (nD (s'.nums.take 3))) → Q (.ref q) H'
end
end Hw

set_option maxRecDepth 100000
set_option maxHeartbeats 4000000
/-! RP: more of runs in plain words; cells -/
namespace Hw
open PySem PySem.Spec PyProof.Rows L2 Evl
/-! more fuel -/
mutual
theorem findF_up : ∀ {n : Nat} {t : Th} {f : Fra} {s : Sg} {x : Option (Nat × List Nat) × Sg}, findF n t f s = some x → findF (n + 1) t f s = some x
  | 0, t, f, s, x, h => by simp [findF] at h
  | n + 1, .cell t, f, s, x, h => by
    rw [findF] at h ⊢
    cases h1 : numF n t f s with
    | none => rw [h1] at h; cases h
    | some y =>
      rw [numF_up h1]
      rw [h1] at h
      exact h
  | n + 1, .own k, f, s, x, h => by rw [findF] at h ⊢; exact h
  | n + 1, .par k, f, s, x, h => by
    rw [findF] at h ⊢
    cases h1 : f.pars[k]? with
    | none => rw [h1] at h; cases h
    | some hd =>
      rw [h1] at h
      cases hd with
      | road pl th => exact h
      | want t' f' => exact findF_up h
  | n + 1, .num k, f, s, x, h => by rw [findF] at h ⊢; exact h
  | n + 1, .sum a b, f, s, x, h => by rw [findF] at h ⊢; exact h
theorem numF_up : ∀ {n : Nat} {t : Th} {f : Fra} {s : Sg} {x : Nat × Sg}, numF n t f s = some x → numF (n + 1) t f s = some x
  | 0, t, f, s, x, h => by simp [numF] at h
  | n + 1, .num k, f, s, x, h => by rw [numF] at h ⊢; exact h
  | n + 1, .sum a b, f, s, x, h => by
    rw [numF] at h ⊢
    cases h1 : numF n a f s with
    | none => rw [h1] at h; cases h
    | some y =>
      obtain ⟨va, s1⟩ := y
      rw [h1] at h
      rw [numF_up h1]
      dsimp only at h ⊢
      cases h2 : numF n b f s1 with
      | none => rw [h2] at h; cases h
      | some z =>
        rw [h2] at h
        rw [numF_up h2]
        exact h
  | n + 1, .cell t, f, s, x, h => by
    rw [numF] at h ⊢
    cases h1 : findF n (.cell t) f s with
    | none => rw [h1] at h; cases h
    | some y => rw [h1] at h; rw [findF_up h1]; exact h
  | n + 1, .own k, f, s, x, h => by
    rw [numF] at h ⊢
    cases h1 : findF n (.own k) f s with
    | none => rw [h1] at h; cases h
    | some y => rw [h1] at h; rw [findF_up h1]; exact h
  | n + 1, .par k, f, s, x, h => by
    rw [numF] at h ⊢
    cases h1 : findF n (.par k) f s with
    | none => rw [h1] at h; cases h
    | some y =>
      obtain ⟨o, s1⟩ := y
      rw [h1] at h
      rw [findF_up h1]
      cases o with
      | some pt => exact h
      | none =>
        dsimp only at h ⊢
        cases h2 : f.pars[k]? with
        | none => rw [h2] at h; cases h
        | some hd =>
          rw [h2] at h
          cases hd with
          | road pl th => cases h
          | want t' f' => exact numF_up h
end
theorem findF_le {n m : Nat} {t : Th} {f : Fra} {s : Sg} {x : Option (Nat × List Nat) × Sg} (hm : n ≤ m) (h : findF n t f s = some x) : findF m t f s = some x := by
  induction m with
  | zero => have : n = 0 := by omega
            subst this; exact h
  | succ m ih =>
    by_cases e : n = m + 1
    · subst e; exact h
    · exact findF_up (ih (by omega))
theorem numF_le {n m : Nat} {t : Th} {f : Fra} {s : Sg} {x : Nat × Sg} (hm : n ≤ m) (h : numF n t f s = some x) : numF m t f s = some x := by
  induction m with
  | zero => have : n = 0 := by omega
            subst this; exact h
  | succ m ih =>
    by_cases e : n = m + 1
    · subst e; exact h
    · exact numF_up (ih (by omega))
theorem findF_none : ∀ {n : Nat} {t : Th} {f : Fra} {s s' : Sg}, findF n t f s = some (none, s') → s' = s
  | 0, t, f, s, s', h => by simp [findF] at h
  | n + 1, .cell t, f, s, s', h => by
    rw [findF] at h
    split at h <;> cases h
  | n + 1, .own k, f, s, s', h => by
    rw [findF] at h
    split at h <;> cases h
  | n + 1, .par k, f, s, s', h => by
    rw [findF] at h
    split at h
    · cases h
    · exact findF_none h
    · cases h
  | n + 1, .num k, f, s, s', h => by rw [findF] at h; cases h; rfl
  | n + 1, .sum a b, f, s, s', h => by rw [findF] at h; cases h; rfl
/-- a thing that is wanted: its number is that of what was handed -/
theorem numF_want {n k : Nat} {t' : Th} {f f' : Fra} {s : Sg} {x : Nat × Sg} (hp : f.pars[k]? = some (.want t' f')) (h : numF (n + 1) (.par k) f s = some x) : numF n t' f' s = some x := by
  rw [numF] at h
  cases h1 : findF n (.par k) f s with
  | none => rw [h1] at h; cases h
  | some y =>
    obtain ⟨o, s1⟩ := y
    rw [h1] at h
    cases n with
    | zero => simp [findF] at h1
    | succ n =>
      have h1' := h1
      rw [findF, hp] at h1'
      dsimp only at h1'
      cases o with
      | none =>
        dsimp only at h
        rw [hp] at h
        rw [findF_none h1] at h
        exact h
      | some pt =>
        obtain ⟨pl, th⟩ := pt
        dsimp only at h
        cases t' with
        | num i => cases n <;> simp [findF] at h1'
        | sum a b => cases n <;> simp [findF] at h1'
        | cell t => rw [numF, h1']; exact h
        | own i => rw [numF, h1']; exact h
        | par i => rw [numF, h1']; exact h
/-- a place's number, by its road -/
theorem numF_place {n : Nat} {t : Th} {f : Fra} {s : Sg} {v : Nat} {s' : Sg} (ht : isPlace t = true) (hp : ∀ k, t = .par k → ∃ pl th, f.pars[k]? = some (.road pl th)) (h : numF (n + 1) t f s = some (v, s')) : ∃ pl th s1, findF n t f s = some (some (pl, th), s1) ∧ s' = come pl th s1 ∧ (come pl th s1).nums[pl]? = some v := by
  have fin : ∀ (pl : Nat) (th : List Nat) (s1 : Sg), (match (come pl th s1).nums[pl]? with
      | some v => some (v, come pl th s1)
      | none => none) = some (v, s') → s' = come pl th s1 ∧ (come pl th s1).nums[pl]? = some v := fun pl th s1 h => by
    cases h2 : (come pl th s1).nums[pl]? with
    | none => rw [h2] at h; cases h
    | some w => rw [h2] at h; cases h; exact ⟨rfl, rfl⟩
  cases t with
  | num i => cases ht
  | sum a b => cases ht
  | cell t =>
    rw [numF] at h
    split at h
    · rename_i pl th s1 h1
      exact ⟨pl, th, s1, h1, fin _ _ _ h⟩
    · cases h
  | own k =>
    rw [numF] at h
    split at h
    · rename_i pl th s1 h1
      exact ⟨pl, th, s1, h1, fin _ _ _ h⟩
    · cases h
  | par k =>
    obtain ⟨pl0, th0, hp0⟩ := hp k rfl
    rw [numF] at h
    split at h
    · rename_i pl th s1 h1
      exact ⟨pl, th, s1, h1, fin _ _ _ h⟩
    · rw [hp0] at h
      cases h
    · cases h
/-- is it a param -/
def isPar : Th → Bool
  | .par _ => true
  | _ => false
theorem atI_zero {α : Type} {x : α} {r : List α} : atI (x :: r) 0 = some x := (show atI (x :: r) ((0 : Nat) : Int) = some x from atI_nat rfl)
def wordT : Th → Str
  | .num _ => "num"
  | .sum _ _ => "sum"
  | .cell _ => "cell"
  | .own _ => "own"
  | .par _ => "par"
theorem encT_word (t : Th) : ∃ ds, encT t = .tuple (.str (wordT t) :: ds) := by cases t <;> exact ⟨_, rfl⟩
theorem wordT_lay (t : Th) : (PyData.str (wordT t)).canLay0 = true := by cases t <;> simp [wordT]
theorem cutD_pre {ds : List PyData} {k : Nat} : cutD ds none (some (k : Int)) = ds.take k := by
  unfold cutD
  rw [HT.sIx_none, HT.sIx_nat, List.drop_zero, Nat.sub_zero]
  rcases Nat.le_total k ds.length with h | h
  · rw [Nat.min_eq_left h]
  · rw [Nat.min_eq_right h, List.take_of_length_le (Nat.le_refl _), List.take_of_length_le h]
theorem tdV {K : PySem.W.Frag} {H : Hp} {cs : List V} {cells : List Nat} (h : TdAll K H cs (nD cells)) : cs = nV cells := by
  induction cells generalizing cs with
  | nil => cases h; rfl
  | cons n r ih =>
    cases h with
    | cons a b =>
      cases a
      rw [ih b]
      rfl
def allCells : List (List Nat) := (List.range 27).map fun k => [k / 9, k / 3 % 3, k % 3]
def cellsD : List PyData := allCells.map fun c => .tuple (nD c)
def spCells (K : PySem.W.Frag) : Sp := fun vs H Q _ => vs = [] ∧ ∀ p xs H', H p = none → Ex H H' → H' p = some (.lst xs) → TdAll K H' xs cellsD → Q (.ref p) H'
theorem ifT {b : Bool} {A B : Prop} (hb : b = true) (h : A) : if b = true then A else B := by rw [if_pos hb]; exact h
theorem ifF {b : Bool} {A B : Prop} (hb : b = false) (h : B) : if b = true then A else B := by rw [if_neg (by rw [hb]; decide)]; exact h
end Hw

set_option maxRecDepth 100000
set_option maxHeartbeats 4000000
/-! RL1: the law's run: its state, what is handed; a place come to, a new place -/
namespace Hw
open PySem PySem.Spec PyProof.Rows L2 Evl
local macro_rules | `(tactic| walk_at "dd") => `(tactic| first | rfl | decide | (simp; done) | omega)
local macro_rules | `(tactic| walk_at "td") => `(tactic| first | assumption | exact Td.int _ | exact Td.bl _ | exact Td.str _ | exact Td.non | exact Td.tup (by assumption) (by assumption))
local macro_rules | `(tactic| walk_at "ev") => `(tactic| first
  | exact ed_ci | exact ed_cs | exact ed_cb | exact ed_cn
  | (apply ed_cg; assumption)
  | (apply ed_var; (rfl); (walk_at "td"))
  | (apply ed_ixT; (walk_at "ev"); (walk_at "ev"); (first | rfl | assumption))
  | (apply ed_rowI; (rfl); (assumption); (walk_at "ev"); (rfl))
  | (apply ed_ixL; (apply EvDL.rd; walk_at "edl"); (walk_at "ev"); (rfl))
  | (apply ed_intb; (walk_at "ev"))
  | (apply ed_len; walk_at "ev")
  | (apply ed_lenV; (apply ev_rowR; (rfl); (assumption); (walk_at "ev"); (rfl)); (assumption))
  | (apply ed_Ii; (walk_at "ev"); (walk_at "ev"); (walk_at "cc"))
  | (apply ed_isi; (walk_at "ev"); (rfl))
  | (apply ed_I0i; (walk_at "ev"); (walk_at "ev"))
  | (apply ed_I0b; (walk_at "ev"); (walk_at "ev"))
  | (apply ed_eqi; (walk_at "ev"); (walk_at "ev"))
  | (apply ed_nei; (walk_at "ev"); (walk_at "ev"))
  | (apply ed_andF; walk_at "ev")
  | (apply ed_andV; (walk_at "ev"); (intro _; walk_at "ev"))
  | (apply ed_orT; walk_at "ev")
  | (apply ed_orV; (walk_at "ev"); (intro _; walk_at "ev"))
  | (apply ed_notT; walk_at "ev")
  | (apply ed_notF; walk_at "ev")
  | (apply ed_notV; walk_at "ev")
  | (apply ed_chain; (walk_at "ev"); (walk_at "ev"); (intro _; walk_at "ev"))
  | (apply ed_eqS; (walk_at "ev"); (walk_at "ev"); (walk_at "bb"); (walk_at "bb"))
  | (apply ed_neS; (walk_at "ev"); (walk_at "ev"); (walk_at "bb"); (walk_at "bb"))
  | (apply ed_inT; (walk_at "ev"); (walk_at "ev"); (rfl); (rfl))
  | (apply ed_niT; (walk_at "ev"); (walk_at "ev"); (rfl); (rfl))
  | (apply ed_tup; (walk_at "eva"); (walk_at "bb"))
  | (apply ed_sl; (walk_at "ev"); (walk_at "evo"); (walk_at "evo"))
  | (apply ed_eqN; (apply EvDL.rd; walk_at "edl"); (walk_at "edl"); (walk_at "bb"))
  | (apply ed_neN; (apply EvDL.rd; walk_at "edl"); (walk_at "edl"); (walk_at "bb"))
  | (apply ed_ixL; (apply edr_var; (rfl); (assumption); (assumption)); (walk_at "ev"); (first | rfl | assumption))
  | (apply ed_lenL; (apply edr_var; (rfl); (assumption); (assumption)))
  | (apply ed_call; (walk_at "eva"); (walk_at "post")))
local macro_rules | `(tactic| walk_at "edl") => `(tactic| first
  | assumption
  | (apply edl_lst; (walk_at "eva"); (walk_at "bb")))
local macro_rules | `(tactic| walk_at "eva") => `(tactic| first
  | exact eda_nil
  | (apply eda_cons; (walk_at "ev"); (walk_at "eva")))
local macro_rules | `(tactic| walk_at "evo") => `(tactic| first
  | exact eok_none
  | (apply eok_some; walk_at "ev"))
local macro_rules | `(tactic| walk_at "bb") => `(tactic| first | rfl | assumption | (simp; done) | (simp; omega) | decide +kernel)
local macro_rules | `(tactic| walk_at "et") => `(tactic| first
  | exact tk_yes
  | (apply tk_andF; walk_at "et")
  | (apply tk_and; (walk_at "et"); (intro _; walk_at "et"))
  | (apply tk_orT; walk_at "et")
  | (apply tk_or; (walk_at "et"); (intro _; walk_at "et"))
  | (apply tk_notT; walk_at "et")
  | (apply tk_notF; walk_at "et")
  | (apply tk_not; walk_at "et")
  | (apply tk_v; walk_at "ev")
  | (apply tk_vB; walk_at "ev"))
local macro_rules | `(tactic| walk_at "if") => `(tactic| first
  | (apply pst_whenF; (walk_at "et"); (walk_at "bb"))
  | (apply pst_whenT; (walk_at "et"); (walk_at "bb")))
local macro_rules | `(tactic| walk_at "post") => `(tactic| first | assumption | exact ⟨_, _, rfl, rfl⟩ | exact ⟨_, _, _, _, rfl, by omega, by omega, rfl⟩ | exact ⟨_, _, _, 0, rfl, by omega, by omega, rfl⟩)
local macro_rules | `(tactic| walk_at "cc") => `(tactic| first | assumption | decide | omega | (refine ⟨?_, ?_⟩ <;> first | decide | omega) | (exact Or.inl (by constructor <;> omega)))

def lawKs (pw0 yw0 : V) (al sl ll : Addr) (s : Sg) : List (Key × V) := [(.inr "program", pw0), (.inr "ways", yw0), (.inr "at", .ref al), (.inr "said", .ref sl), (.inr "lent", .ref ll), (.inr "many", .int (s.many : Int)), (.inr "mixed", .bl s.mixed)]
/-- the law's run stands at d -/
structure LawAt (K : PySem.W.Frag) (d al sl ll : Addr) (pw0 yw0 : V) (s : Sg) (H : Hp) : Prop where
  ob : H d = some (.dK (lawKs pw0 yw0 al sl ll s))
  nums : H al = some (.lst (nV s.nums))
  said : H sl = some (.lst (nV s.said))
  lent : ∃ vs, H ll = some (.lst vs) ∧ TdAll K H vs (s.lent.map fun x => .tuple [.int (x.1 : Int), .int (x.2 : Int)])
  d1 : al ≠ sl
  d2 : al ≠ ll
  d3 : sl ≠ ll
section
variable {K : PySem.W.Frag} {H H' : Hp} {d al sl ll : Addr} {pw0 yw0 : V} {s s' : Sg}
theorem LawAt.ex (h : LawAt K d al sl ll pw0 yw0 s H) (e : Ex H H') : LawAt K d al sl ll pw0 yw0 s H' := by
  obtain ⟨vs, h2, h3⟩ := h.lent
  exact ⟨e _ _ h.ob, e _ _ h.nums, e _ _ h.said, ⟨vs, e _ _ h2, h3.ex e⟩, h.d1, h.d2, h.d3⟩
theorem LawAt.ne (h : LawAt K d al sl ll pw0 yw0 s H) : d ≠ al ∧ d ≠ sl ∧ d ≠ ll := by
  have h1 := h.ob
  obtain ⟨vs, h2, h3⟩ := h.lent
  refine ⟨fun e => ?_, fun e => ?_, fun e => ?_⟩
  · have := h.nums; rw [← e, h1] at this; cases this
  · have := h.said; rw [← e, h1] at this; cases this
  · rw [← e, h1] at h2; cases h2
theorem LawAt.mu (h : LawAt K d al sl ll pw0 yw0 s H) : ∀ a ∈ sR d al sl ll, ∃ u, H a = some u ∧ Mut (some u) := fun a ha => by
  obtain ⟨vs, h2, h3⟩ := h.lent
  have e : a = d ∨ a = al ∨ a = sl ∨ a = ll := by simpa [sR] using ha
  rcases e with e | e | e | e <;> rw [e]
  · exact ⟨_, h.ob, True.intro⟩
  · exact ⟨_, h.nums, True.intro⟩
  · exact ⟨_, h.said, True.intro⟩
  · exact ⟨_, h2, True.intro⟩
theorem LawAt.keep (h : LawAt K d al sl ll pw0 yw0 s H) (f : Fr (sR d al sl ll) H H') : Keep K H H' := f.keep h.mu
theorem LawAt.keep1 (h : LawAt K d al sl ll pw0 yw0 s H) (f : Fr [d] H H') : Keep K H H' := h.keep f.r4
theorem LawAt.off {q : Addr} (h : LawAt K d al sl ll pw0 yw0 s H) (hq : H q = none) : q ∉ sR d al sl ll := fun hm => by
  obtain ⟨u, hu, _⟩ := h.mu q hm
  rw [hq] at hu
  cases hu
/-- the dict alone changes -/
theorem LawAt.setd (h : LawAt K d al sl ll pw0 yw0 s H) (e1 : s'.nums = s.nums) (e2 : s'.said = s.said) (e3 : s'.lent = s.lent) : LawAt K d al sl ll pw0 yw0 s' (upd H d (.dK (lawKs pw0 yw0 al sl ll s'))) := by
  obtain ⟨vs, h2, h3⟩ := h.lent
  obtain ⟨n1, n2, n3⟩ := h.ne
  exact ⟨upd_same, by rw [upd_ne (Ne.symm n1), e1]; exact h.nums, by rw [upd_ne (Ne.symm n2), e2]; exact h.said, ⟨vs, by rw [upd_ne (Ne.symm n3)]; exact h2, by rw [e3]; exact h3.kp (Keep.upd h.ob True.intro)⟩, h.d1, h.d2, h.d3⟩
theorem LawAt.addn {v : Nat} (h : LawAt K d al sl ll pw0 yw0 s H) : LawAt K d al sl ll pw0 yw0 { s with nums := s.nums ++ [v] } (upd H al (.lst (nV s.nums ++ [.int (v : Int)]))) := by
  obtain ⟨vs, h2, h3⟩ := h.lent
  obtain ⟨n1, n2, n3⟩ := h.ne
  exact ⟨by rw [upd_ne n1]; exact h.ob, by rw [upd_same]; simp [nV], by rw [upd_ne (Ne.symm h.d1)]; exact h.said, ⟨vs, by rw [upd_ne (Ne.symm h.d2)]; exact h2, h3.kp (Keep.upd h.nums True.intro)⟩, h.d1, h.d2, h.d3⟩
theorem LawAt.setn {v pl : Nat} (h : LawAt K d al sl ll pw0 yw0 s H) : LawAt K d al sl ll pw0 yw0 { s with nums := s.nums.set pl v } (upd H al (.lst ((nV s.nums).set pl (.int (v : Int))))) := by
  obtain ⟨vs, h2, h3⟩ := h.lent
  obtain ⟨n1, n2, n3⟩ := h.ne
  exact ⟨by rw [upd_ne n1]; exact h.ob, by rw [upd_same]; simp [nV, List.map_set], by rw [upd_ne (Ne.symm h.d1)]; exact h.said, ⟨vs, by rw [upd_ne (Ne.symm h.d2)]; exact h2, h3.kp (Keep.upd h.nums True.intro)⟩, h.d1, h.d2, h.d3⟩
theorem LawAt.adds {v : Nat} (h : LawAt K d al sl ll pw0 yw0 s H) : LawAt K d al sl ll pw0 yw0 { s with said := s.said ++ [v] } (upd H sl (.lst (nV s.said ++ [.int (v : Int)]))) := by
  obtain ⟨vs, h2, h3⟩ := h.lent
  obtain ⟨n1, n2, n3⟩ := h.ne
  exact ⟨by rw [upd_ne n2]; exact h.ob, by rw [upd_ne h.d1]; exact h.nums, by rw [upd_same]; simp [nV], ⟨vs, by rw [upd_ne (Ne.symm h.d3)]; exact h2, h3.kp (Keep.upd h.said True.intro)⟩, h.d1, h.d2, h.d3⟩
theorem LawAt.addl {vs : List V} {v : V} {x : Nat × Nat} (h : LawAt K d al sl ll pw0 yw0 s H) (hv : H ll = some (.lst vs)) (t : Td K H v (.tuple [.int (x.1 : Int), .int (x.2 : Int)])) : LawAt K d al sl ll pw0 yw0 { s with lent := s.lent ++ [x] } (upd H ll (.lst (vs ++ [v]))) := by
  obtain ⟨vs', h2, h3⟩ := h.lent
  rw [hv] at h2
  cases h2
  obtain ⟨n1, n2, n3⟩ := h.ne
  have kk : Keep K H (upd H ll (.lst (vs ++ [v]))) := Keep.upd hv True.intro
  exact ⟨by rw [upd_ne n3]; exact h.ob, by rw [upd_ne h.d2]; exact h.nums, by rw [upd_ne h.d3]; exact h.said, ⟨_, upd_same, by rw [List.map_append]; exact (h3.kp kk).snoc (t.kp kk)⟩, h.d1, h.d2, h.d3⟩
theorem LawAt.setl {ll' : Addr} {vs : List V} {l : List (Nat × Nat)} (h : LawAt K d al sl ll pw0 yw0 s H) (hv : H ll' = some (.lst vs)) (t : TdAll K H vs (l.map fun x => .tuple [.int (x.1 : Int), .int (x.2 : Int)])) (n1 : ll' ≠ d) (n2 : al ≠ ll') (n3 : sl ≠ ll') : LawAt K d al sl ll' pw0 yw0 { s with lent := l } (upd H d (.dK (lawKs pw0 yw0 al sl ll' { s with lent := l }))) := by
  obtain ⟨m1, m2, m3⟩ := h.ne
  exact ⟨upd_same, by rw [upd_ne (Ne.symm m1)]; exact h.nums, by rw [upd_ne (Ne.symm m2)]; exact h.said, ⟨vs, by rw [upd_ne n1]; exact hv, t.kp (Keep.upd h.ob True.intro)⟩, h.d1, n2, n3⟩
theorem LawAt.updm {q : Addr} {u o : HO} (h : LawAt K d al sl ll pw0 yw0 s H) (hl : H q = some u) (hm : Mut (some u)) (hq : q ∉ sR d al sl ll) : LawAt K d al sl ll pw0 yw0 s (upd H q o) := by
  obtain ⟨vs, h2, h3⟩ := h.lent
  simp only [sR, List.mem_cons, List.not_mem_nil, or_false, not_or] at hq
  exact ⟨by rw [upd_ne (Ne.symm hq.1)]; exact h.ob, by rw [upd_ne (Ne.symm hq.2.1)]; exact h.nums, by rw [upd_ne (Ne.symm hq.2.2.1)]; exact h.said, ⟨vs, by rw [upd_ne (Ne.symm hq.2.2.2)]; exact h2, h3.kp (Keep.upd hl hm)⟩, h.d1, h.d2, h.d3⟩
end
/-! what is handed, as the law has it -/
mutual
inductive LFra (K : PySem.W.Frag) (F : Hp) : V → Fra → Prop
  | mk {a lo lp : Addr} {owns : List Nat} {pars : List Hd} {vs : List V} : F a = some (.tup [.ref lo, .ref lp]) → F lo = some (.lst (nV owns)) → F lp = some (.lst vs) → LHds K F vs pars → LFra K F (.ref a) (.mk owns pars)
inductive LHd (K : PySem.W.Frag) (F : Hp) : V → Hd → Prop
  | road {a l : Addr} {pl : Nat} {th : List Nat} : F a = some (.tup [.str "road", .int (pl : Int), .ref l]) → F l = some (.lst (nV th)) → LHd K F (.ref a) (.road pl th)
  | want {a : Addr} {t : Th} {f : Fra} {tv fv : V} : F a = some (.tup [.str "want", tv, fv]) → Td K F tv (encT t) → LFra K F fv f → LHd K F (.ref a) (.want t f)
inductive LHds (K : PySem.W.Frag) (F : Hp) : List V → List Hd → Prop
  | nil : LHds K F [] []
  | cons {v : V} {vs : List V} {h : Hd} {hs : List Hd} : LHd K F v h → LHds K F vs hs → LHds K F (v :: vs) (h :: hs)
end
mutual
theorem LFra.ex {K : PySem.W.Frag} {F F' : Hp} (e : Ex F F') : ∀ {v : V} {f : Fra}, LFra K F v f → LFra K F' v f
  | _, _, .mk h1 h2 h3 h4 => .mk (e _ _ h1) (e _ _ h2) (e _ _ h3) (LHds.ex e h4)
theorem LHd.ex {K : PySem.W.Frag} {F F' : Hp} (e : Ex F F') : ∀ {v : V} {h : Hd}, LHd K F v h → LHd K F' v h
  | _, _, .road h1 h2 => .road (e _ _ h1) (e _ _ h2)
  | _, _, .want h1 h2 h3 => .want (e _ _ h1) (h2.ex e) (LFra.ex e h3)
theorem LHds.ex {K : PySem.W.Frag} {F F' : Hp} (e : Ex F F') : ∀ {vs : List V} {hs : List Hd}, LHds K F vs hs → LHds K F' vs hs
  | _, _, .nil => .nil
  | _, _, .cons h1 h2 => .cons (LHd.ex e h1) (LHds.ex e h2)
end
theorem LHds.get {K : PySem.W.Frag} {F : Hp} : ∀ {vs : List V} {hs : List Hd} {i : Nat} {h : Hd}, LHds K F vs hs → hs[i]? = some h → ∃ v, vs[i]? = some v ∧ LHd K F v h
  | _, _, _, _, .nil, e => by simp at e
  | _, _, 0, _, .cons h1 h2, e => by simp at e; subst e; exact ⟨_, rfl, h1⟩
  | _, _, i + 1, _, .cons h1 h2, e => by simp at e; simpa using LHds.get h2 e
theorem LHds.snoc {K : PySem.W.Frag} {F : Hp} : ∀ {vs : List V} {hs : List Hd} {v : V} {h : Hd}, LHds K F vs hs → LHd K F v h → LHds K F (vs ++ [v]) (hs ++ [h])
  | _, _, _, _, .nil, g => .cons g .nil
  | _, _, _, _, .cons a b, g => .cons a (LHds.snoc b g)
/-- a road, as the law tells it -/
inductive RdV (K : PySem.W.Frag) (F : Hp) : V → Option (Nat × List Nat) → Prop
  | none : RdV K F .non none
  | some {a l : Addr} {pl : Nat} {th : List Nat} : F a = some (.tup [.int (pl : Int), .ref l]) → F l = some (.lst (nV th)) → RdV K F (.ref a) (some (pl, th))
theorem RdV.ex {K : PySem.W.Frag} {F F' : Hp} {v : V} {o : Option (Nat × List Nat)} (h : RdV K F v o) (e : Ex F F') : RdV K F' v o := by
  cases h with
  | none => exact .none
  | some a b => exact .some (e _ _ a) (e _ _ b)
/-! a dict's values by words -/
section
variable {K : PySem.W.Frag} {σ : L2.St} {H H' : Hp} {D : Ends} {tu tz : TS} {te tl ta tb tv : TE} {t : TA} {dd p : Addr} {kvs : List (Key × V)} {x : Str} {v : V} {n : Nat} {Q : VK} {xs : List V} {ds : List PyData} {d : PyData}
theorem ev_dg (hs : σ[n]? = some (some (.ref dd))) (hd : H dd = some (.dK kvs)) (hv : valV kvs (Sum.inr x) = some v) : Ev (tDGet (tVar n) (tC (.str x))) σ H v := fun H1 e Q q =>
  ⟨.ref dd, hs, dd, v, rfl, by
    have := DGet.k (k := Sum.inr x) (e dd _ hd)
    rw [hv] at this
    exact this, q H1 (Ex.refl H1)⟩
theorem w_dg (hs : σ[n]? = some (some (.ref dd))) (hd : H dd = some (.dK kvs)) (hv : valV kvs (Sum.inr x) = some v) (q : Q v H) : tDGet (tVar n) (tC (.str x)) σ H Q := ⟨.ref dd, hs, dd, v, rfl, by
    have := DGet.k (k := Sum.inr x) hd
    rw [hv] at this
    exact this, q⟩
theorem ed_dg (hs : σ[n]? = some (some (.ref dd))) (hd : H dd = some (.dK kvs)) (hv : valV kvs (Sum.inr x) = some v) (td : Td K H v d) : EvD K (tDGet (tVar n) (tC (.str x))) σ H d := fun H1 e Q q =>
  ⟨.ref dd, hs, dd, v, rfl, by
    have := DGet.k (k := Sum.inr x) (e dd _ hd)
    rw [hv] at this
    exact this, q v H1 (Ex.refl H1) (td.ex e)⟩
theorem edr_ev (h : Ev te σ H (.ref p)) (hp : H p = some (.lst xs)) (td : TdAll K H xs ds) : EvDR K te σ H ds := fun H1 e Q q => h H1 e Q fun H2 e2 => q p xs H2 e2 (SqL.of ((e.trans e2) _ _ hp)) (td.ex (e.trans e2))
/-- d[x] = e -/
theorem w_dput (hs : σ[n]? = some (some (.ref dd))) (h : tv σ H fun v H1 => ∃ kvs, H1 dd = some (.dK kvs) ∧ kvs.length < sizeLine ∧ D.nx σ (upd H1 dd (.dK (putK kvs (Sum.inr x) v)))) : sDPut (tVar n) (tC (.str x)) tv D σ H := by
  have e : (fun (v : V) (H1 : Hp) => tVar n σ H1 fun x' H2 => tC (.str x) σ H2 fun y H3 => ∃ a H4, x' = .ref a ∧ DPut H3 a y v H4 ∧ D.nx σ H4) = fun v H1 => ∃ kvs, H1 dd = some (.dK kvs) ∧ kvs.length < sizeLine ∧ D.nx σ (upd H1 dd (.dK (putK kvs (Sum.inr x) v))) := by
    funext v H1
    refine propext ⟨fun ⟨x', h1, a, H4, h2, h3, h4⟩ => ?_, fun ⟨kvs, h1, h2, h3⟩ => ⟨.ref dd, hs, dd, _, rfl, DPut.k (k := Sum.inr x) h1 h2, h3⟩⟩
    rw [hs] at h1
    cases h1
    cases h2
    rcases h3 with ⟨kvs, k, q1, q2, q3, q4⟩ | ⟨kvs, k, b, q1, q2, _⟩
    · cases k with
      | inl i => cases q2
      | inr y => cases q2; subst q4; exact ⟨kvs, q1, q3, h4⟩
    · cases q2
  show tv σ H _
  rw [e]
  exact h
/-- d[x].append(e) -/
theorem w_appD {l : Addr} {ys : List V} (hs : σ[n]? = some (some (.ref dd))) (hd : H dd = some (.dK kvs)) (hv : valV kvs (Sum.inr x) = some (.ref l)) (hl : H l = some (.lst ys)) (h : te σ H fun x H1 => ∃ xs, H1 l = some (.lst xs) ∧ xs.length < sizeLine ∧ D.nx σ (upd H1 l (.lst (xs ++ [x])))) :
    tDrop (tBM K "list" rAppend (tDGet (tVar n) (tC (.str x))) (tCons te tNil)) D σ H := w_dg hs hd hv ⟨.inl ⟨rfl, ys, SqL.of hl⟩, by
    show te σ H fun x H1 => rAppend (.ref l) [x] H1 fun _ H2 => D.nx σ H2
    have e : (fun (x : V) (H1 : Hp) => rAppend (.ref l) [x] H1 fun _ H2 => D.nx σ H2) = fun x H1 => ∃ xs, H1 l = some (.lst xs) ∧ xs.length < sizeLine ∧ D.nx σ (upd H1 l (.lst (xs ++ [x]))) := by
      funext x H1
      refine propext ⟨fun ⟨l2, xs, y, e1, e2, e3, e4, e5⟩ => ?_, fun ⟨xs, e3, e4, e5⟩ => ⟨l, xs, x, rfl, rfl, e3, e4, e5⟩⟩
      cases e1
      cases e2
      exact ⟨xs, e3, e4, e5⟩
    rw [e]
    exact h⟩
theorem ed_niL {es : List PyData} (ha : EvD K ta σ H d) (hb : EvDR K tb σ H es) (fd : flatD d = true) (fe : es.all flatD = true) : EvD K (tOp (rIn K true) ta tb) σ H (.bool (!es.any fun z => PyData.eqv z d)) := fun H1 a Q q =>
  ha H1 a _ fun v H2 e2 t2 => hb H2 (a.trans e2) _ fun p xs H3 e3 hs hall => by
    refine ⟨p, xs, rfl, .inl hs, flat_td t2 fd, flatAll_td hall fe, ?_⟩
    show Q (.bl (!inV v xs)) H3
    rw [inV_td hall (t2.ex e3) fd fe]
    exact q _ H3 (e2.trans e3) (.bl _)
/-- for a, b in a list of pairs that something tells -/
theorem w_forLe {α : Type} {j l : Nat} {bk : Addr} {bv : List V} (xs : List α) (f1 f2 : α → PyData) (hev : ∀ Q : VK, Q (.ref bk) H → te σ H Q) (Pv : Nat → L2.St → Hp → Prop) (h0 : Pv 0 σ H)
    (hk : ∀ i σ' H', Pv i σ' H' → H' bk = some (.lst bv) ∧ TdAll K H' bv (xs.map fun x => .tuple [f1 x, f2 x]))
    (hs : ∀ i x v u σ' H', xs[i]? = some x → Td K H' v (f1 x) → Td K H' u (f2 x) → Pv i σ' H' → tu { D with nx := Pv (i + 1), ct := Pv (i + 1), bk := D.nx } ((σ'.set j (some v)).set l (some u)) H')
    (hd : ∀ σ' H', Pv xs.length σ' H' → D.nx σ' H') : tFor (iList K te) (gTup K 2 (gCons (gName j) (gCons (gName l) gNil))) tu D σ H := by
  refine hev _ ⟨bk, rfl, ⟨bv, SqL.of (hk 0 σ H h0).1⟩, ?_⟩
  have hlen := (hk 0 σ H h0).2.length
  rw [List.length_map] at hlen
  refine for_list Pv h0 (fun i σ' H' _ q => SqL.of (hk i σ' H' q).1) (fun i x σ' H' hi q => ?_) (fun σ' H' q => hd σ' H' (by rw [← hlen]; exact q))
  obtain ⟨d, hdd, td⟩ := (hk i σ' H' q).2.getV hi
  rw [List.getElem?_map] at hdd
  obtain ⟨z, hz, rfl⟩ := Option.map_eq_some_iff.mp hdd
  obtain ⟨a, zs, rfl, hq, hqa⟩ := td.tup_inv
  obtain _ | ⟨u1, _ | ⟨u2, _ | _⟩⟩ := hqa
  exact ⟨a, _, rfl, hq, rfl, _, _, rfl, _, _, rfl, rfl, hs i z _ _ σ' H' hz u1 u2 q⟩
/-- for a, b in a list of pairs of whatever -/
theorem w_forLr {j l : Nat} {bk : Addr} {bv : List V} (hev : ∀ Q : VK, Q (.ref bk) H → te σ H Q) (Pv : Nat → L2.St → Hp → Prop) (h0 : Pv 0 σ H)
    (hk : ∀ i σ' H', Pv i σ' H' → H' bk = some (.lst bv))
    (hs : ∀ i x σ' H', bv[i]? = some x → Pv i σ' H' → ∃ a v u, x = .ref a ∧ SqT K H' a [v, u] ∧ tu { D with nx := Pv (i + 1), ct := Pv (i + 1), bk := D.nx } ((σ'.set j (some v)).set l (some u)) H')
    (hd : ∀ σ' H', Pv bv.length σ' H' → D.nx σ' H') : tFor (iList K te) (gTup K 2 (gCons (gName j) (gCons (gName l) gNil))) tu D σ H := by
  refine hev _ ⟨bk, rfl, ⟨bv, SqL.of (hk 0 σ H h0)⟩, ?_⟩
  refine for_list Pv h0 (fun i σ' H' _ q => SqL.of (hk i σ' H' q)) (fun i x σ' H' hi q => ?_) hd
  obtain ⟨a, v, u, rfl, hq, h⟩ := hs i x σ' H' hi q
  exact ⟨a, _, rfl, hq, rfl, _, _, rfl, _, _, rfl, rfl, h⟩
end
def spMeets (K : PySem.W.Frag) : Sp := fun vs H Q _ => ∃ (d al sl ll : Addr) (pw0 yw0 rv : V) (s : Sg) (pl : Nat) (th : List Nat), vs = [.ref d, rv] ∧ LawAt K d al sl ll pw0 yw0 s H ∧ RdV K (Ofs (sR d al sl ll) H) rv (some (pl, th)) ∧ ∀ H', LawAt K d al sl ll pw0 yw0 (come pl th s) H' → Fr [d] H H' → Q (.int (pl : Int)) H'
def spLNew (K : PySem.W.Frag) : Sp := fun vs H Q _ => ∃ (d al sl ll : Addr) (pw0 yw0 : V) (s : Sg) (v : Nat), vs = [.ref d, .int (v : Int)] ∧ LawAt K d al sl ll pw0 yw0 s H ∧ s.nums.length < mostL ∧ ∀ H', LawAt K d al sl ll pw0 yw0 { s with nums := s.nums ++ [v] } H' → Fr [al] H H' → Q (.int (s.nums.length : Int)) H'
section
variable {P : Program} {w : World} {K : PySem.W.Frag} {mg : Str → Option Value} {base : Heap} (T : Tx K mg)
include T
theorem ok_lnew : Fn__law_new T P w base CX0 1 (spLNew K) := by
  refine T.F__law_new.ok sc__law_new (fun vs H Q E h => by obtain ⟨_, _, _, _, _, _, _, _, rfl, _⟩ := h; rfl) fun cdv A outer s0 H vs Q E hr h => ?_
  obtain ⟨d, al, sl, ll, pw0, yw0, s, v, rfl, hR, hll, k⟩ := h
  refine ⟨_, (pss_cons (ps_expr (pe_bm PySem.F.plainAttrs_list PySem.F.slot_list_append PySem.F.type_list_append mt_append (pe_dget (hu_of hr) (pv 0) pe_str (fun _ _ => rfl)) (pa_cons (pv 1) pa_nil)))
  (pss_one (ps_ret (pe_op op_sub (pe_callB (kc_len K) rfl T.b_len PySem.boot_len (pa_cons (pe_dget (hu_of hr) (pv 0) pe_str (fun _ _ => rfl)) pa_nil)) pe_int)))), ?_⟩
  have hz : (nV s.nums).length < sizeLine := by
    simp only [nV, List.length_map]
    exact sz_lt (by unfold mostL at hll; omega)
  refine w_seq (w_appD rfl hR.ob rfl hR.nums (w_v rfl ⟨nV s.nums, hR.nums, hz, ?_⟩))
  have R2 := hR.addn (v := v)
  have hn2 : upd H al (.lst (nV s.nums ++ [.int (v : Int)])) al = some (.lst (nV s.nums ++ [.int (v : Int)])) := upd_same
  have hf2 : Fr [al] H (upd H al (.lst (nV s.nums ++ [.int (v : Int)]))) := Fr.upd (by simp)
  generalize upd H al (.lst (nV s.nums ++ [.int (v : Int)])) = H2 at *
  dsimp only
  refine w_ret (w_d (K := K) (d := .int (s.nums.length : Int)) ?_ fun x H3 e3 t3 => ?_)
  · refine ed_is (ed_I0i (ed_lenV (ev_dg rfl R2.ob rfl) (SqL.of hn2)) ed_ci) ?_
    simp [nV]
  · cases t3
    exact k H3 (R2.ex e3) (hf2.trans (Fr.of e3))
theorem ok_meets : Fn__law_meets T P w base CX0 1 (spMeets K) := by
  refine T.F__law_meets.ok sc__law_meets (fun vs H Q E h => by obtain ⟨_, _, _, _, _, _, _, _, _, _, rfl, _⟩ := h; rfl) fun cdv A outer s0 H vs Q E hr h => ?_
  obtain ⟨d, al, sl, ll, pw0, yw0, rv, s, pl, th, rfl, hR, hrd, k⟩ := h
  refine ⟨_, (pss_cons (ps_for (passes_of rfl) rfl (kpi_list K (pe_dget (hu_of hr) (pv 0) pe_str (fun _ _ => rfl))) (kpg_tup K rfl (pgs_cons (pg_name (i := 2) sc__law_meets.nd rfl (Or.inl rfl)) (pgs_cons (pg_name (i := 3) sc__law_meets.nd rfl (Or.inl rfl)) pgs_nil)))
    (pss_one (ps_if (PW.pt (pw_and (pt_cmpR op_eq (pv 2) (pe_ix (kix_tup K) (pv 1) pe_int (fun _ _ => rfl)) (nomark _)) (pw_and1 (pt_cmpR (kop_ni K) (pv 3) (pe_ix (kix_tup K) (pv 1) pe_int (fun _ _ => rfl)) rfl))))
      (pss_one (ps_dput (hu_of hr) (pv 0) pe_str pe_bl rfl))
      pss_nil)))
  (pss_one (ps_ret (pe_ix (kix_tup K) (pv 1) pe_int (fun _ _ => rfl))))), ?_⟩
  cases hrd with
  | @some a l _ _ q1 q2 =>
  obtain ⟨lv, hlx, hla⟩ := hR.lent
  have off : ∀ q o, Ofs (sR d al sl ll) H q = some o → q ≠ d ∧ H q = some o := fun q o h => by
    unfold Ofs at h
    split at h
    · cases h
    · rename_i hq
      exact ⟨fun e => hq (by rw [e]; simp [sR]), h⟩
  obtain ⟨na, ha⟩ := off _ _ q1
  obtain ⟨nl, hl⟩ := off _ _ q2
  have nll : ll ≠ d := Ne.symm hR.ne.2.2
  refine w_seq (w_forLe (K := K) (bv := lv) s.lent (fun x => .int (x.1 : Int)) (fun x => .int (x.2 : Int)) (fun Q q => w_dg rfl hR.ob rfl q) (fun i σ' H' => ∃ (u2 u3 : Option V), σ' = [some (.ref d), some (.ref a), u2, u3] ∧ LawAt K d al sl ll pw0 yw0 { s with mixed := s.mixed || (s.lent.take i).any fun x => decide (x.1 = pl) && !decide (x.2 ∈ th) } H' ∧ Fr [d] H H') ?_ ?_ ?_ ?_)
  · refine ⟨_, _, rfl, ?_, Fr.refl⟩
    simpa using hR
  · rintro i σ' H' ⟨u2, u3, rfl, R1, f1⟩
    exact ⟨f1 _ _ (by simpa using nll) hlx, hla.kp (hR.keep1 f1)⟩
  · rintro i x v u σ' H' hx tv tu ⟨u2, u3, rfl, R1, f1⟩
    cases tv
    cases tu
    have ha1 := f1 _ _ (by simpa using na) ha
    have hl1 := f1 _ _ (by simpa using nl) hl
    dsimp only
    refine Pst.go (K := K) ?_
    have eany : (s.lent.take (i + 1)).any (fun x => decide (x.1 = pl) && !decide (x.2 ∈ th)) = ((s.lent.take i).any (fun x => decide (x.1 = pl) && !decide (x.2 ∈ th)) || (decide (x.1 = pl) && !decide (x.2 ∈ th))) := by
      rw [take_snoc hx, List.any_append]
      simp
    refine pst_if (K := K) (b := decide (x.1 = pl) && !decide (x.2 ∈ th)) ?_ (fun hb => pst_of fun H1 e1 => ?_) (fun hb => pst_of fun H1 e1 => ?_)
    · refine tk_is (tk_and (b := !decide (x.2 ∈ th)) (tk_v (ed_eqi (i := (x.1 : Int)) (j := (pl : Int)) (ed_var rfl (.int _)) (ed_i (ev_op (ev_var rfl) ev_c (rv_ixT (SqT.of ha1) rfl))))) fun _ => tk_is (tk_v (ed_niL (d := .int (x.2 : Int)) (ed_var rfl (.int _)) (edr_ev (ev_op (ev_var rfl) ev_c (rv_ixT (SqT.of ha1) rfl)) hl1 (nV_td th)) rfl (nD_flat th))) ?_) ?_
      · rw [nD_any]
      · congr 1
        exact decide_eq_decide.mpr (by omega)
    · refine w_dput rfl (w_c ⟨_, (R1.ex e1).ob, by show 7 < sizeLine; decide, ?_⟩)
      rw [eany, hb]
      refine ⟨_, _, rfl, ?_, (f1.trans (Fr.of e1)).trans (Fr.upd (by simp))⟩
      have := (R1.ex e1).setd (s' := { s with mixed := s.mixed || ((s.lent.take i).any (fun x => decide (x.1 = pl) && !decide (x.2 ∈ th)) || true) }) rfl rfl rfl
      have em : (s.mixed || ((s.lent.take i).any (fun x => decide (x.1 = pl) && !decide (x.2 ∈ th)) || true)) = true := by simp
      rw [em] at this ⊢
      exact this
    · rw [eany, hb, Bool.or_false]
      exact ⟨_, _, rfl, R1.ex e1, f1.trans (Fr.of e1)⟩
  · rintro σ' H1 ⟨u2, u3, rfl, R1, f1⟩
    rw [List.take_length] at R1
    have ha1 := f1 _ _ (by simpa using na) ha
    dsimp only
    refine w_ret (w_ev (v := .int (pl : Int)) (ev_op (ev_var rfl) ev_c (rv_ixT (SqT.of ha1) rfl)) fun H2 e2 => ?_)
    exact k H2 (R1.ex e2) (f1.trans (Fr.of e2))
end
end Hw

set_option maxRecDepth 100000
set_option maxHeartbeats 4000000
/-! RL2: roads and numbers by the law -/
namespace Hw
open PySem PySem.Spec PyProof.Rows L2 Evl
local macro_rules | `(tactic| walk_at "dd") => `(tactic| first | rfl | decide | (simp; done) | omega)
local macro_rules | `(tactic| walk_at "td") => `(tactic| first | assumption | exact Td.int _ | exact Td.bl _ | exact Td.str _ | exact Td.non | exact Td.tup (by assumption) (by assumption))
local macro_rules | `(tactic| walk_at "ev") => `(tactic| first
  | exact ed_ci | exact ed_cs | exact ed_cb | exact ed_cn
  | (apply ed_cg; assumption)
  | (apply ed_var; (rfl); (walk_at "td"))
  | (apply ed_ixT; (walk_at "ev"); (walk_at "ev"); (first | rfl | assumption))
  | (apply ed_rowI; (rfl); (assumption); (walk_at "ev"); (rfl))
  | (apply ed_ixL; (apply EvDL.rd; walk_at "edl"); (walk_at "ev"); (rfl))
  | (apply ed_intb; (walk_at "ev"))
  | (apply ed_len; walk_at "ev")
  | (apply ed_lenV; (apply ev_rowR; (rfl); (assumption); (walk_at "ev"); (rfl)); (assumption))
  | (apply ed_Ii; (walk_at "ev"); (walk_at "ev"); (walk_at "cc"))
  | (apply ed_isi; (walk_at "ev"); (rfl))
  | (apply ed_I0i; (walk_at "ev"); (walk_at "ev"))
  | (apply ed_I0b; (walk_at "ev"); (walk_at "ev"))
  | (apply ed_eqi; (walk_at "ev"); (walk_at "ev"))
  | (apply ed_nei; (walk_at "ev"); (walk_at "ev"))
  | (apply ed_andF; walk_at "ev")
  | (apply ed_andV; (walk_at "ev"); (intro _; walk_at "ev"))
  | (apply ed_orT; walk_at "ev")
  | (apply ed_orV; (walk_at "ev"); (intro _; walk_at "ev"))
  | (apply ed_notT; walk_at "ev")
  | (apply ed_notF; walk_at "ev")
  | (apply ed_notV; walk_at "ev")
  | (apply ed_chain; (walk_at "ev"); (walk_at "ev"); (intro _; walk_at "ev"))
  | (apply ed_eqS; (walk_at "ev"); (walk_at "ev"); (walk_at "bb"); (walk_at "bb"))
  | (apply ed_neS; (walk_at "ev"); (walk_at "ev"); (walk_at "bb"); (walk_at "bb"))
  | (apply ed_inT; (walk_at "ev"); (walk_at "ev"); (rfl); (rfl))
  | (apply ed_niT; (walk_at "ev"); (walk_at "ev"); (rfl); (rfl))
  | (apply ed_tup; (walk_at "eva"); (walk_at "bb"))
  | (apply ed_sl; (walk_at "ev"); (walk_at "evo"); (walk_at "evo"))
  | (apply ed_eqN; (apply EvDL.rd; walk_at "edl"); (walk_at "edl"); (walk_at "bb"))
  | (apply ed_neN; (apply EvDL.rd; walk_at "edl"); (walk_at "edl"); (walk_at "bb"))
  | (apply ed_ixL; (apply edr_var; (rfl); (assumption); (assumption)); (walk_at "ev"); (first | rfl | assumption))
  | (apply ed_lenL; (apply edr_var; (rfl); (assumption); (assumption)))
  | (apply ed_call; (walk_at "eva"); (walk_at "post")))
local macro_rules | `(tactic| walk_at "edl") => `(tactic| first
  | assumption
  | (apply edl_lst; (walk_at "eva"); (walk_at "bb")))
local macro_rules | `(tactic| walk_at "eva") => `(tactic| first
  | exact eda_nil
  | (apply eda_cons; (walk_at "ev"); (walk_at "eva")))
local macro_rules | `(tactic| walk_at "evo") => `(tactic| first
  | exact eok_none
  | (apply eok_some; walk_at "ev"))
local macro_rules | `(tactic| walk_at "bb") => `(tactic| first | rfl | assumption | (simp; done) | (simp; omega) | decide +kernel)
local macro_rules | `(tactic| walk_at "et") => `(tactic| first
  | exact tk_yes
  | (apply tk_andF; walk_at "et")
  | (apply tk_and; (walk_at "et"); (intro _; walk_at "et"))
  | (apply tk_orT; walk_at "et")
  | (apply tk_or; (walk_at "et"); (intro _; walk_at "et"))
  | (apply tk_notT; walk_at "et")
  | (apply tk_notF; walk_at "et")
  | (apply tk_not; walk_at "et")
  | (apply tk_v; walk_at "ev")
  | (apply tk_vB; walk_at "ev"))
local macro_rules | `(tactic| walk_at "if") => `(tactic| first
  | (apply pst_whenF; (walk_at "et"); (walk_at "bb"))
  | (apply pst_whenT; (walk_at "et"); (walk_at "bb")))
local macro_rules | `(tactic| walk_at "post") => `(tactic| first | assumption | exact ⟨_, _, rfl, rfl⟩ | exact ⟨_, _, _, _, rfl, by omega, by omega, rfl⟩ | exact ⟨_, _, _, 0, rfl, by omega, by omega, rfl⟩)
local macro_rules | `(tactic| walk_at "cc") => `(tactic| first | assumption | decide | omega | (refine ⟨?_, ?_⟩ <;> first | decide | omega) | (exact Or.inl (by constructor <;> omega)))

def spRoad (K : PySem.W.Frag) (n : Nat) : Sp := fun vs H Q _ => ∃ (d al sl ll : Addr) (pw0 yw0 tv fv : V) (s s' : Sg) (t : Th) (f : Fra) (o : Option (Nat × List Nat)), vs = [.ref d, tv, fv] ∧ LawAt K d al sl ll pw0 yw0 s H ∧ Td K H tv (encT t) ∧ LFra K (Ofs (sR d al sl ll) H) fv f ∧ findF n t f s = some (o, s') ∧
  ∀ x H', LawAt K d al sl ll pw0 yw0 s' H' → Fr [d] H H' → RdV K (Ofs (sR d al sl ll) H') x o → Q x H'
def spWorth (K : PySem.W.Frag) (n : Nat) : Sp := fun vs H Q _ => ∃ (d al sl ll : Addr) (pw0 yw0 tv fv : V) (s s' : Sg) (t : Th) (f : Fra) (v : Nat), vs = [.ref d, tv, fv] ∧ LawAt K d al sl ll pw0 yw0 s H ∧ Td K H tv (encT t) ∧ LFra K (Ofs (sR d al sl ll) H) fv f ∧ numF n t f s = some (v, s') ∧
  ∀ H', LawAt K d al sl ll pw0 yw0 s' H' → Fr [d] H H' → Q (.int (v : Int)) H'
section
variable {K : PySem.W.Frag} {σ : L2.St} {H H' : Hp} {D : Ends} {tu tz : TS} {te tl ta tb tv : TE} {t : TT} {ta2 : TA} {d al sl ll : Addr} {pw0 yw0 : V} {s s' : Sg} {fv : V} {f : Fra}
theorem LFra.fr (h : LFra K (Ofs (sR d al sl ll) H) fv f) (e : Fr (sR d al sl ll) H H') : LFra K (Ofs (sR d al sl ll) H') fv f := h.ex (ofs_fr e)
theorem w_while {c : TT} {tb : TS} (W : Nat → L2.St → Hp → Prop) (m : Nat) (h0 : W m σ H) (h : ∀ m σ H, W m σ H → c σ H fun b H1 => if b = true then ∃ N : L2.St → Hp → Prop, (∀ σ' H', N σ' H' → ∃ m', m' < m ∧ W m' σ' H') ∧ tb { D with nx := N, ct := N, bk := D.nx } σ H1 else D.nx σ H1) : tWhile c tb D σ H := ⟨W, ⟨m, h0⟩, h⟩
theorem w_par {i j : Nat} (h : ta2 σ H fun vs H1 => ∃ v w, vs = [v, w] ∧ D.nx ((σ.set i (some v)).set j (some w)) H1) : tPar i j ta2 D σ H := h
end
section
variable {P : Program} {w : World} {K : PySem.W.Frag} {mg : Str → Option Value} {base : Heap} (T : Tx K mg)
include T
theorem road_step {n : Nat} (GN : Fn__law_worth T P w base CX0 (n + 2) (spWorth K n)) : Fn__law_road T P w base CX0 (n + 3) (spRoad K (n + 1)) := by
  have G__law_worth := GN
  refine T.F__law_road.ok sc__law_road (fun vs H Q E h => by obtain ⟨_, _, _, _, _, _, _, _, _, _, _, _, _, rfl, _⟩ := h; rfl) fun cdv A outer s0 H vs Q E hr h => ?_
  obtain ⟨d, al, sl, ll, pw0, yw0, tv, fv, s, s', t, f, o, rfl, hR, tt, hf, hF, k⟩ := h
  refine ⟨_, (pss_cons (ps_while (passes_of rfl) (pt_cmpR (kop_eq K hr.units) (pe_ix (kix_tup K) (pv 1) pe_int (fun _ _ => rfl)) pe_str (nomark _))
    (pss_cons (ps_set (i := 3) sc__law_road.nd rfl (Or.inl rfl) (pe_ix (kix_list K) (pe_ix (kix_tup K) (pv 2) pe_int (fun _ _ => rfl)) (pe_ix (kix_tup K) (pv 1) pe_int (fun _ _ => rfl)) (fun _ _ => rfl)))
    (pss_cons (ps_if (pt_cmpR (kop_eq K hr.units) (pe_ix (kix_tup K) (pv 3) pe_int (fun _ _ => rfl)) pe_str (nomark _))
      (pss_one (ps_ret (pe_slice (ksl_tup K) (pv 3) (po_some pe_int) po_none)))
      pss_nil)
    (pss_one (ps_par (i := 1) (j := 2) (by rfl) sc__law_road.nd rfl rfl (by decide) rfl rfl (pa_cons (pe_ix (kix_tup K) (pv 3) pe_int (fun _ _ => rfl)) (pa_cons (pe_ix (kix_tup K) (pv 3) pe_int (fun _ _ => rfl)) pa_nil)) (by rfl))))))
  (pss_cons (ps_if (pt_cmpR (kop_eq K hr.units) (pe_ix (kix_tup K) (pv 1) pe_int (fun _ _ => rfl)) pe_str (nomark _))
    (pss_one (ps_ret (pe_tup (pa_cons (pe_ix (kix_list K) (pe_ix (kix_tup K) (pv 2) pe_int (fun _ _ => rfl)) (pe_ix (kix_tup K) (pv 1) pe_int (fun _ _ => rfl)) (fun _ _ => rfl)) (pa_cons (pe_lst pa_nil) pa_nil)))))
    pss_nil)
  (pss_one (ps_ret (pe_ifExp (pt_cmpR (kop_eq K hr.units) (pe_ix (kix_tup K) (pv 1) pe_int (fun _ _ => rfl)) pe_str (nomark _)) (pe_tup (pa_cons (pe_call G__law_worth (hr.mono (by omega)) (by rfl) T.g__law_worth T.k__law_worth T.bd__law_worth .nil pass0 (pa_cons (pv 0) (pa_cons (pe_ix (kix_tup K) (pv 1) pe_int (fun _ _ => rfl)) (pa_cons (pv 2) pa_nil)))) (pa_cons (pe_lst pa_nil) pa_nil))) pe_non))))), ?_⟩
  refine w_seq (w_while (fun m σ' H' => ∃ (tv' fv' : V) (u3 : Option V) (t' : Th) (f' : Fra), σ' = [some (.ref d), some tv', some fv', u3] ∧ Td K H' tv' (encT t') ∧ LFra K (Ofs (sR d al sl ll) H') fv' f' ∧ findF m t' f' s = some (o, s') ∧ m ≤ n + 1 ∧ Ex H H') (n + 1) ⟨_, _, _, t, f, rfl, tt, hf, hF, Nat.le_refl _, Ex.refl _⟩ ?_)
  rintro m σ' H1 ⟨tv', fv', u3, t', f', rfl, t1, f1, hF1, hm, e1⟩
  obtain ⟨m, rfl⟩ : ∃ m', m = m' + 1 := ⟨m - 1, by cases m with
    | zero => simp [findF] at hF1
    | succ m => omega⟩
  have R1 := hR.ex e1
  obtain ⟨dsw, ew⟩ := encT_word t'
  have t1w := t1
  rw [ew] at t1w
  refine w_t (K := K) (b := isPar t') ?_ fun H2 e2 => ?_
  · refine tk_is (tk_v (ed_eqS (ed_ixT (i := 0) (ed_var rfl t1w) ed_ci atI_zero) ed_cs (wordT_lay t') (by simp))) ?_
    cases t' <;> simp [wordT, isPar]
  have R2 := R1.ex e2
  have e12 := e1.trans e2
  replace t1 := t1.ex e2
  replace t1w := t1w.ex e2
  replace f1 := f1.fr (Fr.of e2)
  cases t' with
  | par i =>
    refine ifT rfl ?_
    unfold encT at t1
    cases f1 with
    | @mk a lo lp owns pars vs g1 g2 g3 g4 =>
    rw [findF] at hF1
    cases hp : pars[i]? with
    | none => simp [Fra.pars, hp] at hF1
    | some hd =>
    obtain ⟨u, hu, hhd⟩ := g4.get hp
    simp only [Fra.pars, hp] at hF1
    have hfr := ofs_ex _ _ g1
    have hlp := ofs_ex _ _ g3
    refine ⟨fun σ' H' => ∃ m', m' < m + 1 ∧ ∃ (tv' fv' : V) (u3 : Option V) (t' : Th) (f' : Fra), σ' = [some (.ref d), some tv', some fv', u3] ∧ Td K H' tv' (encT t') ∧ LFra K (Ofs (sR d al sl ll) H') fv' f' ∧ findF m' t' f' s = some (o, s') ∧ m' ≤ n + 1 ∧ Ex H H', fun _ _ h => h, ?_⟩
    refine w_seq (w_asg (w_ev (v := u) (ev_op (ev_op (ev_var rfl) ev_c (rv_ixT (SqT.of hfr) rfl)) (EvD.iv (K := K) (i := (i : Int)) (ed_ixT (i := 1) (ed_var rfl t1) ed_ci rfl)) (rv_ixL (SqL.of hlp) (atI_nat hu))) fun H3 e3 => ?_))
    have R3 := R2.ex e3
    have e13 := e12.trans e3
    dsimp only
    cases hhd with
    | @road a l pl th q1 q2 =>
      cases hF1
      have h1 := e3 _ _ (ofs_ex _ _ q1)
      have h2 := e3 _ _ (ofs_ex _ _ q2)
      refine Pst.go (K := K) (pst_whenT (b := true) (tk_is (tk_v (ed_eqS (ed_s (ev_op (ev_var rfl) ev_c (rv_ixT (SqT.of h1) rfl))) ed_cs ?_ ?_)) ?_) rfl (pst_of fun H4 e4 => ?_))
      · decide +kernel
      · decide +kernel
      · decide +kernel
      have h14 := e4 _ _ h1
      have h24 := e4 _ _ h2
      refine w_ret (w_sl (w_v rfl ⟨1, rfl, a, _, rfl, SqT.of h14, fun hw => ?_, fun _ q hq => ?_⟩))
      · have := hw.1
        revert this
        show HT.sIx 3 0 (some ((1 : Nat) : Int)) = 0 → _
        rw [HT.sIx_nat]
        intro h
        cases h
      · have R5 := (R3.ex e4).ex (Ex.new (o := .tup (cutV [.str "road", .int (pl : Int), .ref l] (some 1) none)) hq)
        refine k _ _ R5 (Fr.of ((e13.trans e4).trans (Ex.new hq))) (.some (a := q) (l := l) (ofs_get ?_ ((R3.ex e4).off hq)) ?_)
        · rw [upd_same]
          rfl
        · have nl : l ∉ sR d al sl ll := by
            intro hm
            unfold Ofs at q2
            rw [if_pos hm] at q2
            cases q2
          exact ofs_get ((Ex.new hq) _ _ h24) nl
    | @want a t2 f2 tv2 fv2 q1 q2 q3 =>
      have h1 := e3 _ _ (ofs_ex _ _ q1)
      refine Pst.go (K := K) (pst_whenF (b := false) (tk_is (tk_v (ed_eqS (ed_s (ev_op (ev_var rfl) ev_c (rv_ixT (SqT.of h1) rfl))) ed_cs ?_ ?_)) ?_) rfl (pst_of fun H4 e4 => ?_))
      · decide +kernel
      · decide +kernel
      · decide +kernel
      have h14 := e4 _ _ h1
      refine w_par (w_cons (w_ev (v := tv2) (ev_op (ev_var rfl) ev_c (rv_ixT (SqT.of h14) rfl)) fun H5 e5 => w_cons (w_ev (v := fv2) (ev_op (ev_var rfl) ev_c (rv_ixT (SqT.of (e5 _ _ h14)) rfl)) fun H6 e6 => w_nil ⟨tv2, fv2, rfl, ?_⟩)))
      have e36 := ((e3.trans e4).trans e5).trans e6
      exact ⟨m, by omega, _, _, _, t2, f2, rfl, (q2.ex ofs_ex).ex e36, q3.ex (ofs_fr (Fr.of e36)), hF1, by omega, e12.trans e36⟩
  | own i =>
    refine ifF rfl ?_
    unfold encT at t1
    dsimp only
    refine Pst.go (K := K) (pst_whenT (b := true) (tk_is (tk_v (ed_eqS (ed_ixT (i := 0) (ed_var rfl t1) ed_ci rfl) ed_cs (by simp) (by simp))) (by simp)) rfl (pst_of fun H3 e3 => ?_))
    replace t1 := t1.ex e3
    replace f1 := f1.fr (Fr.of e3)
    have R3 := R2.ex e3
    have e13 := e12.trans e3
    cases f1 with
    | @mk a lo lp owns pars vs g1 g2 g3 g4 =>
    rw [findF] at hF1
    cases h1 : owns[i]? with
    | none => simp [Fra.owns, h1] at hF1
    | some pl =>
    simp [Fra.owns, h1] at hF1
    obtain ⟨rfl, rfl⟩ := hF1
    have hfr := ofs_ex _ _ g1
    have hlo := ofs_ex _ _ g2
    refine w_ret (w_tup (w_cons (w_d (K := K) (d := .int (pl : Int)) (ed_ixL (i := (i : Int)) (edr_ev (ev_op (ev_var rfl) ev_c (rv_ixT (SqT.of hfr) rfl)) hlo (nV_td owns)) (ed_ixT (i := 1) (ed_var rfl t1) ed_ci rfl) (atI_nat (by rw [nD, List.getElem?_map, h1] <;> rfl))) fun x H4 e4 t4 => w_cons (w_lst (w_nil ⟨Nat.zero_le _, fun p hp => w_nil ⟨by show 2 ≤ sizeLine; decide, fun q hq => ?_⟩⟩)))))
    cases t4
    have R4 := R3.ex e4
    have R5 := R4.ex (Ex.new (o := .lst []) hp)
    refine k _ _ (R5.ex (Ex.new hq)) (Fr.of (((e13.trans e4).trans (Ex.new hp)).trans (Ex.new hq))) (.some (l := p) (ofs_get upd_same (R5.off hq)) (ofs_get ((Ex.new hq) _ _ upd_same) (R4.off hp)))
  | cell tc =>
    refine ifF rfl ?_
    unfold encT at t1
    dsimp only
    refine Pst.go (K := K) (pst_whenF (b := false) (tk_is (tk_v (ed_eqS (ed_ixT (i := 0) (ed_var rfl t1) ed_ci rfl) ed_cs (by simp) (by simp))) (by simp)) rfl (pst_of fun H3 e3 => ?_))
    replace t1 := t1.ex e3
    replace f1 := f1.fr (Fr.of e3)
    have R3 := R2.ex e3
    have e13 := e12.trans e3
    rw [findF] at hF1
    cases h1 : numF m tc f' s with
    | none => rw [h1] at hF1; cases hF1
    | some x =>
    obtain ⟨v, s1⟩ := x
    rw [h1] at hF1
    cases hF1
    refine w_ret (w_if (w_t (K := K) (b := true) (tk_is (tk_v (ed_eqS (ed_ixT (i := 0) (ed_var rfl t1) ed_ci rfl) ed_cs (by simp) (by simp))) (by simp)) fun H4 e4 => ifT rfl ?_))
    have R4 := R3.ex e4
    refine w_tup (w_cons (w_call (w_cons (w_v rfl (w_cons (w_d (K := K) (d := encT tc) (ed_ixT (i := 1) (ed_var rfl (t1.ex e4)) ed_ci rfl) fun x H5 e5 t5 => w_cons (w_v rfl (w_nil ?_))))))))
    refine ⟨d, al, sl, ll, pw0, yw0, x, fv', s, s', tc, f', v, rfl, R4.ex e5, t5, f1.fr (Fr.of (e4.trans e5)), numF_le (by omega) h1, fun H6 R6 f6 => ?_⟩
    refine w_cons (w_lst (w_nil ⟨Nat.zero_le _, fun p hp => w_nil ⟨by show 2 ≤ sizeLine; decide, fun q hq => ?_⟩⟩))
    have R7 := R6.ex (Ex.new (o := .lst []) hp)
    exact k _ _ (R7.ex (Ex.new hq)) ((((Fr.of ((e13.trans e4).trans e5)).trans f6).trans (Fr.of (Ex.new hp))).trans (Fr.of (Ex.new hq))) (.some (l := p) (ofs_get upd_same (R7.off hq)) (ofs_get ((Ex.new hq) _ _ upd_same) (R6.off hp)))
  | num i =>
    refine ifF rfl ?_
    unfold encT at t1
    dsimp only
    refine Pst.go (K := K) (pst_whenF (b := false) (tk_is (tk_v (ed_eqS (ed_ixT (i := 0) (ed_var rfl t1) ed_ci rfl) ed_cs (by simp) (by simp))) (by simp)) rfl (pst_of fun H3 e3 => ?_))
    rw [findF] at hF1
    cases hF1
    refine w_ret (w_if (w_t (K := K) (b := false) (tk_is (tk_v (ed_eqS (ed_ixT (i := 0) (ed_var rfl (t1.ex e3)) ed_ci rfl) ed_cs (by simp) (by simp))) (by simp)) fun H4 e4 => ifF rfl ?_))
    exact w_c (k _ _ ((R2.ex e3).ex e4) (Fr.of ((e12.trans e3).trans e4)) .none)
  | sum a b =>
    refine ifF rfl ?_
    unfold encT at t1
    dsimp only
    refine Pst.go (K := K) (pst_whenF (b := false) (tk_is (tk_v (ed_eqS (ed_ixT (i := 0) (ed_var rfl t1) ed_ci rfl) ed_cs (by simp) (by simp))) (by simp)) rfl (pst_of fun H3 e3 => ?_))
    rw [findF] at hF1
    cases hF1
    refine w_ret (w_if (w_t (K := K) (b := false) (tk_is (tk_v (ed_eqS (ed_ixT (i := 0) (ed_var rfl (t1.ex e3)) ed_ci rfl) ed_cs (by simp) (by simp))) (by simp)) fun H4 e4 => ifF rfl ?_))
    exact w_c (k _ _ ((R2.ex e3).ex e4) (Fr.of ((e12.trans e3).trans e4)) .none)
theorem worth_step {n : Nat} (GM : Fn__law_meets T P w base CX0 1 (spMeets K)) (GR : Fn__law_road T P w base CX0 (n + 2) (spRoad K n)) (GN : Fn__law_worth T P w base CX0 (n + 2) (spWorth K n)) : Fn__law_worth T P w base CX0 (n + 3) (spWorth K (n + 1)) := by
  have G__law_worth := GN
  have G__law_road := GR
  have G__law_meets := GM
  refine T.F__law_worth.ok sc__law_worth (fun vs H Q E h => by obtain ⟨_, _, _, _, _, _, _, _, _, _, _, _, _, rfl, _⟩ := h; rfl) fun cdv A outer s0 H vs Q E hr h => ?_
  obtain ⟨d, al, sl, ll, pw0, yw0, tv, fv, s, s', t, f, v, rfl, hR, tt, hf, hF, k⟩ := h
  refine ⟨_, (pss_cons (ps_while (passes_of rfl) (PW.pt (pw_and (pt_cmpR (kop_eq K hr.units) (pe_ix (kix_tup K) (pv 1) pe_int (fun _ _ => rfl)) pe_str (nomark _)) (pw_and1 (pt_cmpR (kop_eq K hr.units) (pe_ix (kix_tup K) (pe_ix (kix_list K) (pe_ix (kix_tup K) (pv 2) pe_int (fun _ _ => rfl)) (pe_ix (kix_tup K) (pv 1) pe_int (fun _ _ => rfl)) (fun _ _ => rfl)) pe_int (fun _ _ => rfl)) pe_str (nomark _)))))
    (pss_cons (ps_set (i := 3) sc__law_worth.nd rfl (Or.inl rfl) (pe_ix (kix_list K) (pe_ix (kix_tup K) (pv 2) pe_int (fun _ _ => rfl)) (pe_ix (kix_tup K) (pv 1) pe_int (fun _ _ => rfl)) (fun _ _ => rfl)))
    (pss_one (ps_par (i := 1) (j := 2) (by rfl) sc__law_worth.nd rfl rfl (by decide) rfl rfl (pa_cons (pe_ix (kix_tup K) (pv 3) pe_int (fun _ _ => rfl)) (pa_cons (pe_ix (kix_tup K) (pv 3) pe_int (fun _ _ => rfl)) pa_nil)) (by rfl)))))
  (pss_cons (ps_if (pt_cmpR (kop_eq K hr.units) (pe_ix (kix_tup K) (pv 1) pe_int (fun _ _ => rfl)) pe_str (nomark _))
    (pss_one (ps_ret (pe_ix (kix_tup K) (pv 1) pe_int (fun _ _ => rfl))))
    pss_nil)
  (pss_cons (ps_if (pt_cmpR (kop_eq K hr.units) (pe_ix (kix_tup K) (pv 1) pe_int (fun _ _ => rfl)) pe_str (nomark _))
    (pss_one (ps_ret (pe_op op_modN (pe_op op_add (pe_call G__law_worth (hr.mono (by omega)) (by rfl) T.g__law_worth T.k__law_worth T.bd__law_worth .nil pass0 (pa_cons (pv 0) (pa_cons (pe_ix (kix_tup K) (pv 1) pe_int (fun _ _ => rfl)) (pa_cons (pv 2) pa_nil)))) (pe_call G__law_worth (hr.mono (by omega)) (by rfl) T.g__law_worth T.k__law_worth T.bd__law_worth .nil pass0 (pa_cons (pv 0) (pa_cons (pe_ix (kix_tup K) (pv 1) pe_int (fun _ _ => rfl)) (pa_cons (pv 2) pa_nil))))) pe_int)))
    pss_nil)
  (pss_one (ps_ret (pe_ix (kix_list K) (pe_dget (hu_of hr) (pv 0) pe_str (fun _ _ => rfl)) (pe_call G__law_meets (hr.mono (by omega)) (by rfl) T.g__law_meets T.k__law_meets T.bd__law_meets .nil pass0 (pa_cons (pv 0) (pa_cons (pe_call G__law_road (hr.mono (by omega)) (by rfl) T.g__law_road T.k__law_road T.bd__law_road .nil pass0 (pa_cons (pv 0) (pa_cons (pv 1) (pa_cons (pv 2) pa_nil)))) pa_nil))) (fun _ _ => rfl))))))), ?_⟩
  refine seq_cut (fun σ' H' => ∃ (tv' fv' : V) (u3 : Option V) (t' : Th) (f' : Fra) (m : Nat), σ' = [some (.ref d), some tv', some fv', u3] ∧ Td K H' tv' (encT t') ∧ LFra K (Ofs (sR d al sl ll) H') fv' f' ∧ numF (m + 1) t' f' s = some (v, s') ∧ m ≤ n ∧ Ex H H' ∧ ∀ k, t' = .par k → ∃ pl th, f'.pars[k]? = some (.road pl th)) ?_ fun N hN => ?_
  · rintro σ' H1 ⟨tv', fv', u3, t', f', m, rfl, t1, f1, hF1, hm, e1, hpp⟩
    have R1 := hR.ex e1
    obtain ⟨dsw, ew⟩ := encT_word t'
    by_cases hpl : isPlace t' = true
    · have t1w := t1
      rw [ew] at t1w
      obtain ⟨pl, th, s1, h1, rfl, h3⟩ := numF_place hpl hpp hF1
      refine Pst.go (K := K) (pst_whenF (b := false) (tk_is (tk_v (ed_eqS (ed_ixT (i := 0) (ed_var rfl t1w) ed_ci atI_zero) ed_cs (wordT_lay t') (by simp))) ?_) rfl ?_)
      · cases t' <;> simp [wordT] <;> simp [isPlace] at hpl
      refine pst_whenF (b := false) (tk_is (tk_v (ed_eqS (ed_ixT (i := 0) (ed_var rfl t1w) ed_ci atI_zero) ed_cs (wordT_lay t') (by simp))) ?_) rfl (pst_of fun H2 e2 => ?_)
      · cases t' <;> simp [wordT] <;> simp [isPlace] at hpl
      have R2 := R1.ex e2
      refine w_ret (w_op (w_dg rfl R2.ob rfl (w_call (w_cons (w_v rfl (w_cons (w_call (w_cons (w_v rfl (w_cons (w_v rfl (w_cons (w_v rfl (w_nil ?_))))))))))))))
      refine ⟨d, al, sl, ll, pw0, yw0, tv', fv', s, s1, t', f', some (pl, th), rfl, R2, t1.ex e2, f1.fr (Fr.of e2), findF_le (by omega) h1, fun x H3 R3 f3 rd => w_nil ?_⟩
      refine ⟨d, al, sl, ll, pw0, yw0, x, s1, pl, th, rfl, R3, rd, fun H4 R4 f4 => ?_⟩
      refine ⟨al, nV (come pl th s1).nums, (pl : Int), .int (v : Int), rfl, rfl, SqL.of R4.nums, atI_nat (by rw [nV, List.getElem?_map, h3] <;> rfl), ?_⟩
      exact k _ R4 (((Fr.of (e1.trans e2)).trans f3).trans f4)
    · cases t' with
      | cell _ => simp [isPlace] at hpl
      | own _ => simp [isPlace] at hpl
      | par _ => simp [isPlace] at hpl
      | num i =>
        unfold encT at t1
        rw [numF] at hF1
        cases hF1
        refine Pst.go (K := K) (pst_whenT (b := true) (tk_is (tk_v (ed_eqS (ed_ixT (i := 0) (ed_var rfl t1) ed_ci rfl) ed_cs (by simp) (by simp))) (by simp)) rfl (pst_of fun H2 e2 => ?_))
        refine w_ret (w_d (K := K) (d := .int (v : Int)) (ed_ixT (i := 1) (ed_var rfl (t1.ex e2)) ed_ci rfl) fun x H3 e3 t3 => ?_)
        cases t3
        exact k H3 ((R1.ex e2).ex e3) (Fr.of ((e1.trans e2).trans e3))
      | sum a b =>
        unfold encT at t1
        rw [numF] at hF1
        cases h1 : numF m a f' s with
        | none => rw [h1] at hF1; cases hF1
        | some x =>
        obtain ⟨va, s1⟩ := x
        rw [h1] at hF1
        dsimp only at hF1
        cases h2 : numF m b f' s1 with
        | none => rw [h2] at hF1; cases hF1
        | some y =>
        obtain ⟨vb, s2⟩ := y
        rw [h2] at hF1
        cases hF1
        refine Pst.go (K := K) (pst_whenF (b := false) (tk_is (tk_v (ed_eqS (ed_ixT (i := 0) (ed_var rfl t1) ed_ci rfl) ed_cs (by simp) (by simp))) (by simp)) rfl ?_)
        refine pst_whenT (b := true) (tk_is (tk_v (ed_eqS (ed_ixT (i := 0) (ed_var rfl t1) ed_ci rfl) ed_cs (by simp) (by simp))) (by simp)) rfl (pst_of fun H2 e2 => ?_)
        have R2 := R1.ex e2
        replace t1 := t1.ex e2
        replace f1 := f1.fr (Fr.of e2)
        refine w_ret (w_op (w_op (w_call (w_cons (w_v rfl (w_cons (w_d (K := K) (d := encT a) (ed_ixT (i := 1) (ed_var rfl t1) ed_ci rfl) fun x3 H3 e3 t3 => w_cons (w_v rfl (w_nil ?_)))))))))
        refine ⟨d, al, sl, ll, pw0, yw0, x3, fv', s, s1, a, f', va, rfl, R2.ex e3, t3, f1.fr (Fr.of e3), numF_le hm h1, fun H4 R4 f4 => ?_⟩
        have t4 := (t1.ex e3).kp ((R2.ex e3).keep1 f4)
        have ff4 := (f1.fr (Fr.of e3)).fr f4.r4
        refine w_call (w_cons (w_v rfl (w_cons (w_d (K := K) (d := encT b) (ed_ixT (i := 2) (ed_var rfl t4) ed_ci rfl) fun x5 H5 e5 t5 => w_cons (w_v rfl (w_nil ?_))))))
        refine ⟨d, al, sl, ll, pw0, yw0, x5, fv', s1, _, b, f', vb, rfl, R4.ex e5, t5, ff4.fr (Fr.of e5), numF_le hm h2, fun H6 R6 f6 => ?_⟩
        refine ⟨(va : Int), (vb : Int), rfl, rfl, w_c ⟨(va : Int) + (vb : Int), 3, rfl, rfl, (by show (3 : Int) ≠ 0; decide), ?_⟩⟩
        have e : ((va : Int) + (vb : Int)).fmod 3 = (((va + vb) % 3 : Nat) : Int) := by
          rw [Int.fmod_eq_emod_of_nonneg _ (by decide)]
          omega
        have hk := k H6 R6 (((((Fr.of (e1.trans e2)).trans (Fr.of e3)).trans f4).trans (Fr.of e5)).trans f6)
        rw [← e] at hk
        exact hk
  refine w_while (fun m σ' H' => ∃ (tv' fv' : V) (u3 : Option V) (t' : Th) (f' : Fra), σ' = [some (.ref d), some tv', some fv', u3] ∧ Td K H' tv' (encT t') ∧ LFra K (Ofs (sR d al sl ll) H') fv' f' ∧ numF m t' f' s = some (v, s') ∧ m ≤ n + 1 ∧ Ex H H') (n + 1) ⟨_, _, _, t, f, rfl, tt, hf, hF, Nat.le_refl _, Ex.refl _⟩ ?_
  rintro m σ' H1 ⟨tv', fv', u3, t', f', rfl, t1, f1, hF1, hm, e1⟩
  obtain ⟨m, rfl⟩ : ∃ m', m = m' + 1 := ⟨m - 1, by cases m with
    | zero => simp [numF] at hF1
    | succ m => omega⟩
  have R1 := hR.ex e1
  obtain ⟨dsw, ew⟩ := encT_word t'
  have t1w := t1
  rw [ew] at t1w
  by_cases hp0 : isPar t' = true
  · cases t' with
    | cell _ => simp [isPar] at hp0
    | own _ => simp [isPar] at hp0
    | num _ => simp [isPar] at hp0
    | sum _ _ => simp [isPar] at hp0
    | par i =>
      unfold encT at t1
      cases f1 with
      | @mk a lo lp owns pars vs g1 g2 g3 g4 =>
      have hfr := ofs_ex _ _ g1
      have hlp := ofs_ex _ _ g3
      cases hp : pars[i]? with
      | none =>
        rw [numF] at hF1
        cases m with
        | zero => simp [findF] at hF1
        | succ m => simp [findF, Fra.pars, hp] at hF1
      | some hd =>
      obtain ⟨u, hu, hhd⟩ := g4.get hp
      have evu : ∀ {H3}, Ex H1 H3 → ∀ {u3 : Option V}, Ev (tOp (rIxL K) (tOp (rIxT K) (tVar 2) (tC (.int 1))) (tOp (rIxT K) (tVar 1) (tC (.int 1)))) [some (.ref d), some tv', some (.ref a), u3] H3 u := fun {H3} e3 {u3} => ev_op (ev_op (ev_var rfl) ev_c (rv_ixT (SqT.of (e3 _ _ hfr)) rfl)) (EvD.iv (K := K) (i := (i : Int)) (ed_ixT (i := 1) (ed_var rfl (t1.ex e3)) ed_ci rfl)) (rv_ixL (SqL.of (e3 _ _ hlp)) (atI_nat hu))
      cases hhd with
      | @road a2 l pl th q1 q2 =>
        have h1 := ofs_ex _ _ q1
        refine w_t (K := K) (b := false) ?_ fun H2 e2 => ifF rfl ?_
        · refine tk_is (tk_and (a := true) (b := false) (tk_is (tk_v (ed_eqS (ed_ixT (i := 0) (ed_var rfl t1) ed_ci rfl) ed_cs (by simp) (by simp))) (by simp)) fun _ => tk_is (tk_v (ed_eqS (ed_s (s := "road") (ev_op (evu (Ex.refl _)) ev_c (rv_ixT (SqT.of h1) rfl))) ed_cs ?_ ?_)) ?_) rfl
          · decide +kernel
          · decide +kernel
          · decide +kernel
        refine hN _ _ ⟨_, _, _, .par i, _, m, rfl, t1.ex e2, (LFra.mk g1 g2 g3 g4).fr (Fr.of e2), hF1, by omega, e1.trans e2, fun k hk => ?_⟩
        cases hk
        exact ⟨_, _, hp⟩
      | @want a2 t2 f2 tv2 fv2 q1 q2 q3 =>
        have h1 := ofs_ex _ _ q1
        refine w_t (K := K) (b := true) ?_ fun H2 e2 => ifT rfl ?_
        · refine tk_is (tk_and (a := true) (b := true) (tk_is (tk_v (ed_eqS (ed_ixT (i := 0) (ed_var rfl t1) ed_ci rfl) ed_cs (by simp) (by simp))) (by simp)) fun _ => tk_is (tk_v (ed_eqS (ed_s (s := "want") (ev_op (evu (Ex.refl _)) ev_c (rv_ixT (SqT.of h1) rfl))) ed_cs ?_ ?_)) ?_) rfl
          · decide +kernel
          · decide +kernel
          · decide +kernel
        refine ⟨fun σ' H' => ∃ m', m' < m + 1 ∧ ∃ (tv' fv' : V) (u3 : Option V) (t' : Th) (f' : Fra), σ' = [some (.ref d), some tv', some fv', u3] ∧ Td K H' tv' (encT t') ∧ LFra K (Ofs (sR d al sl ll) H') fv' f' ∧ numF m' t' f' s = some (v, s') ∧ m' ≤ n + 1 ∧ Ex H H', fun _ _ h => h, ?_⟩
        refine w_seq (w_asg (w_ev (evu e2) fun H3 e3 => ?_))
        have h13 := (e2.trans e3) _ _ h1
        dsimp only
        refine w_par (w_cons (w_ev (v := tv2) (ev_op (ev_var rfl) ev_c (rv_ixT (SqT.of h13) rfl)) fun H5 e5 => w_cons (w_ev (v := fv2) (ev_op (ev_var rfl) ev_c (rv_ixT (SqT.of (e5 _ _ h13)) rfl)) fun H6 e6 => w_nil ⟨tv2, fv2, rfl, ?_⟩)))
        have e26 := ((e2.trans e3).trans e5).trans e6
        exact ⟨m, by omega, _, _, _, t2, f2, rfl, (q2.ex ofs_ex).ex e26, q3.ex (ofs_fr (Fr.of e26)), numF_want (f := .mk owns pars) hp hF1, by omega, e1.trans e26⟩
  · refine w_t (K := K) (b := false) ?_ fun H2 e2 => ifF rfl ?_
    · refine tk_is (tk_andF (tk_is (tk_v (ed_eqS (ed_ixT (i := 0) (ed_var rfl t1w) ed_ci atI_zero) ed_cs (wordT_lay t') (by simp))) ?_)) rfl
      cases t' <;> simp [wordT] <;> simp [isPar] at hp0
    refine hN _ _ ⟨_, _, _, _, _, m, rfl, t1.ex e2, f1.fr (Fr.of e2), hF1, by omega, e1.trans e2, fun k hk => ?_⟩
    subst hk
    simp [isPar] at hp0
theorem ok_lfn : ∀ n : Nat, Fn__law_road T P w base CX0 (n + 2) (spRoad K n) ∧ Fn__law_worth T P w base CX0 (n + 2) (spWorth K n)
  | 0 => ⟨fn_vac fun vs H Q E h => by obtain ⟨d, al, sl, ll, pw0, yw0, tv, fv, s, s', t, f, o, _, _, _, _, h, _⟩ := h; simp [findF] at h, fn_vac fun vs H Q E h => by obtain ⟨d, al, sl, ll, pw0, yw0, tv, fv, s, s', t, f, o, _, _, _, _, h, _⟩ := h; simp [numF] at h⟩
  | n + 1 => ⟨road_step T (ok_lfn n).2, worth_step T (ok_meets T) (ok_lfn n).1 (ok_lfn n).2⟩
end
end Hw

set_option maxRecDepth 100000
set_option maxHeartbeats 4000000
/-! RL3: what the law hands -/
namespace Hw
open PySem PySem.Spec PyProof.Rows L2 Evl
local macro_rules | `(tactic| walk_at "dd") => `(tactic| first | rfl | decide | (simp; done) | omega)
local macro_rules | `(tactic| walk_at "td") => `(tactic| first | assumption | exact Td.int _ | exact Td.bl _ | exact Td.str _ | exact Td.non | exact Td.tup (by assumption) (by assumption))
local macro_rules | `(tactic| walk_at "ev") => `(tactic| first
  | exact ed_ci | exact ed_cs | exact ed_cb | exact ed_cn
  | (apply ed_cg; assumption)
  | (apply ed_var; (rfl); (walk_at "td"))
  | (apply ed_ixT; (walk_at "ev"); (walk_at "ev"); (first | rfl | assumption))
  | (apply ed_rowI; (rfl); (assumption); (walk_at "ev"); (rfl))
  | (apply ed_ixL; (apply EvDL.rd; walk_at "edl"); (walk_at "ev"); (rfl))
  | (apply ed_intb; (walk_at "ev"))
  | (apply ed_len; walk_at "ev")
  | (apply ed_lenV; (apply ev_rowR; (rfl); (assumption); (walk_at "ev"); (rfl)); (assumption))
  | (apply ed_Ii; (walk_at "ev"); (walk_at "ev"); (walk_at "cc"))
  | (apply ed_isi; (walk_at "ev"); (rfl))
  | (apply ed_I0i; (walk_at "ev"); (walk_at "ev"))
  | (apply ed_I0b; (walk_at "ev"); (walk_at "ev"))
  | (apply ed_eqi; (walk_at "ev"); (walk_at "ev"))
  | (apply ed_nei; (walk_at "ev"); (walk_at "ev"))
  | (apply ed_andF; walk_at "ev")
  | (apply ed_andV; (walk_at "ev"); (intro _; walk_at "ev"))
  | (apply ed_orT; walk_at "ev")
  | (apply ed_orV; (walk_at "ev"); (intro _; walk_at "ev"))
  | (apply ed_notT; walk_at "ev")
  | (apply ed_notF; walk_at "ev")
  | (apply ed_notV; walk_at "ev")
  | (apply ed_chain; (walk_at "ev"); (walk_at "ev"); (intro _; walk_at "ev"))
  | (apply ed_eqS; (walk_at "ev"); (walk_at "ev"); (walk_at "bb"); (walk_at "bb"))
  | (apply ed_neS; (walk_at "ev"); (walk_at "ev"); (walk_at "bb"); (walk_at "bb"))
  | (apply ed_inT; (walk_at "ev"); (walk_at "ev"); (rfl); (rfl))
  | (apply ed_niT; (walk_at "ev"); (walk_at "ev"); (rfl); (rfl))
  | (apply ed_tup; (walk_at "eva"); (walk_at "bb"))
  | (apply ed_sl; (walk_at "ev"); (walk_at "evo"); (walk_at "evo"))
  | (apply ed_eqN; (apply EvDL.rd; walk_at "edl"); (walk_at "edl"); (walk_at "bb"))
  | (apply ed_neN; (apply EvDL.rd; walk_at "edl"); (walk_at "edl"); (walk_at "bb"))
  | (apply ed_ixL; (apply edr_var; (rfl); (assumption); (assumption)); (walk_at "ev"); (first | rfl | assumption))
  | (apply ed_lenL; (apply edr_var; (rfl); (assumption); (assumption)))
  | (apply ed_call; (walk_at "eva"); (walk_at "post")))
local macro_rules | `(tactic| walk_at "edl") => `(tactic| first
  | assumption
  | (apply edl_lst; (walk_at "eva"); (walk_at "bb")))
local macro_rules | `(tactic| walk_at "eva") => `(tactic| first
  | exact eda_nil
  | (apply eda_cons; (walk_at "ev"); (walk_at "eva")))
local macro_rules | `(tactic| walk_at "evo") => `(tactic| first
  | exact eok_none
  | (apply eok_some; walk_at "ev"))
local macro_rules | `(tactic| walk_at "bb") => `(tactic| first | rfl | assumption | (simp; done) | (simp; omega) | decide +kernel)
local macro_rules | `(tactic| walk_at "et") => `(tactic| first
  | exact tk_yes
  | (apply tk_andF; walk_at "et")
  | (apply tk_and; (walk_at "et"); (intro _; walk_at "et"))
  | (apply tk_orT; walk_at "et")
  | (apply tk_or; (walk_at "et"); (intro _; walk_at "et"))
  | (apply tk_notT; walk_at "et")
  | (apply tk_notF; walk_at "et")
  | (apply tk_not; walk_at "et")
  | (apply tk_v; walk_at "ev")
  | (apply tk_vB; walk_at "ev"))
local macro_rules | `(tactic| walk_at "if") => `(tactic| first
  | (apply pst_whenF; (walk_at "et"); (walk_at "bb"))
  | (apply pst_whenT; (walk_at "et"); (walk_at "bb")))
local macro_rules | `(tactic| walk_at "post") => `(tactic| first | assumption | exact ⟨_, _, rfl, rfl⟩ | exact ⟨_, _, _, _, rfl, by omega, by omega, rfl⟩ | exact ⟨_, _, _, 0, rfl, by omega, by omega, rfl⟩)
local macro_rules | `(tactic| walk_at "cc") => `(tactic| first | assumption | decide | omega | (refine ⟨?_, ?_⟩ <;> first | decide | omega) | (exact Or.inl (by constructor <;> omega)))

def bV : Option (Nat × Nat) → V
  | none => .non
  | some (pl, _) => .int (pl : Int)
theorem handF_back {M : Nat} {t : Th} {w : Str} {f : Fra} {s s' : Sg} {hd : Hd} {pl o : Nat} (h : handF M t w f s = some (hd, some (pl, o), s')) : hd = .road o [] := by
  unfold handF at h
  split at h
  · cases h
  · split at h
    · cases h
    · split at h
      · split at h
        · cases h
        · split at h <;> cases h
      · dsimp only at h
        split at h
        · split at h
          · split at h <;> cases h
          · split at h
            · cases h
            · split at h
              · cases h
              · cases h; rfl
        · cases h
section
variable {K : PySem.W.Frag} {σ : L2.St} {H H' : Hp} {v : V} {n : Nat} {d al sl ll : Addr} {S : List Addr}
theorem ed_isNv (hs : σ[n]? = some (some v)) : EvD K (tIsN (tVar n)) σ H (.bool (decide (v = .non))) := fun H1 _ Q q => ⟨v, hs, q _ H1 (Ex.refl _) (.bl _)⟩
theorem ed_notNv (hs : σ[n]? = some (some v)) : EvD K (tNotN (tVar n)) σ H (.bool (!decide (v = .non))) := fun H1 _ Q q => ⟨v, hs, q _ H1 (Ex.refl _) (.bl _)⟩
theorem ofs_sub {S S' : List Addr} (h : ∀ a ∈ S, a ∈ S') : Ex (Ofs S' H) (Ofs S H) := fun p o q => by
  unfold Ofs at q
  split at q
  · cases q
  · rename_i hp
    exact ofs_get q fun hm => hp (h p hm)
end
def spHanded (K : PySem.W.Frag) (M : Nat) : Sp := fun vs H Q _ => ∃ (d al sl ll : Addr) (pw0 yw0 tv fv : V) (s s' : Sg) (t : Th) (w : Str) (f : Fra) (hd : Hd) (b : Option (Nat × Nat)) (S : List Addr), vs = [.ref d, tv, .str w, fv] ∧ LawAt K d al sl ll pw0 yw0 s H ∧ (PyData.str w).canLay0 = true ∧ Td K H tv (encT t) ∧ (∀ a ∈ sR d al sl ll, a ∈ S) ∧ (∀ a ∈ S, ∃ u, H a = some u ∧ Mut (some u)) ∧ LFra K (Ofs S H) fv f ∧ handF M t w f s = some (hd, b, s') ∧
  ∀ q hv H', LawAt K d al sl ll pw0 yw0 s' H' → Fr (sR d al sl ll) H H' → H' q = some (.tup [hv, bV b]) → q ∉ S → LHd K (Ofs S H') hv hd → Q (.ref q) H'
section
variable {P : Program} {w : World} {K : PySem.W.Frag} {mg : Str → Option Value} {base : Heap} (T : Tx K mg)
include T
theorem ok_handed {M : Nat} (GM : Fn__law_meets T P w base CX0 1 (spMeets K)) (GE : Fn__law_new T P w base CX0 1 (spLNew K)) (GR : Fn__law_road T P w base CX0 (M + 2) (spRoad K M)) (GN : Fn__law_worth T P w base CX0 (M + 2) (spWorth K M)) : Fn__law_handed T P w base CX0 (M + 3) (spHanded K M) := by
  have G__law_worth := GN
  have G__law_road := GR
  have G__law_meets := GM
  have G__law_new := GE
  refine T.F__law_handed.ok sc__law_handed (fun vs H Q E h => by obtain ⟨_, _, _, _, _, _, _, _, _, _, _, _, _, _, _, _, rfl, _⟩ := h; rfl) fun cdv A outer s0 H vs Q E hr h => ?_
  obtain ⟨d, al, sl, ll, pw0, yw0, tv, fv, s, s', t, wy, f, hd, b, S, rfl, hR, hlw, tt, hSs, hSm, hf, hF, k⟩ := h
  refine ⟨_, (pss_cons (ps_set (i := 4) sc__law_handed.nd rfl (Or.inl rfl) (pe_ifExp (pt_cmpR (kop_in K) (pv 2) (pe_tup (pa_cons pe_str (pa_cons pe_str pa_nil))) rfl) (pe_call G__law_road (hr.mono (by omega)) (by rfl) T.g__law_road T.k__law_road T.bd__law_road .nil pass0 (pa_cons (pv 0) (pa_cons (pv 1) (pa_cons (pv 3) pa_nil)))) pe_non))
  (pss_cons (ps_if (pt_cmpR (kop_eq K hr.units) (pv 2) pe_str (nomark _))
    (pss_one (ps_ret (pe_tup (pa_cons (pe_tup (pa_cons pe_str (pa_cons (pv 1) (pa_cons (pv 3) pa_nil)))) (pa_cons pe_non pa_nil)))))
    pss_nil)
  (pss_cons (ps_if (pt_cmp (pc_isN (pv 4)) rfl)
    (pss_one (ps_ret (pe_tup (pa_cons (pe_tup (pa_cons pe_str (pa_cons (pe_call G__law_new (hr.mono (by omega)) (by rfl) T.g__law_new T.k__law_new T.bd__law_new .nil pass0 (pa_cons (pv 0) (pa_cons (pe_call G__law_worth (hr.mono (by omega)) (by rfl) T.g__law_worth T.k__law_worth T.bd__law_worth .nil pass0 (pa_cons (pv 0) (pa_cons (pv 1) (pa_cons (pv 3) pa_nil)))) pa_nil))) (pa_cons (pe_lst pa_nil) pa_nil)))) (pa_cons pe_non pa_nil)))))
    pss_nil)
  (pss_cons (ps_set (i := 5) sc__law_handed.nd rfl (Or.inl rfl) (pe_call G__law_meets (hr.mono (by omega)) (by rfl) T.g__law_meets T.k__law_meets T.bd__law_meets .nil pass0 (pa_cons (pv 0) (pa_cons (pv 4) pa_nil))))
  (pss_cons (ps_dput (hu_of hr) (pv 0) pe_str (pe_op op_add (pe_dget (hu_of hr) (pv 0) pe_str (fun _ _ => rfl)) pe_int) rfl)
  (pss_cons (ps_expr (pe_bm PySem.F.plainAttrs_list PySem.F.slot_list_append PySem.F.type_list_append mt_append (pe_dget (hu_of hr) (pv 0) pe_str (fun _ _ => rfl)) (pa_cons (pe_tup (pa_cons (pv 5) (pa_cons (pe_dget (hu_of hr) (pv 0) pe_str (fun _ _ => rfl)) pa_nil))) pa_nil)))
  (pss_cons (ps_if (pt_cmpR (kop_eq K hr.units) (pv 2) pe_str (nomark _))
    (pss_one (ps_ret (pe_tup (pa_cons (pe_tup (pa_cons pe_str (pa_cons (pv 5) (pa_cons (pe_op op_cat (pe_ix (kix_tup K) (pv 4) pe_int (fun _ _ => rfl)) (pe_lst (pa_cons (pe_dget (hu_of hr) (pv 0) pe_str (fun _ _ => rfl)) pa_nil))) pa_nil)))) (pa_cons pe_non pa_nil)))))
    pss_nil)
  (pss_one (ps_ret (pe_tup (pa_cons (pe_tup (pa_cons pe_str (pa_cons (pe_call G__law_new (hr.mono (by omega)) (by rfl) T.g__law_new T.k__law_new T.bd__law_new .nil pass0 (pa_cons (pv 0) (pa_cons (pe_ix (kix_list K) (pe_dget (hu_of hr) (pv 0) pe_str (fun _ _ => rfl)) (pv 5) (fun _ _ => rfl)) pa_nil))) (pa_cons (pe_lst pa_nil) pa_nil)))) (pa_cons (pv 5) pa_nil)))))))))))), ?_⟩
  unfold handF at hF
  cases hfd : (if isLent wy = true then findF M t f s else some (none, s)) with
  | none => rw [hfd] at hF; cases hF
  | some x0 =>
  obtain ⟨fd, s1⟩ := x0
  rw [hfd] at hF
  dsimp only at hF
  have offS : ∀ {H' q}, Fr (sR d al sl ll) H H' → (∀ a ∈ sR d al sl ll, ∃ u, H' a = some u) → H' q = none → q ∉ S := fun {H' q} f1 hm hq hqS => by
    obtain ⟨u, hu, _⟩ := hSm q hqS
    by_cases hq2 : q ∈ sR d al sl ll
    · obtain ⟨u2, hu2⟩ := hm q hq2
      rw [hq] at hu2
      cases hu2
    · have := f1 q u hq2 hu
      rw [hq] at this
      cases this
  have muS : ∀ {H' sx}, LawAt K d al sl ll pw0 yw0 sx H' → ∀ a ∈ sR d al sl ll, ∃ u, H' a = some u := fun R a ha => by
    obtain ⟨u, hu, _⟩ := R.mu a ha
    exact ⟨u, hu⟩
  have frS : ∀ {H'}, Fr (sR d al sl ll) H H' → LFra K (Ofs S H') fv f := fun f1 => hf.ex (ofs_fr (f1.sub hSs))
  have frR : ∀ {H'}, Fr (sR d al sl ll) H H' → LFra K (Ofs (sR d al sl ll) H') fv f := fun f1 => (frS f1).ex (ofs_sub hSs)
  refine seq_cut (fun σ2 H1 => ∃ x, σ2 = [some (.ref d), some tv, some (.str wy), some fv, some x, none] ∧ RdV K (Ofs (sR d al sl ll) H1) x fd ∧ LawAt K d al sl ll pw0 yw0 s1 H1 ∧ Fr (sR d al sl ll) H H1) ?_ fun N hN => ?_
  · rintro σ2 H1 ⟨x, rfl, hx, R1, f1⟩
    have tt1 := tt.kp (hR.keep f1)
    refine Pst.go (K := K) ?_
    refine pst_when (b := isW "want" wy) (tk_v (ed_eqS (ed_var rfl (.str _)) ed_cs hlw (by simp))) (fun hb => pst_of fun H2 e2 => ?_) fun hb => ?_
    · rw [if_pos hb] at hF
      cases hF
      have R2 := R1.ex e2
      have f2 := f1.trans (Fr.of e2)
      refine w_ret (w_tup (w_cons (w_tup (w_cons (w_c (w_cons (w_v rfl (w_cons (w_v rfl (w_nil ⟨by show 3 ≤ sizeLine; decide, fun p hp => w_cons (w_c (w_nil ⟨by show 2 ≤ sizeLine; decide, fun q hq => ?_⟩))⟩))))))))))
      have R3 := R2.ex (Ex.new (o := .tup [.str "want", tv, fv]) hp)
      have f3 := f2.trans (Fr.of (Ex.new (o := .tup [.str "want", tv, fv]) hp))
      refine k q _ _ (R3.ex (Ex.new hq)) (f3.trans (Fr.of (Ex.new hq))) upd_same (offS f3 (muS R3) hq) ?_
      refine .want (ofs_get ((Ex.new hq) _ _ upd_same) (offS f2 (muS R2) hp)) ?_ (frS (f3.trans (Fr.of (Ex.new hq))))
      refine (((tt1.ex e2).ex (Ex.new hp)).ex (Ex.new hq)).kp (keep_ofs fun a ha => ?_)
      obtain ⟨u, hu, hm⟩ := hSm a ha
      by_cases h4 : a ∈ sR d al sl ll
      · exact (R3.ex (Ex.new hq)).mu a h4
      · exact ⟨u, (f3.trans (Fr.of (Ex.new hq))) a u h4 hu, hm⟩
    rw [if_neg (by rw [hb]; decide)] at hF
    cases fd with
    | none =>
      cases hx
      refine pst_whenT (b := true) (tk_is (tk_vB (ed_isNv rfl)) rfl) rfl (pst_of fun H2 e2 => ?_)
      dsimp only at hF
      cases hnu : numF M t f s1 with
      | none => rw [hnu] at hF; cases hF
      | some x4 =>
      obtain ⟨vn, s2⟩ := x4
      rw [hnu] at hF
      dsimp only at hF
      cases hfr : freshF vn s2 with
      | none => rw [hfr] at hF; cases hF
      | some x5 =>
      obtain ⟨pl, s3⟩ := x5
      rw [hfr] at hF
      cases hF
      have hfr2 : s2.nums.length < mostL ∧ pl = s2.nums.length ∧ s' = { s2 with nums := s2.nums ++ [vn] } := by
        simp only [freshF] at hfr
        split at hfr
        · rename_i hq
          cases hfr
          exact ⟨hq, rfl, rfl⟩
        · cases hfr
      obtain ⟨hq, rfl, rfl⟩ := hfr2
      have R2 := R1.ex e2
      have f2 := f1.trans (Fr.of e2)
      refine w_ret (w_tup (w_cons (w_tup (w_cons (w_c (w_cons (w_call (w_cons (w_v rfl (w_cons (w_call (w_cons (w_v rfl (w_cons (w_v rfl (w_cons (w_v rfl (w_nil ?_))))))))))))))))))
      refine ⟨d, al, sl, ll, pw0, yw0, tv, fv, s1, s2, t, f, vn, rfl, R2, tt1.ex e2, frR f2, hnu, fun H3 R3 f3 => w_nil ?_⟩
      have f3' := f2.trans f3.r4
      refine ⟨d, al, sl, ll, pw0, yw0, s2, vn, rfl, R3, hq, fun H4 R4 f4 => w_cons (w_lst (w_nil ⟨Nat.zero_le _, fun p hp => w_nil ⟨by show 3 ≤ sizeLine; decide, fun q1 hq1 => w_cons (w_c (w_nil ⟨by show 2 ≤ sizeLine; decide, fun q hq => ?_⟩))⟩⟩))⟩
      have f4' := f3'.trans (f4.sub (S' := sR d al sl ll) (by simp [sR]))
      have R5 := R4.ex (Ex.new (o := .lst []) hp)
      have f5 := f4'.trans (Fr.of (Ex.new (o := .lst []) hp))
      have R6 := R5.ex (Ex.new (o := .tup [.str "road", .int (s2.nums.length : Int), .ref p]) hq1)
      have f6 := f5.trans (Fr.of (Ex.new (o := .tup [.str "road", .int (s2.nums.length : Int), .ref p]) hq1))
      refine k q _ _ (R6.ex (Ex.new hq)) (f6.trans (Fr.of (Ex.new hq))) upd_same (offS f6 (muS R6) hq) ?_
      exact .road (th := []) (ofs_get ((Ex.new hq) _ _ upd_same) (offS f5 (muS R5) hq1)) (ofs_get ((Ex.new hq) _ _ ((Ex.new hq1) _ _ upd_same)) (offS f4' (muS R4) hp))
    | some pt =>
      obtain ⟨pl, th⟩ := pt
      dsimp only at hF
      have hlt : (come pl th s1).lent.length < mostL := by
        split at hF
        · assumption
        · cases hF
      rw [if_pos hlt] at hF
      have hxr : ∃ a l, x = .ref a ∧ Ofs (sR d al sl ll) H1 a = some (.tup [.int (pl : Int), .ref l]) ∧ Ofs (sR d al sl ll) H1 l = some (.lst (nV th)) := by
        cases hx with
        | some q1 q2 => exact ⟨_, _, rfl, q1, q2⟩
      obtain ⟨a, l, rfl, q1, q2⟩ := hxr
      refine pst_whenF (b := false) (tk_is (tk_vB (ed_isNv rfl)) rfl) rfl (pst_of fun H2 e2 => ?_)
      have R2 := R1.ex e2
      have f2 := f1.trans (Fr.of e2)
      have q1' := (ofs_fr (Fr.of e2)) _ _ q1
      have q2' := (ofs_fr (Fr.of e2)) _ _ q2
      refine w_seq (w_asg (w_call (w_cons (w_v rfl (w_cons (w_v rfl (w_nil ⟨d, al, sl, ll, pw0, yw0, .ref a, s1, pl, th, rfl, R2, .some q1' q2', fun H3 R3 f3 => ?_⟩)))))))
      have f3' := f2.trans f3.r4
      have q13 := (ofs_fr f3.r4) _ _ q1'
      have q23 := (ofs_fr f3.r4) _ _ q2'
      dsimp only
      refine w_seq (w_dput rfl (w_d (K := K) (d := .int (((come pl th s1).many + 1 : Nat) : Int)) ?_ fun v4 H4 e4 t4 => ⟨_, (R3.ex e4).ob, by show 7 < sizeLine; decide, ?_⟩))
      · refine ed_is (ed_I0i (ed_dg rfl R3.ob rfl (.int ((come pl th s1).many : Int))) ed_ci) ?_
        simp
      cases t4
      have R5 := (R3.ex e4).setd (s' := { come pl th s1 with many := (come pl th s1).many + 1 }) rfl rfl rfl
      have f5 : Fr (sR d al sl ll) H4 (upd H4 d (.dK (lawKs pw0 yw0 al sl ll { come pl th s1 with many := (come pl th s1).many + 1 }))) := Fr.upd (by simp [sR])
      have f5' := (f3'.trans (Fr.of e4)).trans f5
      have q15 := (ofs_fr ((Fr.of e4).trans f5)) _ _ q13
      have q25 := (ofs_fr ((Fr.of e4).trans f5)) _ _ q23
      show tSeq _ _ _ _ (upd H4 d (.dK (lawKs pw0 yw0 al sl ll { come pl th s1 with many := (come pl th s1).many + 1 })))
      generalize upd H4 d (.dK (lawKs pw0 yw0 al sl ll { come pl th s1 with many := (come pl th s1).many + 1 })) = H5 at *
      obtain ⟨lv5, hl5, hla5⟩ := R5.lent
      refine w_seq (w_appD rfl R5.ob rfl hl5 (w_d (K := K) (d := .tuple [.int (pl : Int), .int (((come pl th s1).many + 1 : Nat) : Int)]) ?_ fun v6 H6 e6 t6 => ?_))
      · exact ed_tup (eda_cons (ed_var rfl (.int _)) (eda_cons (ed_dg rfl R5.ob rfl (.int _)) eda_nil)) (by simp)
      have R6 := R5.ex e6
      have hl6 := e6 _ _ hl5
      have hsz6 : lv5.length < sizeLine := by
        rw [hla5.length, List.length_map]
        show (come pl th s1).lent.length < sizeLine
        exact sz_lt (by unfold mostL at hlt; omega)
      refine ⟨lv5, hl6, hsz6, ?_⟩
      have R7 := R6.addl (x := (pl, (come pl th s1).many + 1)) hl6 t6
      have f7 : Fr (sR d al sl ll) H6 (upd H6 ll (.lst (lv5 ++ [v6]))) := Fr.upd (by simp [sR])
      have f7' := (f5'.trans (Fr.of e6)).trans f7
      have q17 := (ofs_fr ((Fr.of e6).trans f7)) _ _ q15
      have q27 := (ofs_fr ((Fr.of e6).trans f7)) _ _ q25
      dsimp only
      generalize upd H6 ll (.lst (lv5 ++ [v6])) = H7 at *
      refine Pst.go (K := K) ?_
      refine pst_when (b := isW "place" wy) (tk_v (ed_eqS (ed_var rfl (.str _)) ed_cs hlw (by simp))) (fun hb2 => pst_of fun H8 e8 => ?_) fun hb2 => pst_of fun H8 e8 => ?_
      · rw [if_pos hb2] at hF
        have hth : th.length < mostL := by
          split at hF
          · assumption
          · cases hF
        rw [if_pos hth] at hF
        cases hF
        have R8 := R7.ex e8
        have f8 := f7'.trans (Fr.of e8)
        have q18 := e8 _ _ (ofs_ex _ _ q17)
        have q28 := e8 _ _ (ofs_ex _ _ q27)
        refine w_ret (w_tup (w_cons (w_tup (w_cons (w_c (w_cons (w_v rfl (w_cons (w_op (w_ev (v := .ref l) (ev_op (ev_var rfl) ev_c (rv_ixT (SqT.of q18) rfl)) fun H9 e9 => ?_))))))))))
        have R9 := R8.ex e9
        have f9 := f8.trans (Fr.of e9)
        refine w_lst (w_cons (w_dg rfl R9.ob rfl (w_nil ⟨by show 1 ≤ sizeLine; decide, fun p hp => ?_⟩)))
        have R10 := R9.ex (Ex.new (o := .lst [.int (((come pl th s1).many + 1 : Nat) : Int)]) hp)
        have f10 := f9.trans (Fr.of (Ex.new (o := .lst [.int (((come pl th s1).many + 1 : Nat) : Int)]) hp))
        refine ⟨l, p, nV th, [.int (((come pl th s1).many + 1 : Nat) : Int)], rfl, rfl, (Ex.new hp) _ _ (e9 _ _ q28), upd_same, ?_, fun p2 hp2 => w_nil ⟨by show 3 ≤ sizeLine; decide, fun q1 hq1 => w_cons (w_c (w_nil ⟨by show 2 ≤ sizeLine; decide, fun q hq => ?_⟩))⟩⟩
        · simp only [nV, List.length_map, List.length_cons, List.length_nil]
          exact sz_of (by unfold mostL at hth; omega)
        have R11 := R10.ex (Ex.new (o := .lst (nV th ++ [.int (((come pl th s1).many + 1 : Nat) : Int)])) hp2)
        have f11 := f10.trans (Fr.of (Ex.new (o := .lst (nV th ++ [.int (((come pl th s1).many + 1 : Nat) : Int)])) hp2))
        have R12 := R11.ex (Ex.new (o := .tup [.str "road", .int (pl : Int), .ref p2]) hq1)
        have f12 := f11.trans (Fr.of (Ex.new (o := .tup [.str "road", .int (pl : Int), .ref p2]) hq1))
        refine k q _ _ (R12.ex (Ex.new hq)) (f12.trans (Fr.of (Ex.new hq))) upd_same (offS f12 (muS R12) hq) ?_
        refine .road (ofs_get ((Ex.new hq) _ _ upd_same) (offS f11 (muS R11) hq1)) (ofs_get ((Ex.new hq) _ _ ((Ex.new hq1) _ _ ?_)) (offS f10 (muS R10) hp2))
        rw [upd_same]
        simp [nV]
      · rw [if_neg (by rw [hb2]; decide)] at hF
        cases hnv : (come pl th s1).nums[pl]? with
        | none => rw [hnv] at hF; cases hF
        | some vn =>
        rw [hnv] at hF
        dsimp only at hF
        have hq : (come pl th s1).nums.length < mostL := by
          simp only [freshF] at hF
          split at hF
          · cases hF
          · rename_i o s4 h6
            split at h6
            · assumption
            · cases h6
        simp only [freshF] at hF
        rw [if_pos hq] at hF
        cases hF
        have R8 := R7.ex e8
        have f8 := f7'.trans (Fr.of e8)
        refine w_ret (w_tup (w_cons (w_tup (w_cons (w_c (w_cons (w_call (w_cons (w_v rfl (w_cons (w_d (K := K) (d := .int (vn : Int)) ?_ fun v9 H9 e9 t9 => w_nil ?_)))))))))))
        · exact ed_ixL (i := (pl : Int)) (edr_ev (ev_dg rfl R8.ob rfl) R8.nums (nV_td _)) (ed_var rfl (.int _)) (atI_nat (by rw [nD, List.getElem?_map, hnv] <;> rfl))
        cases t9
        refine ⟨d, al, sl, ll, pw0, yw0, _, vn, rfl, R8.ex e9, hq, fun H10 R10 f10 => w_cons (w_lst (w_nil ⟨Nat.zero_le _, fun p hp => w_nil ⟨by show 3 ≤ sizeLine; decide, fun q1 hq1 => w_cons (w_v rfl (w_nil ⟨by show 2 ≤ sizeLine; decide, fun q hq => ?_⟩))⟩⟩))⟩
        have f10' := (f8.trans (Fr.of e9)).trans (f10.sub (S' := sR d al sl ll) (by simp [sR]))
        have R11 := R10.ex (Ex.new (o := .lst []) hp)
        have f11 := f10'.trans (Fr.of (Ex.new (o := .lst []) hp))
        have R12 := R11.ex (Ex.new (o := .tup [.str "road", .int ((come pl th s1).nums.length : Int), .ref p]) hq1)
        have f12 := f11.trans (Fr.of (Ex.new (o := .tup [.str "road", .int ((come pl th s1).nums.length : Int), .ref p]) hq1))
        refine k q _ _ (R12.ex (Ex.new hq)) (f12.trans (Fr.of (Ex.new hq))) upd_same (offS f12 (muS R12) hq) ?_
        exact .road (th := []) (ofs_get ((Ex.new hq) _ _ upd_same) (offS f11 (muS R11) hq1)) (ofs_get ((Ex.new hq) _ _ ((Ex.new hq1) _ _ upd_same)) (offS f10' (muS R10) hp))
  · refine w_asg (w_if (w_t (K := K) (b := isLent wy) (tk_v (ed_inT (ed_var rfl (.str _)) (ed_tup (eda_cons ed_cs (eda_cons ed_cs eda_nil)) (by simp)) rfl rfl)) fun H5 e5 => ?_))
    have R5 := hR.ex e5
    cases hil : isLent wy with
    | false =>
      rw [hil] at hfd
      simp at hfd
      obtain ⟨rfl, rfl⟩ := hfd
      exact iteF (w_c (hN _ _ ⟨_, rfl, .none, R5, Fr.of e5⟩))
    | true =>
      rw [hil] at hfd
      simp at hfd
      refine iteT (w_call (w_cons (w_v rfl (w_cons (w_v rfl (w_cons (w_v rfl (w_nil ⟨d, al, sl, ll, pw0, yw0, tv, fv, s, s1, t, f, fd, rfl, R5, tt.ex e5, frR (Fr.of e5), hfd, fun x H6 R6 f6 t6 => ?_⟩))))))))
      exact hN _ _ ⟨_, rfl, t6, R6, (Fr.of e5).trans f6.r4⟩
end
end Hw

set_option maxRecDepth 100000
set_option maxHeartbeats 4000000
/-! RL4: works done by the law -/
namespace Hw
open PySem PySem.Spec PyProof.Rows L2 Evl
local macro_rules | `(tactic| walk_at "dd") => `(tactic| first | rfl | decide | (simp; done) | omega)
local macro_rules | `(tactic| walk_at "td") => `(tactic| first | assumption | exact Td.int _ | exact Td.bl _ | exact Td.str _ | exact Td.non | exact Td.tup (by assumption) (by assumption))
local macro_rules | `(tactic| walk_at "ev") => `(tactic| first
  | exact ed_ci | exact ed_cs | exact ed_cb | exact ed_cn
  | (apply ed_cg; assumption)
  | (apply ed_var; (rfl); (walk_at "td"))
  | (apply ed_ixT; (walk_at "ev"); (walk_at "ev"); (first | rfl | assumption))
  | (apply ed_rowI; (rfl); (assumption); (walk_at "ev"); (rfl))
  | (apply ed_ixL; (apply EvDL.rd; walk_at "edl"); (walk_at "ev"); (rfl))
  | (apply ed_intb; (walk_at "ev"))
  | (apply ed_len; walk_at "ev")
  | (apply ed_lenV; (apply ev_rowR; (rfl); (assumption); (walk_at "ev"); (rfl)); (assumption))
  | (apply ed_Ii; (walk_at "ev"); (walk_at "ev"); (walk_at "cc"))
  | (apply ed_isi; (walk_at "ev"); (rfl))
  | (apply ed_I0i; (walk_at "ev"); (walk_at "ev"))
  | (apply ed_I0b; (walk_at "ev"); (walk_at "ev"))
  | (apply ed_eqi; (walk_at "ev"); (walk_at "ev"))
  | (apply ed_nei; (walk_at "ev"); (walk_at "ev"))
  | (apply ed_andF; walk_at "ev")
  | (apply ed_andV; (walk_at "ev"); (intro _; walk_at "ev"))
  | (apply ed_orT; walk_at "ev")
  | (apply ed_orV; (walk_at "ev"); (intro _; walk_at "ev"))
  | (apply ed_notT; walk_at "ev")
  | (apply ed_notF; walk_at "ev")
  | (apply ed_notV; walk_at "ev")
  | (apply ed_chain; (walk_at "ev"); (walk_at "ev"); (intro _; walk_at "ev"))
  | (apply ed_eqS; (walk_at "ev"); (walk_at "ev"); (walk_at "bb"); (walk_at "bb"))
  | (apply ed_neS; (walk_at "ev"); (walk_at "ev"); (walk_at "bb"); (walk_at "bb"))
  | (apply ed_inT; (walk_at "ev"); (walk_at "ev"); (rfl); (rfl))
  | (apply ed_niT; (walk_at "ev"); (walk_at "ev"); (rfl); (rfl))
  | (apply ed_tup; (walk_at "eva"); (walk_at "bb"))
  | (apply ed_sl; (walk_at "ev"); (walk_at "evo"); (walk_at "evo"))
  | (apply ed_eqN; (apply EvDL.rd; walk_at "edl"); (walk_at "edl"); (walk_at "bb"))
  | (apply ed_neN; (apply EvDL.rd; walk_at "edl"); (walk_at "edl"); (walk_at "bb"))
  | (apply ed_ixL; (apply edr_var; (rfl); (assumption); (assumption)); (walk_at "ev"); (first | rfl | assumption))
  | (apply ed_lenL; (apply edr_var; (rfl); (assumption); (assumption)))
  | (apply ed_call; (walk_at "eva"); (walk_at "post")))
local macro_rules | `(tactic| walk_at "edl") => `(tactic| first
  | assumption
  | (apply edl_lst; (walk_at "eva"); (walk_at "bb")))
local macro_rules | `(tactic| walk_at "eva") => `(tactic| first
  | exact eda_nil
  | (apply eda_cons; (walk_at "ev"); (walk_at "eva")))
local macro_rules | `(tactic| walk_at "evo") => `(tactic| first
  | exact eok_none
  | (apply eok_some; walk_at "ev"))
local macro_rules | `(tactic| walk_at "bb") => `(tactic| first | rfl | assumption | (simp; done) | (simp; omega) | decide +kernel)
local macro_rules | `(tactic| walk_at "et") => `(tactic| first
  | exact tk_yes
  | (apply tk_andF; walk_at "et")
  | (apply tk_and; (walk_at "et"); (intro _; walk_at "et"))
  | (apply tk_orT; walk_at "et")
  | (apply tk_or; (walk_at "et"); (intro _; walk_at "et"))
  | (apply tk_notT; walk_at "et")
  | (apply tk_notF; walk_at "et")
  | (apply tk_not; walk_at "et")
  | (apply tk_v; walk_at "ev")
  | (apply tk_vB; walk_at "ev"))
local macro_rules | `(tactic| walk_at "if") => `(tactic| first
  | (apply pst_whenF; (walk_at "et"); (walk_at "bb"))
  | (apply pst_whenT; (walk_at "et"); (walk_at "bb")))
local macro_rules | `(tactic| walk_at "post") => `(tactic| first | assumption | exact ⟨_, _, rfl, rfl⟩ | exact ⟨_, _, _, _, rfl, by omega, by omega, rfl⟩ | exact ⟨_, _, _, 0, rfl, by omega, by omega, rfl⟩)
local macro_rules | `(tactic| walk_at "cc") => `(tactic| first | assumption | decide | omega | (refine ⟨?_, ?_⟩ <;> first | decide | omega) | (exact Or.inl (by constructor <;> omega)))

/-- all that the law's run leans on -/
structure LawW (K : PySem.W.Frag) (p : List Wk) (ys : List (List Str)) (d al sl ll : Addr) (pw0 yw0 : V) (s : Sg) (H : Hp) : Prop where
  run : LawAt K d al sl ll pw0 yw0 s H
  tp : Td K H pw0 (encP p)
  ty : Td K H yw0 (encY ys)
/-- from one state of the law's run to a later one -/
def NxL (d al sl ll ll' : Addr) (H H' : Hp) : Prop := Fr (sR d al sl ll) H H' ∧ (ll' ∈ sR d al sl ll ∨ H ll' = none)
section
variable {K : PySem.W.Frag} {H H' H1 H2 : Hp} {p : List Wk} {ys : List (List Str)} {d al sl ll ll1 ll2 : Addr} {pw0 yw0 fv : V} {s s' s1 : Sg} {f : Fra}
theorem LawW.ex (h : LawW K p ys d al sl ll pw0 yw0 s H) (e : Ex H H') : LawW K p ys d al sl ll pw0 yw0 s H' := ⟨h.run.ex e, h.tp.ex e, h.ty.ex e⟩
theorem LawW.fr (h : LawW K p ys d al sl ll pw0 yw0 s H) (f : Fr (sR d al sl ll) H H') (R : LawAt K d al sl ll pw0 yw0 s' H') : LawW K p ys d al sl ll pw0 yw0 s' H' := ⟨R, h.tp.kp (h.run.keep f), h.ty.kp (h.run.keep f)⟩
theorem NxL.refl : NxL d al sl ll ll H H := ⟨Fr.refl, .inl (by simp [sR])⟩
theorem NxL.of (e : Ex H H1) : NxL d al sl ll ll H H1 := ⟨Fr.of e, .inl (by simp [sR])⟩
theorem NxL.fr (f : Fr (sR d al sl ll) H H1) : NxL d al sl ll ll H H1 := ⟨f, .inl (by simp [sR])⟩
theorem NxL.trans (a : NxL d al sl ll ll1 H H1) (b : NxL d al sl ll1 ll2 H1 H2) : NxL d al sl ll ll2 H H2 := by
  have h0 : ∀ q o, q ∉ sR d al sl ll → H q = some o → q ∉ sR d al sl ll1 := fun q o hq h hm => by
    have hm' : q = d ∨ q = al ∨ q = sl ∨ q = ll1 := by simpa [sR] using hm
    simp only [sR, List.mem_cons, List.not_mem_nil, or_false, not_or] at hq
    rcases hm' with e | e | e | e
    · exact hq.1 e
    · exact hq.2.1 e
    · exact hq.2.2.1 e
    · rcases a.2 with e2 | e2
      · rw [← e] at e2
        simp only [sR, List.mem_cons, List.not_mem_nil, or_false] at e2
        rcases e2 with e2 | e2 | e2 | e2
        · exact hq.1 e2
        · exact hq.2.1 e2
        · exact hq.2.2.1 e2
        · exact hq.2.2.2 e2
      · rw [e, e2] at h; cases h
  refine ⟨fun q o hq h => b.1 q o (h0 q o hq h) (a.1 q o hq h), ?_⟩
  by_cases hs : ll2 ∈ sR d al sl ll
  · exact .inl hs
  · refine .inr ?_
    cases hq : H ll2 with
    | none => rfl
    | some o =>
      rcases b.2 with e | e
      · exact absurd e (h0 ll2 o hs hq)
      · have := a.1 ll2 o hs hq
        rw [e] at this
        cases this
theorem NxL.ex (a : NxL d al sl ll ll1 H H1) (e : Ex H1 H2) : NxL d al sl ll ll1 H H2 := ⟨a.1.trans (Fr.of e), a.2⟩
theorem LFra.nx (h : LFra K (Ofs (sR d al sl ll) H) fv f) (a : NxL d al sl ll ll1 H H1) : LFra K (Ofs (sR d al sl ll1) H1) fv f := h.ex fun q o hx => by
  unfold Ofs at hx
  split at hx
  · cases hx
  · rename_i hq
    refine ofs_get (a.1 q o hq hx) fun hm => ?_
    have hm' : q = d ∨ q = al ∨ q = sl ∨ q = ll1 := by simpa [sR] using hm
    have hq' := hq
    simp only [sR, List.mem_cons, List.not_mem_nil, or_false, not_or] at hq'
    rcases hm' with e | e | e | e
    · exact hq'.1 e
    · exact hq'.2.1 e
    · exact hq'.2.2.1 e
    · rcases a.2 with e2 | e2
      · rw [← e] at e2
        exact hq e2
      · rw [e, e2] at hx; cases hx
/-- what is handed, and what is laid back, thing by thing -/
inductive HdBs (K : PySem.W.Frag) (F : Hp) : List V → List Hd → List (Option (Nat × Nat)) → Prop
  | nil : HdBs K F [] [] []
  | cons {q : Addr} {hv : V} {vs : List V} {h : Hd} {hs : List Hd} {b : Option (Nat × Nat)} {bs : List (Option (Nat × Nat))} : F q = some (.tup [hv, bV b]) → LHd K F hv h → (∀ pl o, b = some (pl, o) → h = .road o []) → HdBs K F vs hs bs → HdBs K F (.ref q :: vs) (h :: hs) (b :: bs)
theorem HdBs.ex {F F' : Hp} (e : Ex F F') : ∀ {vs : List V} {hs : List Hd} {bs : List (Option (Nat × Nat))}, HdBs K F vs hs bs → HdBs K F' vs hs bs
  | _, _, _, .nil => .nil
  | _, _, _, .cons a b c r => .cons (e _ _ a) (b.ex e) c (HdBs.ex e r)
theorem HdBs.snoc {F : Hp} {q : Addr} {hv : V} {h : Hd} {b : Option (Nat × Nat)} (g1 : F q = some (.tup [hv, bV b])) (g2 : LHd K F hv h) (g3 : ∀ pl o, b = some (pl, o) → h = .road o []) : ∀ {vs : List V} {hs : List Hd} {bs : List (Option (Nat × Nat))}, HdBs K F vs hs bs → HdBs K F (vs ++ [.ref q]) (hs ++ [h]) (bs ++ [b])
  | _, _, _, .nil => .cons g1 g2 g3 .nil
  | _, _, _, .cons a b c r => .cons a b c (HdBs.snoc g1 g2 g3 r)
theorem HdBs.get {F : Hp} : ∀ {vs : List V} {hs : List Hd} {bs : List (Option (Nat × Nat))} {i : Nat} {x : V}, HdBs K F vs hs bs → vs[i]? = some x → ∃ q hv h b, x = .ref q ∧ F q = some (.tup [hv, bV b]) ∧ LHd K F hv h ∧ (∀ pl o, b = some (pl, o) → h = .road o []) ∧ bs[i]? = some b
  | _, _, _, _, _, .nil, e => by simp at e
  | _, _, _, 0, _, .cons a b c r, e => by simp at e; subst e; exact ⟨_, _, _, _, rfl, a, b, c, rfl⟩
  | _, _, _, i + 1, _, .cons a b c r, e => by simp at e; simpa using HdBs.get r e
theorem HdBs.len {F : Hp} : ∀ {vs : List V} {hs : List Hd} {bs : List (Option (Nat × Nat))}, HdBs K F vs hs bs → vs.length = hs.length
  | _, _, _, .nil => rfl
  | _, _, _, .cons _ _ _ r => by simp [HdBs.len r]
/-- the firsts of them -/
theorem HdBs.firsts {F : Hp} : ∀ {vs : List V} {hs : List Hd} {bs : List (Option (Nat × Nat))}, HdBs K F vs hs bs → ∃ us : List V, LHds K F us hs ∧ us.length = vs.length ∧ ∀ (i : Nat) (x u : V), vs[i]? = some x → us[i]? = some u → ∃ (q : Addr) (y : V), x = .ref q ∧ F q = some (.tup [u, y])
  | _, _, _, .nil => ⟨[], .nil, rfl, fun i x u h => by simp at h⟩
  | _, _, _, .cons a b c r => by
    obtain ⟨us, h1, h2, h3⟩ := HdBs.firsts r
    refine ⟨_ :: us, .cons b h1, by simp [h2], fun i x u hx hu => ?_⟩
    cases i with
    | zero =>
      simp at hx hu
      subst hx hu
      exact ⟨_, _, rfl, a⟩
    | succ i =>
      simp at hx hu
      exact h3 i x u hx hu
end
theorem handF_ext {M : Nat} {t : Th} {w : Str} {f : Fra} {s s' : Sg} {hd : Hd} {b : Option (Nat × Nat)} (h : handF M t w f s = some (hd, b, s')) : ∃ e, s'.lent = s.lent ++ e := by
  unfold handF at h
  cases hfd : (if isLent w = true then findF M t f s else some (none, s)) with
  | none => rw [hfd] at h; cases h
  | some x =>
    obtain ⟨fd, s1⟩ := x
    rw [hfd] at h
    have h1 : s1.lent = s.lent := by
      split at hfd
      · exact (findF_lent hfd).1
      · cases hfd; rfl
    dsimp only at h
    split at h
    · cases h; exact ⟨[], by simp [h1]⟩
    · cases fd with
      | none =>
        dsimp only at h
        split at h
        · cases h
        · rename_i v s2 h2
          have h3 := (numF_lent h2).1
          simp only [freshF] at h
          split at h
          · cases h
          · rename_i pl s3 h4
            split at h4
            · cases h4
              cases h
              exact ⟨[], by simp [h3, h1]⟩
            · cases h4
      | some pt =>
        obtain ⟨pl, th⟩ := pt
        dsimp only at h
        split at h
        · have h5 : ((come pl th s1).lent ++ [(pl, (come pl th s1).many + 1)]) = s.lent ++ [(pl, (come pl th s1).many + 1)] := by
            rw [show (come pl th s1).lent = s1.lent from rfl, h1]
          split at h
          · split at h
            · cases h
              exact ⟨_, h5⟩
            · cases h
          · split at h
            · cases h
            · simp only [freshF] at h
              split at h
              · cases h
              · rename_i o s4 h6
                split at h6
                · cases h6
                  cases h
                  exact ⟨_, h5⟩
                · cases h6
        · cases h
theorem handAll_ext {M : Nat} {f : Fra} : ∀ {ts : List Th} {ws : List Str} {s s' : Sg} {hs : List Hd} {bs : List (Option (Nat × Nat))}, handAll M ts ws f s = some (hs, bs, s') → ∃ e, s'.lent = s.lent ++ e
  | [], ws, s, s', hs, bs, h => by simp only [handAll] at h; cases h; exact ⟨[], by simp⟩
  | t :: ts, [], s, s', hs, bs, h => by simp [handAll] at h
  | t :: ts, w :: ws, s, s', hs, bs, h => by
    simp only [handAll] at h
    cases h1 : handF M t w f s with
    | none => rw [h1] at h; cases h
    | some z =>
      obtain ⟨hd, b, s1⟩ := z
      rw [h1] at h
      dsimp only at h
      cases h2 : handAll M ts ws f s1 with
      | none => rw [h2] at h; cases h
      | some y =>
        obtain ⟨a1, a2, a3⟩ := y
        rw [h2] at h
        cases h
        obtain ⟨e1, q1⟩ := handF_ext h1
        obtain ⟨e2, q2⟩ := handAll_ext h2
        exact ⟨e1 ++ e2, by rw [q2, q1, List.append_assoc]⟩
section
variable {K : PySem.W.Frag} {σ : L2.St} {H H' : Hp} {D : Ends} {tu tz : TS} {te tl ta tb tv : TE} {t : TA} {n j : Nat} {Q : VK} {xs us : List V} {bk : Addr} {vs : List Nat}
/-- [e for x in a list], e known by value -/
theorem w_lcV (hv : σ[n]? = some (some (.ref bk))) (hx : H bk = some (.lst xs)) (hl : us.length = xs.length) (hz : xs.length ≤ 40000) (hw : ∀ x, wipe ((wipe σ vs).set j (some x)) vs = wipe σ vs)
    (he : ∀ (i : Nat) (x u : V) H1, xs[i]? = some x → us[i]? = some u → Ex H H1 → Ev te ((wipe σ vs).set j (some x)) H1 u)
    (k : ∀ p H1, H p = none → Ex H H1 → H1 p = some (.lst us) → Q (.ref p) H1) : tLc (iList K (tVar n)) (gName j) tYes te vs σ H Q := by
  refine ⟨.ref bk, hv, bk, rfl, ⟨xs, SqL.of hx⟩, fun Dl hD => ?_⟩
  refine lc_list (xs := xs) (fun i H' => Ex H H' ∧ H' Dl = some (.lst (us.take i))) ⟨Ex.new hD, by rw [List.take_zero]; exact upd_same⟩ (fun i H' _ c => SqL.of (c.1 _ _ hx)) (fun i x H' hi c => ⟨hw x, ?_⟩) (fun H' c => ?_)
  · have hil : i < xs.length := (List.getElem?_eq_some_iff.mp hi).1
    have hu : us[i]? = some us[i] := List.getElem?_eq_getElem (by omega)
    unfold tYes
    dsimp only
    rw [if_pos rfl]
    refine he i x us[i] H' hi hu c.1 H' (Ex.refl _) _ fun H2 e2 => ⟨us.take i, e2 _ _ c.2, ?_, Ex.mut (c.1.trans e2) hD, ?_⟩
    · rw [List.length_take]
      exact sz_lt (by omega)
    · rw [take_snoc hu]
      exact upd_same
  · rw [← hl, List.take_length] at c
    exact k Dl H' hD c.1 c.2
theorem w_gsub {td ti : TE} {r : V → V → V → Hp → (Hp → Prop) → Prop} {v : V} {R : L2.St → Hp → Prop} (h : td σ H fun x H1 => ti σ H1 fun i H2 => r x i v H2 fun H3 => R σ H3) : gSub td ti r v σ H R := h
theorem w_cb {r : List V → Hp → VK → Prop} (h : t σ H fun vs H1 => r vs H1 Q) : tCB r t σ H Q := h
theorem w_unp3 {i j l : Nat} (h : te σ H fun v H1 => ∃ a x y z, v = .ref a ∧ SqT K H1 a [x, y, z] ∧ D.nx (((σ.set i (some x)).set j (some y)).set l (some z)) H1) :
    tAsg te (gTup K 3 (gCons (gName i) (gCons (gName j) (gCons (gName l) gNil)))) D σ H := by
  have e : (fun (v : V) (H1 : Hp) => gTup K 3 (gCons (gName i) (gCons (gName j) (gCons (gName l) gNil))) v σ H1 D.nx) = fun v H1 => ∃ a x y z, v = .ref a ∧ SqT K H1 a [x, y, z] ∧ D.nx (((σ.set i (some x)).set j (some y)).set l (some z)) H1 := by
    funext v H1
    refine propext ⟨fun ⟨a, xs, h1, h2, h3, x1, r1, e1, x2, r2, e2, x3, r3, e3, e4, h5⟩ => ?_, fun ⟨a, x, y, z, h1, h2, h3⟩ => ⟨a, _, h1, h2, rfl, _, _, rfl, _, _, rfl, _, _, rfl, rfl, h3⟩⟩
    subst e1 e2 e3 e4
    exact ⟨a, x1, x2, x3, h1, h2, h5⟩
  show te σ H _
  rw [e]
  exact h
end
def spLGoes (K : PySem.W.Frag) (p : List Wk) (ys : List (List Str)) (M n : Nat) : Sp := fun vs H Q _ => ∃ (d al sl ll : Addr) (pw0 yw0 bv fv : V) (s s' : Sg) (body : List Stm) (f : Fra), vs = [.ref d, bv, fv] ∧ LawW K p ys d al sl ll pw0 yw0 s H ∧ Td K H bv (.tuple (encB body)) ∧ calOk ys body ∧ LFra K (Ofs (sR d al sl ll) H) fv f ∧ goF (stepF p ys M n f) body s = some s' ∧
  ∀ ll' H', LawAt K d al sl ll' pw0 yw0 s' H' → NxL d al sl ll ll' H H' → Q .non H'
def spLDoes (K : PySem.W.Frag) (p : List Wk) (ys : List (List Str)) (M n : Nat) : Sp := fun vs H Q _ => ∃ (d al sl ll : Addr) (pw0 yw0 : V) (s s2 s' : Sg) (at_ : Nat) (wk : Wk) (os : List Nat) (hs : List Hd) (lp : Addr) (us : List V), vs = [.ref d, .int (at_ : Int), .ref lp] ∧ LawW K p ys d al sl ll pw0 yw0 s H ∧ p[at_]? = some wk ∧
  H lp = some (.lst us) ∧ lp ∉ sR d al sl ll ∧ LHds K (Ofs (sR d al sl ll) H) us hs ∧ ownF wk.owns s = some (os, s2) ∧ goF (stepF p ys M n (.mk os hs)) wk.body s2 = some s' ∧
  ∀ ll' H', LawAt K d al sl ll' pw0 yw0 s' H' → NxL d al sl ll ll' H H' → Q .non H'
theorem ownF_len : ∀ {i : Nat} {s s1 : Sg} {os1 : List Nat}, ownF i s = some (os1, s1) → os1.length = i := by
  intro i
  induction i with
  | zero => intro s s1 os1 h; simp only [ownF] at h; cases h; rfl
  | succ i ih =>
    intro s s1 os1 h
    simp only [ownF] at h
    split at h
    · cases h
    · rename_i a b h4
      split at h
      · cases h
      · cases h
        simp [ih h4]
section
variable {P : Program} {w : World} {K : PySem.W.Frag} {mg : Str → Option Value} {base : Heap} (T : Tx K mg)
include T
theorem ok_ldoes {p : List Wk} {ys : List (List Str)} {M n lv : Nat} (hl : 1 ≤ lv) (hp : PrOk p ys) (GS : Fn__law_goes T P w base CX0 lv (spLGoes K p ys M n)) (GF : Fn__law_new T P w base CX0 1 (spLNew K)) : Fn__law_does T P w base CX0 (lv + 1) (spLDoes K p ys M n) := by
  have G__law_goes := GS
  have G__law_new := GF
  refine T.F__law_does.ok sc__law_does (fun vs H Q E h => by obtain ⟨_, _, _, _, _, _, _, _, _, _, _, _, _, _, _, rfl, _⟩ := h; rfl) fun cdv A outer s0 H vs Q E hr h => ?_
  obtain ⟨d, al, sl, ll, pw0, yw0, s, s2, s', at_, wk, os, hs, lp, us, rfl, hW, hwk, hlp, hlpo, hph, hown, hgo, k⟩ := h
  refine ⟨_, (pss_cons (ps_asg (pe_ix (kix_tup K) (pe_dget (hu_of hr) (pv 0) pe_str (fun _ _ => rfl)) (pv 1) (fun _ _ => rfl)) (kpg_tup K rfl (pgs_cons (pg_name (i := 3) sc__law_does.nd rfl (Or.inl rfl)) (pgs_cons (pg_name (i := 4) sc__law_does.nd rfl (Or.inl rfl)) (pgs_cons (pg_name (i := 5) sc__law_does.nd rfl (Or.inl rfl)) pgs_nil)))))
  (pss_one (ps_expr (pe_call G__law_goes (hr.mono (by omega)) (by rfl) T.g__law_goes T.k__law_goes T.bd__law_goes .nil pass0 (pa_cons (pv 0) (pa_cons (pv 5) (pa_cons (pe_tup (pa_cons (pe_lc (own := [("_law_k", 6)]) (g := gName 6) (tt := tYes) rfl sc__law_does.nd (pi_range1 rfl T.b_range (pa_cons (pv 4) pa_nil)) (blkOk_by (N := ["_law_s", "_law_at", "_law_handed_here", "_law_params", "_law_owns", "_law_body_here", "_law_k"]) (sc := defScope s__law_does) (by decide +kernel)) (fun _ _ _ _ _ => (pg_name (i := 6) sc__law_does.nd rfl (Or.inl rfl))) (fun _ _ _ _ _ => pts_nil) (fun _ _ _ _ _ => (pe_call G__law_new (hr.mono (by omega)) (by rfl) T.g__law_new T.k__law_new T.bd__law_new .nil pass0 (pa_cons (pv 0) (pa_cons pe_int pa_nil))))) (pa_cons (pv 2) pa_nil))) pa_nil))))))), ?_⟩
  have hwp := hp.h1 wk (List.mem_of_getElem? hwk)
  have hpa : atI (p.map encW) (at_ : Int) = some (.tuple [.int (wk.params : Int), .int (wk.owns : Int), .tuple (encB wk.body)]) := atI_nat (by rw [List.getElem?_map, hwk] <;> rfl)
  have tp := hW.tp
  unfold encP at tp
  refine w_seq (w_unp3 (w_d (K := K) (d := .tuple [.int (wk.params : Int), .int (wk.owns : Int), .tuple (encB wk.body)]) (ed_ixT (i := (at_ : Int)) (ed_dg rfl hW.run.ob rfl tp) (ed_var rfl (.int _)) hpa) fun v1 H1 e1 t1 => ?_))
  obtain ⟨a1, xs1, rfl, ha1, all1⟩ := t1.tup_inv
  obtain _ | ⟨u1, _ | ⟨u2, _ | ⟨u3, _ | _⟩⟩⟩ := all1
  cases u1
  cases u2
  rename_i bv
  refine ⟨a1, _, _, _, rfl, ha1, ?_⟩
  have W1 := hW.ex e1
  dsimp only
  refine w_drop (w_call (w_cons (w_v rfl (w_cons (w_v rfl (w_cons (w_tup (w_cons (w_lcR (K := K) (n := wk.owns) (eda_cons (ed_var rfl (.int _)) eda_nil) (by omega) (fun _ => rfl) (fun q i H2 => H1 q = none ∧ ∃ os1 s1, ownF i s = some (os1, s1) ∧ H2 q = some (.lst (nV os1)) ∧ LawAt K d al sl ll pw0 yw0 s1 H2 ∧ Fr [q, al] H1 H2) ?_ ?_ ?_)))))))))
  · intro H2 q e2 hq
    exact ⟨fresh_back e2 hq, [], s, rfl, upd_same, (W1.run.ex e2).ex (Ex.new hq), Fr.of (e2.trans (Ex.new hq))⟩
  · rintro q i H2 hi ⟨hq, os1, s1, h1, h2, R1, f1⟩
    obtain ⟨os2, s2', h3⟩ := ownF_less (i := i + 1) (by omega) hown
    have h3' := h3
    simp only [ownF, h1, freshF] at h3
    have hn : s1.nums.length < mostL := by
      split at h3
      · cases h3
      · rename_i o s3 h4
        split at h4
        · assumption
        · cases h4
    rw [if_pos hn] at h3
    cases h3
    refine w_call (w_cons (w_v rfl (w_cons (w_c (w_nil ⟨d, al, sl, ll, pw0, yw0, s1, 0, rfl, R1, hn, fun H3 R3 f3 => ?_⟩)))))
    have hqn : q ≠ al := fun e => by
      have := W1.run.nums
      rw [← e, hq] at this
      cases this
    have hq2 : H3 q = some (.lst (nV os1)) := f3 _ _ (by simpa using hqn) h2
    refine ⟨_, hq2, ?_, hq, _, _, h3', ?_, ?_, (f1.trans (f3.sub (by simp))).trans (Fr.upd (by simp))⟩
    · rw [nV, List.length_map, ownF_len h1]
      exact sz_lt (by omega)
    · rw [upd_same]
      simp [nV]
    · exact R3.updm hq2 True.intro (W1.run.off hq)
  · rintro q H2 ⟨hq, os1, s1, h1, h2, R1, f1⟩
    rw [hown] at h1
    cases h1
    have nqs := W1.run.off hq
    have nlq : lp ≠ q := fun e => by rw [e] at hlp; have := e1 _ _ hlp; rw [hq] at this; cases this
    have nln : lp ≠ al := fun e => hlpo (by rw [e]; simp [sR])
    have f1' : Fr (sR d al sl ll) H H2 := (Fr.of e1).trans ((f1.sub (S' := q :: sR d al sl ll) (by simp [sR])).fresh hq)
    have W2 := hW.fr f1' R1
    have tb2 := u3.kp (W1.run.keep ((f1.sub (S' := q :: sR d al sl ll) (by simp [sR])).fresh hq))
    refine w_cons (w_v rfl (w_nil ⟨by show 2 ≤ sizeLine; decide, fun p2 hp2 => w_nil ?_⟩))
    have e3 : Ex H2 (upd H2 p2 (.tup [.ref q, .ref lp])) := Ex.new hp2
    refine ⟨d, al, sl, ll, pw0, yw0, bv, .ref p2, s2, s', wk.body, .mk os hs, rfl, W2.ex e3, tb2.ex e3, hwp.2, .mk (ofs_get upd_same (R1.off hp2)) (ofs_get (e3 _ _ h2) nqs) (ofs_get (e3 _ _ (f1' _ _ hlpo hlp)) hlpo) (hph.ex (ofs_fr (f1'.trans (Fr.of e3)))), hgo, fun ll' H' R' n' => ?_⟩
    exact k ll' H' R' ((NxL.fr (f1'.trans (Fr.of e3))).trans n')
end
end Hw

set_option maxRecDepth 100000
set_option maxHeartbeats 4000000
/-! RL5: steps by the law -/
namespace Hw
open PySem PySem.Spec PyProof.Rows L2 Evl
local macro_rules | `(tactic| walk_at "dd") => `(tactic| first | rfl | decide | (simp; done) | omega)
local macro_rules | `(tactic| walk_at "td") => `(tactic| first | assumption | exact Td.int _ | exact Td.bl _ | exact Td.str _ | exact Td.non | exact Td.tup (by assumption) (by assumption))
local macro_rules | `(tactic| walk_at "ev") => `(tactic| first
  | exact ed_ci | exact ed_cs | exact ed_cb | exact ed_cn
  | (apply ed_cg; assumption)
  | (apply ed_var; (rfl); (walk_at "td"))
  | (apply ed_ixT; (walk_at "ev"); (walk_at "ev"); (first | rfl | assumption))
  | (apply ed_rowI; (rfl); (assumption); (walk_at "ev"); (rfl))
  | (apply ed_ixL; (apply EvDL.rd; walk_at "edl"); (walk_at "ev"); (rfl))
  | (apply ed_intb; (walk_at "ev"))
  | (apply ed_len; walk_at "ev")
  | (apply ed_lenV; (apply ev_rowR; (rfl); (assumption); (walk_at "ev"); (rfl)); (assumption))
  | (apply ed_Ii; (walk_at "ev"); (walk_at "ev"); (walk_at "cc"))
  | (apply ed_isi; (walk_at "ev"); (rfl))
  | (apply ed_I0i; (walk_at "ev"); (walk_at "ev"))
  | (apply ed_I0b; (walk_at "ev"); (walk_at "ev"))
  | (apply ed_eqi; (walk_at "ev"); (walk_at "ev"))
  | (apply ed_nei; (walk_at "ev"); (walk_at "ev"))
  | (apply ed_andF; walk_at "ev")
  | (apply ed_andV; (walk_at "ev"); (intro _; walk_at "ev"))
  | (apply ed_orT; walk_at "ev")
  | (apply ed_orV; (walk_at "ev"); (intro _; walk_at "ev"))
  | (apply ed_notT; walk_at "ev")
  | (apply ed_notF; walk_at "ev")
  | (apply ed_notV; walk_at "ev")
  | (apply ed_chain; (walk_at "ev"); (walk_at "ev"); (intro _; walk_at "ev"))
  | (apply ed_eqS; (walk_at "ev"); (walk_at "ev"); (walk_at "bb"); (walk_at "bb"))
  | (apply ed_neS; (walk_at "ev"); (walk_at "ev"); (walk_at "bb"); (walk_at "bb"))
  | (apply ed_inT; (walk_at "ev"); (walk_at "ev"); (rfl); (rfl))
  | (apply ed_niT; (walk_at "ev"); (walk_at "ev"); (rfl); (rfl))
  | (apply ed_tup; (walk_at "eva"); (walk_at "bb"))
  | (apply ed_sl; (walk_at "ev"); (walk_at "evo"); (walk_at "evo"))
  | (apply ed_eqN; (apply EvDL.rd; walk_at "edl"); (walk_at "edl"); (walk_at "bb"))
  | (apply ed_neN; (apply EvDL.rd; walk_at "edl"); (walk_at "edl"); (walk_at "bb"))
  | (apply ed_ixL; (apply edr_var; (rfl); (assumption); (assumption)); (walk_at "ev"); (first | rfl | assumption))
  | (apply ed_lenL; (apply edr_var; (rfl); (assumption); (assumption)))
  | (apply ed_call; (walk_at "eva"); (walk_at "post")))
local macro_rules | `(tactic| walk_at "edl") => `(tactic| first
  | assumption
  | (apply edl_lst; (walk_at "eva"); (walk_at "bb")))
local macro_rules | `(tactic| walk_at "eva") => `(tactic| first
  | exact eda_nil
  | (apply eda_cons; (walk_at "ev"); (walk_at "eva")))
local macro_rules | `(tactic| walk_at "evo") => `(tactic| first
  | exact eok_none
  | (apply eok_some; walk_at "ev"))
local macro_rules | `(tactic| walk_at "bb") => `(tactic| first | rfl | assumption | (simp; done) | (simp; omega) | decide +kernel)
local macro_rules | `(tactic| walk_at "et") => `(tactic| first
  | exact tk_yes
  | (apply tk_andF; walk_at "et")
  | (apply tk_and; (walk_at "et"); (intro _; walk_at "et"))
  | (apply tk_orT; walk_at "et")
  | (apply tk_or; (walk_at "et"); (intro _; walk_at "et"))
  | (apply tk_notT; walk_at "et")
  | (apply tk_notF; walk_at "et")
  | (apply tk_not; walk_at "et")
  | (apply tk_v; walk_at "ev")
  | (apply tk_vB; walk_at "ev"))
local macro_rules | `(tactic| walk_at "if") => `(tactic| first
  | (apply pst_whenF; (walk_at "et"); (walk_at "bb"))
  | (apply pst_whenT; (walk_at "et"); (walk_at "bb")))
local macro_rules | `(tactic| walk_at "post") => `(tactic| first | assumption | exact ⟨_, _, rfl, rfl⟩ | exact ⟨_, _, _, _, rfl, by omega, by omega, rfl⟩ | exact ⟨_, _, _, 0, rfl, by omega, by omega, rfl⟩)
local macro_rules | `(tactic| walk_at "cc") => `(tactic| first | assumption | decide | omega | (refine ⟨?_, ?_⟩ <;> first | decide | omega) | (exact Or.inl (by constructor <;> omega)))

/-- amid the law's things of a call -/
structure LJ (K : PySem.W.Frag) (d al sl ll sm : Addr) (pw0 yw0 : V) (Hz : Hp) (s : Sg) (bvs : List V) (hs : List Hd) (bs : List (Option (Nat × Nat))) (H : Hp) : Prop where
  run : LawAt K d al sl ll pw0 yw0 s H
  sm0 : H sm = some (.lst bvs)
  hb : HdBs K (Ofs (sm :: sR d al sl ll) H) bvs hs bs
  f : Fr (sm :: sR d al sl ll) Hz H
section
variable {K : PySem.W.Frag} {H H' Hz : Hp} {d al sl ll sm q : Addr} {pw0 yw0 hv : V} {s s' : Sg} {bvs : List V} {hs : List Hd} {bs : List (Option (Nat × Nat))} {h : Hd} {b : Option (Nat × Nat)}
theorem LJ.ex (J : LJ K d al sl ll sm pw0 yw0 Hz s bvs hs bs H) (e : Ex H H') : LJ K d al sl ll sm pw0 yw0 Hz s bvs hs bs H' := ⟨J.run.ex e, e _ _ J.sm0, J.hb.ex (ofs_fr (Fr.of e)), J.f.trans (Fr.of e)⟩
theorem LJ.fr (J : LJ K d al sl ll sm pw0 yw0 Hz s bvs hs bs H) (hn : sm ∉ sR d al sl ll) (f : Fr (sR d al sl ll) H H') (R : LawAt K d al sl ll pw0 yw0 s' H') : LJ K d al sl ll sm pw0 yw0 Hz s' bvs hs bs H' := by
  have f2 : Fr (sm :: sR d al sl ll) H H' := f.sub fun a ha => List.mem_cons_of_mem _ ha
  exact ⟨R, f _ _ hn J.sm0, J.hb.ex (ofs_fr f2), J.f.trans f2⟩
theorem LJ.mu (J : LJ K d al sl ll sm pw0 yw0 Hz s bvs hs bs H) : ∀ a ∈ sm :: sR d al sl ll, ∃ u, H a = some u ∧ Mut (some u) := fun a ha => by
  rcases List.mem_cons.mp ha with e | ha
  · rw [e]; exact ⟨_, J.sm0, True.intro⟩
  · exact J.run.mu a ha
theorem LJ.push (J : LJ K d al sl ll sm pw0 yw0 Hz s bvs hs bs H) (hn : sm ∉ sR d al sl ll) (hq : H q = some (.tup [hv, bV b])) (hqS : q ∉ sm :: sR d al sl ll) (g : LHd K (Ofs (sm :: sR d al sl ll) H) hv h) (gb : ∀ pl o, b = some (pl, o) → h = .road o []) : LJ K d al sl ll sm pw0 yw0 Hz s (bvs ++ [.ref q]) (hs ++ [h]) (bs ++ [b]) (upd H sm (.lst (bvs ++ [.ref q]))) := by
  have f2 : Fr (sm :: sR d al sl ll) H (upd H sm (.lst (bvs ++ [.ref q]))) := Fr.upd (by simp)
  exact ⟨J.run.updm J.sm0 True.intro hn, upd_same, (J.hb.snoc (ofs_get hq hqS) g gb).ex (ofs_fr f2), J.f.trans f2⟩
end
section
variable {P : Program} {w : World} {K : PySem.W.Frag} {mg : Str → Option Value} {base : Heap} (T : Tx K mg)
include T
theorem goes_step {p : List Wk} {ys : List (List Str)} {M n lv : Nat} (hl : M + 4 ≤ lv) (hp : PrOk p ys) (spS spD : Sp) (hS : 0 < n → spS = spLGoes K p ys M (n - 1) ∧ spD = spLDoes K p ys M (n - 1))
    (GS : Fn__law_goes T P w base CX0 lv spS) (GD : Fn__law_does T P w base CX0 lv spD) (GM : Fn__law_meets T P w base CX0 1 (spMeets K)) (GR : Fn__law_road T P w base CX0 (M + 2) (spRoad K M)) (GN : Fn__law_worth T P w base CX0 (M + 2) (spWorth K M)) (GH : Fn__law_handed T P w base CX0 (M + 3) (spHanded K M)) : Fn__law_goes T P w base CX0 (lv + 1) (spLGoes K p ys M n) := by
  have G__law_goes := GS
  have G__law_does := GD
  have G__law_meets := GM
  have G__law_road := GR
  have G__law_worth := GN
  have G__law_handed := GH
  refine T.F__law_goes.ok sc__law_goes (fun vs H Q E h => by obtain ⟨_, _, _, _, _, _, _, _, _, _, _, _, rfl, _⟩ := h; rfl) fun cdv A outer s0 H vs Q E hr h => ?_
  obtain ⟨d, al, sl, ll, pw0, yw0, bv, fv, s, s', body, f, rfl, hW, tb, hcal, hf, hgo, k⟩ := h
  refine ⟨_, (pss_one (ps_for (passes_of rfl) rfl (kpi_tup K (pv 1)) (pg_name (i := 3) sc__law_goes.nd rfl (Or.inl rfl))
    (pss_one (ps_if (pt_cmpR (kop_eq K hr.units) (pe_ix (kix_tup K) (pv 3) pe_int (fun _ _ => rfl)) pe_str (nomark _))
      (pss_one (ps_expr (pe_bm PySem.F.plainAttrs_list PySem.F.slot_list_append PySem.F.type_list_append mt_append (pe_dget (hu_of hr) (pv 0) pe_str (fun _ _ => rfl)) (pa_cons (pe_call G__law_worth (hr.mono (by omega)) (by rfl) T.g__law_worth T.k__law_worth T.bd__law_worth .nil pass0 (pa_cons (pv 0) (pa_cons (pe_ix (kix_tup K) (pv 3) pe_int (fun _ _ => rfl)) (pa_cons (pv 2) pa_nil)))) pa_nil))))
      (pss_one (ps_if (pt_cmpR (kop_eq K hr.units) (pe_ix (kix_tup K) (pv 3) pe_int (fun _ _ => rfl)) pe_str (nomark _))
        (pss_one (ps_expr (pe_call G__law_goes (hr.mono (by omega)) (by rfl) T.g__law_goes T.k__law_goes T.bd__law_goes .nil pass0 (pa_cons (pv 0) (pa_cons (pe_ix (kix_tup K) (pv 3) (pe_op op_add pe_int (pe_callTy kc_int rfl T.b_int (by decide +kernel) (pa_cons (pe_cmpR op_eq (pe_call G__law_worth (hr.mono (by omega)) (by rfl) T.g__law_worth T.k__law_worth T.bd__law_worth .nil pass0 (pa_cons (pv 0) (pa_cons (pe_ix (kix_tup K) (pv 3) pe_int (fun _ _ => rfl)) (pa_cons (pv 2) pa_nil)))) pe_int (nomark _)) pa_nil))) (fun _ _ => rfl)) (pa_cons (pv 2) pa_nil))))))
        (pss_one (ps_if (pt_cmpR (kop_eq K hr.units) (pe_ix (kix_tup K) (pv 3) pe_int (fun _ _ => rfl)) pe_str (nomark _))
          (pss_cons (ps_set (i := 4) sc__law_goes.nd rfl (Or.inl rfl) (pe_call G__law_worth (hr.mono (by omega)) (by rfl) T.g__law_worth T.k__law_worth T.bd__law_worth .nil pass0 (pa_cons (pv 0) (pa_cons (pe_ix (kix_tup K) (pv 3) pe_int (fun _ _ => rfl)) (pa_cons (pv 2) pa_nil)))))
          (pss_cons (ps_set (i := 5) sc__law_goes.nd rfl (Or.inl rfl) (pe_call G__law_road (hr.mono (by omega)) (by rfl) T.g__law_road T.k__law_road T.bd__law_road .nil pass0 (pa_cons (pv 0) (pa_cons (pe_ix (kix_tup K) (pv 3) pe_int (fun _ _ => rfl)) (pa_cons (pv 2) pa_nil)))))
          (pss_one (ps_if (pt_cmp (pc_notN (pv 5)) rfl)
            (pss_one (ps_asg (pv 4) (pg_sub (pe_dget (hu_of hr) (pv 0) pe_str (fun _ _ => rfl)) (pe_call G__law_meets (hr.mono (by omega)) (by rfl) T.g__law_meets T.k__law_meets T.bd__law_meets .nil pass0 (pa_cons (pv 0) (pa_cons (pv 5) pa_nil))) set_list)))
            pss_nil))))
          (pss_cons (ps_set (i := 6) sc__law_goes.nd rfl (Or.inl rfl) (pe_callB (kc_len K) rfl T.b_len PySem.boot_len (pa_cons (pe_dget (hu_of hr) (pv 0) pe_str (fun _ _ => rfl)) pa_nil)))
          (pss_cons (ps_set (i := 7) sc__law_goes.nd rfl (Or.inl rfl) (pe_lst pa_nil))
          (pss_cons (ps_for (passes_of rfl) rfl (pi_range1 rfl T.b_range (pa_cons (pe_callB (kc_len K) rfl T.b_len PySem.boot_len (pa_cons (pe_ix (kix_tup K) (pv 3) pe_int (fun _ _ => rfl)) pa_nil)) pa_nil)) (pg_name (i := 8) sc__law_goes.nd rfl (Or.inl rfl))
            (pss_one (ps_expr (pe_bm PySem.F.plainAttrs_list PySem.F.slot_list_append PySem.F.type_list_append mt_append (pv 7) (pa_cons (pe_call G__law_handed (hr.mono (by omega)) (by rfl) T.g__law_handed T.k__law_handed T.bd__law_handed .nil pass0 (pa_cons (pv 0) (pa_cons (pe_ix (kix_tup K) (pe_ix (kix_tup K) (pv 3) pe_int (fun _ _ => rfl)) (pv 8) (fun _ _ => rfl)) (pa_cons (pe_ix (kix_tup K) (pe_ix (kix_tup K) (pe_dget (hu_of hr) (pv 0) pe_str (fun _ _ => rfl)) (pe_ix (kix_tup K) (pv 3) pe_int (fun _ _ => rfl)) (fun _ _ => rfl)) (pv 8) (fun _ _ => rfl)) (pa_cons (pv 2) pa_nil))))) pa_nil)))))
          (pss_cons (ps_expr (pe_call G__law_does (hr.mono (by omega)) (by rfl) T.g__law_does T.k__law_does T.bd__law_does .nil pass0 (pa_cons (pv 0) (pa_cons (pe_ix (kix_tup K) (pv 3) pe_int (fun _ _ => rfl)) (pa_cons (pe_lc (own := [("_law_one", 11)]) (g := gName 11) (tt := tYes) rfl sc__law_goes.nd (kpi_list K (pv 7)) (blkOk_by (N := ["_law_s", "_law_body_here", "_law_frame", "_law_step_here", "_law_number", "_law_road_here", "_law_ahead", "_law_some", "_law_k", "_law_handed_here", "_law_place_here", "_law_one"]) (sc := defScope s__law_goes) (by decide +kernel)) (fun _ _ _ _ _ => (pg_name (i := 11) sc__law_goes.nd rfl (Or.inl rfl))) (fun _ _ _ _ _ => pts_nil) (fun _ _ _ _ _ => (pe_ix (kix_tup K) (pv 11) pe_int (fun _ _ => rfl)))) pa_nil)))))
          (pss_cons (ps_dput (hu_of hr) (pv 0) pe_str (pe_slice (ksl_list K) (pe_dget (hu_of hr) (pv 0) pe_str (fun _ _ => rfl)) po_none (po_some (pv 6))) rfl)
          (pss_one (ps_for (passes_of rfl) rfl (kpi_list K (pv 7)) (kpg_tup K rfl (pgs_cons (pg_name (i := 9) sc__law_goes.nd rfl (Or.inl rfl)) (pgs_cons (pg_name (i := 10) sc__law_goes.nd rfl (Or.inl rfl)) pgs_nil)))
            (pss_one (ps_if (pt_cmp (pc_notN (pv 10)) rfl)
              (pss_one (ps_asg (pe_ix (kix_list K) (pe_dget (hu_of hr) (pv 0) pe_str (fun _ _ => rfl)) (pe_ix (kix_tup K) (pv 9) pe_int (fun _ _ => rfl)) (fun _ _ => rfl)) (pg_sub (pe_dget (hu_of hr) (pv 0) pe_str (fun _ _ => rfl)) (pv 10) set_list)))
              pss_nil))))))))))))))))), ?_⟩
  have tb2 : Td K H bv (.tuple (body.map encS)) := by
    rw [← encB_map]
    exact tb
  refine w_forTv (K := K) body encS rfl tb2 (fun i σ' H' => ∃ (u3 u4 u5 u6 u7 u8 u9 u10 : Option V) (ll1 : Addr) (s1 : Sg), σ' = [some (.ref d), some bv, some fv, u3, u4, u5, u6, u7, u8, u9, u10, none] ∧ goF (stepF p ys M n f) (body.take i) s = some s1 ∧ LawAt K d al sl ll1 pw0 yw0 s1 H' ∧ NxL d al sl ll ll1 H H') ?_ ?_ ?_ ?_
  · exact ⟨_, _, _, _, _, _, _, _, ll, s, rfl, rfl, hW.run, NxL.refl⟩
  · rintro i σ' H' ⟨u3, u4, u5, u6, u7, u8, u9, u10, ll1, s1, rfl, _, _, nx⟩
    exact hW.run.keep nx.1
  · rintro i x v σ' H1 hx tx ⟨u3, u4, u5, u6, u7, u8, u9, u10, ll1, s1, rfl, h1, R1, nx⟩
    obtain ⟨s2, hst, h2⟩ := goF_at hgo hx h1
    have kp1 : Keep K H H1 := hW.run.keep nx.1
    have W1 : LawW K p ys d al sl ll1 pw0 yw0 s1 H1 := ⟨R1, hW.tp.kp kp1, hW.ty.kp kp1⟩
    have hf1 := hf.nx nx
    have hmem := List.mem_of_getElem? hx
    obtain ⟨m, rfl⟩ : ∃ m, n = m + 1 := ⟨n - 1, by cases n with
      | zero => simp [stepF] at hst
      | succ n => omega⟩
    obtain ⟨rfl, rfl⟩ := hS (by omega)
    have em : m + 1 - 1 = m := by omega
    rw [em] at *
    have fin : ∀ {H2 ll2} {v4 v5 v6 v7 v8 v9 v10 : Option V}, LawAt K d al sl ll2 pw0 yw0 s2 H2 → NxL d al sl ll1 ll2 H1 H2 → ∃ (u3 u4 u5 u6 u7 u8 u9 u10 : Option V) (lx : Addr) (sx : Sg), ([some (.ref d), some bv, some fv, some v, v4, v5, v6, v7, v8, v9, v10, none] : L2.St) = [some (.ref d), some bv, some fv, u3, u4, u5, u6, u7, u8, u9, u10, none] ∧ goF (stepF p ys M (m + 1) f) (body.take (i + 1)) s = some sx ∧ LawAt K d al sl lx pw0 yw0 sx H2 ∧ NxL d al sl ll lx H H2 := fun R2 n2 => ⟨_, _, _, _, _, _, _, _, _, s2, rfl, h2, R2, nx.trans n2⟩
    dsimp only
    refine Pst.go (K := K) ?_
    cases x with
    | say t =>
      unfold encS at tx
      simp only [stepF] at hst
      cases q1 : numF M t f s1 with
      | none => rw [q1] at hst; cases hst
      | some x1 =>
      obtain ⟨vn, sa⟩ := x1
      rw [q1] at hst
      dsimp only at hst
      have q3 : sa.said.length < mostL := by
        split at hst
        · assumption
        · cases hst
      rw [if_pos q3] at hst
      cases hst
      refine pst_if (K := K) (b := true) ?_ (fun _ => pst_of fun H2 e2 => ?_) (fun hb => by cases hb)
      · apply tk_is
        · walk_at "et"
        · simp
      have W2 := W1.ex e2
      replace tx := tx.ex e2
      refine w_appD rfl W2.run.ob rfl W2.run.said (w_call (w_cons (w_v rfl (w_cons (w_d (K := K) (d := encT t) ?_ fun v4 H4 e4 t4 => w_cons (w_v rfl (w_nil ?_)))))))
      · walk_at "ev"
      have W4 := W2.ex e4
      have n4 : NxL d al sl ll1 ll1 H1 H4 := NxL.of (e2.trans e4)
      refine ⟨d, al, sl, ll1, pw0, yw0, v4, fv, s1, sa, t, f, vn, rfl, W4.run, t4, hf1.nx n4, q1, fun H5 R5 f5 => ?_⟩
      have n5 : NxL d al sl ll1 ll1 H1 H5 := n4.trans (.fr (f5.r4))
      refine ⟨nV sa.said, R5.said, ?_, ?_⟩
      · simp only [nV, List.length_map]
        exact sz_lt (by unfold mostL at q3; omega)
      exact fin R5.adds (n5.trans (.fr (Fr.upd (by simp [sR]))))
    | ite t ba bb =>
      unfold encS at tx
      simp only [stepF] at hst
      cases q1 : numF M t f s1 with
      | none => rw [q1] at hst; cases hst
      | some x1 =>
      obtain ⟨vn, sa⟩ := x1
      rw [q1] at hst
      dsimp only at hst
      refine pst_if (K := K) (b := false) ?_ (fun hb => by cases hb) (fun _ => ?_)
      · apply tk_is
        · walk_at "et"
        · simp
      refine pst_if (K := K) (b := true) ?_ (fun _ => pst_of fun H2 e2 => ?_) (fun hb => by cases hb)
      · apply tk_is
        · walk_at "et"
        · simp
      have W2 := W1.ex e2
      replace tx := tx.ex e2
      refine w_drop (w_call (w_cons (w_v rfl (w_cons (w_op (w_v rfl (w_op (w_c (w_cb (w_cons (w_op (w_call (w_cons (w_v rfl (w_cons (w_d (K := K) (d := encT t) ?_ fun v4 H4 e4 t4 => w_cons (w_v rfl (w_nil ?_))))))))))))))))))
      · walk_at "ev"
      have W4 := W2.ex e4
      have n4 : NxL d al sl ll1 ll1 H1 H4 := NxL.of (e2.trans e4)
      refine ⟨d, al, sl, ll1, pw0, yw0, v4, fv, s1, sa, t, f, vn, rfl, W4.run, t4, hf1.nx n4, q1, fun H5 R5 f5 => ?_⟩
      have n5 : NxL d al sl ll1 ll1 H1 H5 := n4.trans (.fr (f5.r4))
      have W5 : LawW K p ys d al sl ll1 pw0 yw0 sa H5 := W4.fr f5.r4 R5
      replace tx := (tx.ex e4).kp (W4.run.keep1 f5)
      obtain ⟨ax, xsx, rfl, hax, allx⟩ := tx.tup_inv
      obtain _ | ⟨ux1, _ | ⟨ux2, _ | ⟨ux3, _ | ⟨ux4, _ | _⟩⟩⟩⟩ := allx
      rename_i y1 y2 y3 y4
      refine w_c ⟨rfl, w_nil (.inr ⟨decide ((vn : Int) = 0), ?_, 2, (if decide ((vn : Int) = 0) = true then 1 else 0), rfl, rfl, ?_⟩)⟩
      · simp
      by_cases hv : vn = 0
      · rw [if_neg (by simpa using hv)] at hst
        have hmb : bb ∈ bods (.ite t ba bb) := by simp [bods]
        have hb2 := bods_sm (smB_mem hcal.1 hmem) hmb
        refine ⟨ax, _, 3, y4, rfl, ?_, hax, rfl, ?_⟩
        · simp [hv]
        exact w_cons (w_v rfl (w_nil ⟨d, al, sl, ll1, pw0, yw0, y4, fv, sa, s2, bb, f, rfl, W5, ux4, ⟨hb2.2, hb2.1, fun z hz => hcal.2.2 z (callsB_mem hmem (callsS_bods hmb hz))⟩, hf1.nx n5, hst, fun ll2 H7 R7 n7 => fin R7 (n5.trans n7)⟩))
      · rw [if_pos (by simpa using hv)] at hst
        have hmb : ba ∈ bods (.ite t ba bb) := by simp [bods]
        have hb2 := bods_sm (smB_mem hcal.1 hmem) hmb
        refine ⟨ax, _, 2, y3, rfl, ?_, hax, rfl, ?_⟩
        · simp [hv]
        exact w_cons (w_v rfl (w_nil ⟨d, al, sl, ll1, pw0, yw0, y3, fv, sa, s2, ba, f, rfl, W5, ux3, ⟨hb2.2, hb2.1, fun z hz => hcal.2.2 z (callsB_mem hmem (callsS_bods hmb hz))⟩, hf1.nx n5, hst, fun ll2 H7 R7 n7 => fin R7 (n5.trans n7)⟩))
    | set pt t =>
      unfold encS at tx
      simp only [stepF] at hst
      cases q1 : numF M t f s1 with
      | none => rw [q1] at hst; cases hst
      | some x1 =>
      obtain ⟨vn, sa⟩ := x1
      rw [q1] at hst
      dsimp only at hst
      cases q2 : findF M pt f sa with
      | none => rw [q2] at hst; cases hst
      | some x2 =>
      obtain ⟨o, sb⟩ := x2
      rw [q2] at hst
      refine pst_if (K := K) (b := false) ?_ (fun hb => by cases hb) (fun _ => ?_)
      · apply tk_is
        · walk_at "et"
        · simp
      refine pst_if (K := K) (b := false) ?_ (fun hb => by cases hb) (fun _ => ?_)
      · apply tk_is
        · walk_at "et"
        · simp
      refine pst_if (K := K) (b := true) ?_ (fun _ => pst_of fun H2 e2 => ?_) (fun hb => by cases hb)
      · apply tk_is
        · walk_at "et"
        · simp
      have W2 := W1.ex e2
      replace tx := tx.ex e2
      refine w_seq (w_asg (w_call (w_cons (w_v rfl (w_cons (w_d (K := K) (d := encT t) ?_ fun v4 H4 e4 t4 => w_cons (w_v rfl (w_nil ?_))))))))
      · walk_at "ev"
      have W4 := W2.ex e4
      have n4 : NxL d al sl ll1 ll1 H1 H4 := NxL.of (e2.trans e4)
      refine ⟨d, al, sl, ll1, pw0, yw0, v4, fv, s1, sa, t, f, vn, rfl, W4.run, t4, hf1.nx n4, q1, fun H5 R5 f5 => ?_⟩
      have n5 : NxL d al sl ll1 ll1 H1 H5 := n4.trans (.fr (f5.r4))
      replace tx := (tx.ex e4).kp (W4.run.keep1 f5)
      dsimp only
      refine w_seq (w_asg (w_call (w_cons (w_v rfl (w_cons (w_d (K := K) (d := encT pt) ?_ fun v6 H6 e6 t6 => w_cons (w_v rfl (w_nil ?_))))))))
      · walk_at "ev"
      have R6 := R5.ex e6
      have n6 := n5.ex e6
      refine ⟨d, al, sl, ll1, pw0, yw0, v6, fv, sa, sb, pt, f, o, rfl, R6, t6, hf1.nx n6, q2, fun x7 H7 R7 f7 rd7 => ?_⟩
      have n7 : NxL d al sl ll1 ll1 H1 H7 := n6.trans (.fr (f7.r4))
      dsimp only
      refine Pst.go (K := K) ?_
      cases o with
      | none =>
        cases rd7
        cases hst
        refine pst_if (K := K) (b := false) (tk_is (tk_vB (ed_notNv rfl)) rfl) (fun hb => by cases hb) (fun _ => pst_of fun H8 e8 => ?_)
        exact fin (R7.ex e8) (n7.ex e8)
      | some pp =>
        obtain ⟨pl, th⟩ := pp
        dsimp only at hst
        have hlt : pl < (come pl th sb).nums.length := by
          split at hst
          · assumption
          · cases hst
        rw [if_pos hlt] at hst
        cases hst
        have hxr : ∃ a l, x7 = .ref a ∧ Ofs (sR d al sl ll1) H7 a = some (.tup [.int (pl : Int), .ref l]) ∧ Ofs (sR d al sl ll1) H7 l = some (.lst (nV th)) := by
          cases rd7 with
          | some q1 q2 => exact ⟨_, _, rfl, q1, q2⟩
        obtain ⟨a, l, rfl, g1, g2⟩ := hxr
        refine pst_if (K := K) (b := true) (tk_is (tk_vB (ed_notNv rfl)) rfl) (fun _ => pst_of fun H8 e8 => ?_) (fun hb => by cases hb)
        have R8 := R7.ex e8
        have n8 := n7.ex e8
        refine w_asgG (w_v rfl (w_gsub (w_dg rfl R8.ob rfl (w_call (w_cons (w_v rfl (w_cons (w_v rfl (w_nil ⟨d, al, sl, ll1, pw0, yw0, .ref a, sb, pl, th, rfl, R8, .some ((ofs_fr (Fr.of e8)) _ _ g1) ((ofs_fr (Fr.of e8)) _ _ g2), fun H9 R9 f9 => ?_⟩)))))))))
        have n9 : NxL d al sl ll1 ll1 H1 H9 := n8.trans (.fr (f9.r4))
        refine ⟨al, _, (pl : Int), pl, rfl, rfl, R9.nums, ?_, ?_⟩
        · have hl2 : pl < (nV (come pl th sb).nums).length := by simpa [nV] using hlt
          unfold ixN
          simp
          omega
        exact fin R9.setn (n9.trans (.fr (Fr.upd (by simp [sR]))))
    | call c ts =>
      unfold encS at tx
      obtain ⟨ws, hws, hwl⟩ := hcal.2.2 (c, ts) (callsB_mem hmem (by simp [callsS]))
      dsimp only at hws hwl
      have htl : ts.length ≤ 1000 := by
        have := smB_mem hcal.1 hmem
        simpa [smS] using this
      simp only [stepF, hws] at hst
      cases hwk : p[c]? with
      | none => rw [hwk] at hst; cases hst
      | some wk =>
      rw [hwk] at hst
      dsimp only at hst
      cases hha : handAll M ts ws f s1 with
      | none => rw [hha] at hst; cases hst
      | some x1 =>
      obtain ⟨hs, bs, sa⟩ := x1
      rw [hha] at hst
      dsimp only at hst
      cases hown : ownF wk.owns sa with
      | none => rw [hown] at hst; cases hst
      | some x2 =>
      obtain ⟨os, sb⟩ := x2
      rw [hown] at hst
      dsimp only at hst
      cases hgo2 : goF (stepF p ys M m (.mk os hs)) wk.body sb with
      | none => rw [hgo2] at hst; cases hst
      | some sc =>
      rw [hgo2] at hst
      dsimp only at hst
      cases hba : backF bs sc.nums with
      | none => rw [hba] at hst; cases hst
      | some nsx =>
      rw [hba] at hst
      cases hst
      have hlay : ∀ z ∈ ws, (PyData.str z).canLay0 = true := hp.h2 ws (List.mem_of_getElem? hws)
      refine pst_if (K := K) (b := false) ?_ (fun hb => by cases hb) (fun _ => ?_)
      · apply tk_is
        · walk_at "et"
        · simp
      refine pst_if (K := K) (b := false) ?_ (fun hb => by cases hb) (fun _ => ?_)
      · apply tk_is
        · walk_at "et"
        · simp
      refine pst_if (K := K) (b := false) ?_ (fun hb => by cases hb) (fun _ => pst_of fun H2 e2 => ?_)
      · apply tk_is
        · walk_at "et"
        · simp
      have W2 := W1.ex e2
      replace tx := tx.ex e2
      obtain ⟨lv2, hl2, hla2⟩ := W2.run.lent
      refine w_seq (w_asg (w_d (K := K) (d := .int (s1.lent.length : Int)) (ed_is (ed_lenL (edr_ev (ev_dg rfl W2.run.ob rfl) hl2 hla2)) (by simp)) fun v3 H3 e3 t3 => ?_))
      cases t3
      refine w_seq (w_asg (w_lst (w_nil ⟨Nat.zero_le _, fun sm hsm => ?_⟩)))
      have W3 := W2.ex e3
      have e4 : Ex H3 (upd H3 sm (.lst [])) := Ex.new hsm
      have hsm4 : upd H3 sm (.lst []) sm = some (.lst []) := upd_same
      have W4 := W3.ex e4
      have offsm := W3.run.off hsm
      have hsm1 : H1 sm = none := fresh_back (e2.trans e3) hsm
      replace tx := (tx.ex e3).ex e4
      have hf4 : LFra K (Ofs (sm :: sR d al sl ll1) (upd H3 sm (.lst []))) fv f := hf1.ex fun q o hx => by
        unfold Ofs at hx
        split at hx
        · cases hx
        · rename_i hq
          refine ofs_get (e4 _ _ ((e2.trans e3) _ _ hx)) ?_
          simp only [List.mem_cons, not_or]
          exact ⟨(fun e => by rw [e, hsm1] at hx; cases hx), hq⟩
      dsimp only
      generalize upd H3 sm (.lst []) = H4 at *
      have J4 : LJ K d al sl ll1 sm pw0 yw0 H4 s1 [] [] [] H4 := ⟨W4.run, hsm4, .nil, Fr.refl⟩
      have mu4 : ∀ a ∈ sm :: sR d al sl ll1, ∃ u, H4 a = some u ∧ Mut (some u) := fun a ha => by
        rcases List.mem_cons.mp ha with e | ha
        · rw [e]; exact ⟨_, hsm4, True.intro⟩
        · exact W4.run.mu a ha
      have ty4 : Td K H4 yw0 (.tuple (ys.map fun y => .tuple (y.map PyData.str))) := W4.ty
      refine w_seq (w_forR (K := K) (n := ts.length) (eda_cons (ed_is (ed_len (ds := ts.map encT) (ed_ixT (i := 2) (ed_var rfl tx) ed_ci rfl)) (by simp)) eda_nil) (by omega) (fun i σ' H' => ∃ (u8 : Option V) (bvs : List V) (hs1 : List Hd) (bs1 : List (Option (Nat × Nat))) (sx : Sg), σ' = [some (.ref d), some bv, some fv, some v, u4, u5, some (.int (s1.lent.length : Int)), some (.ref sm), u8, u9, u10, none] ∧ handAll M (ts.take i) (ws.take i) f s1 = some (hs1, bs1, sx) ∧ LJ K d al sl ll1 sm pw0 yw0 H4 sx bvs hs1 bs1 H') ?_ ?_ ?_)
      · intro H5 e5
        exact ⟨_, [], [], [], s1, rfl, by simp [handAll], J4.ex e5⟩
      · rintro i σ' H5 hi ⟨u8, bvs, hs1, bs1, sx, rfl, g1, J5⟩
        have hti : ts[i]? = some ts[i] := List.getElem?_eq_getElem hi
        have hwi : ws[i]? = some (ws[i]'(by omega)) := List.getElem?_eq_getElem (by omega)
        obtain ⟨hd, b, sy, g2, g3⟩ := handAll_at hwl.symm hha hti hwi g1
        have k5 : Keep K H4 H5 := J5.f.keep mu4
        have tx5 := tx.kp k5
        have ty5 := ty4.kp k5
        dsimp only
        refine w_app rfl J5.sm0 (w_call (w_cons (w_v rfl (w_cons (w_d (K := K) (d := encT ts[i]) (ed_ixT (i := (i : Int)) (ds := ts.map encT) (ed_ixT (i := 2) (ed_var rfl tx5) ed_ci rfl) (ed_var rfl (.int _)) (atI_nat (by rw [List.getElem?_map, hti] <;> rfl))) fun v6 H6 e6 t6 => w_cons (w_d (K := K) (d := .str (ws[i]'(by omega))) (ed_ixT (i := (i : Int)) (ds := ws.map PyData.str) (ed_ixT (i := (c : Int)) (ds := ys.map fun y => .tuple (y.map PyData.str)) (ed_dg rfl (J5.run.ex e6).ob rfl (ty5.ex e6)) (ed_ixT (i := 1) (ed_var rfl (tx5.ex e6)) ed_ci rfl) (atI_nat (by rw [List.getElem?_map, hws] <;> rfl))) (ed_var rfl (.int _)) (atI_nat (by rw [List.getElem?_map, hwi] <;> rfl))) fun v7 H7 e7 t7 => w_cons (w_v rfl (w_nil ?_))))))))
        cases t7
        have J7 := J5.ex (e6.trans e7)
        refine ⟨d, al, sl, ll1, pw0, yw0, v6, fv, sx, sy, ts[i], ws[i]'(by omega), f, hd, b, sm :: sR d al sl ll1, rfl, J7.run, hlay _ (List.mem_of_getElem? hwi), t6.ex e7, (fun a ha => List.mem_cons_of_mem _ ha), J7.mu, hf4.ex (ofs_fr J7.f), g2, fun q hv H8 R8 f8 hq8 hqS hh8 => ?_⟩
        have J8 := J7.fr offsm f8 R8
        refine ⟨_, J8.sm0, ?_, _, _, _, _, _, rfl, g3, J8.push offsm hq8 hqS hh8 fun pl o e => handF_back (by rw [← e]; exact g2)⟩
        rw [J8.hb.len, handAll_len g1, List.length_take]
        exact sz_lt (by omega)
      · rintro σ' H5 ⟨u8, bvs, hs1, bs1, sx, rfl, g1, J5⟩
        rw [List.take_length, ← hwl, List.take_length, hha] at g1
        cases g1
        have k5 : Keep K H4 H5 := J5.f.keep mu4
        have tx5 := tx.kp k5
        have W5 : LawW K p ys d al sl ll1 pw0 yw0 sa H5 := ⟨J5.run, W4.tp.kp k5, W4.ty.kp k5⟩
        obtain ⟨us, hus1, hus2, hus3⟩ := J5.hb.firsts
        have hlb : bvs.length ≤ 1000 := by
          rw [J5.hb.len, handAll_len hha]
          exact htl
        try dsimp only
        refine w_seq (w_drop (w_call (w_cons (w_v rfl (w_cons (w_d (K := K) (d := .int (c : Int)) (ed_ixT (i := 1) (ed_var rfl tx5) ed_ci rfl) fun v6 H6 e6 t6 => w_cons (w_lcV (K := K) (us := us) (xs := bvs) (bk := sm) rfl (e6 _ _ J5.sm0) hus2 (by omega) (fun _ => rfl) (fun i x u H7 hx hu e7 => ?_) fun lp H7 hlp e7 hlp7 => w_nil ?_)))))))
        · obtain ⟨q, y, rfl, hq⟩ := hus3 i x u hx hu
          exact ev_op (ev_var rfl) ev_c (rv_ixT (SqT.of (e7 _ _ (e6 _ _ (ofs_ex _ _ hq)))) rfl)
        cases t6
        have e67 := e6.trans e7
        have J7 := J5.ex e67
        refine ⟨d, al, sl, ll1, pw0, yw0, sa, sb, sc, c, wk, os, hs, lp, us, rfl, W5.ex e67, hwk, hlp7, (J5.run.ex e6).off hlp, (hus1.ex (ofs_fr (Fr.of e67))).ex (ofs_sub fun a ha => List.mem_cons_of_mem _ ha), hown, hgo2, fun ll5 H8 R8 n8 => ?_⟩
        have hsm8 : H8 sm = some (.lst bvs) := n8.1 _ _ offsm J7.sm0
        obtain ⟨lv8, hl8, hla8⟩ := R8.lent
        have elent : sc.lent.take s1.lent.length = s1.lent := by
          have q1 : sc.lent = sa.lent := (goF_keep Sg.lent (fun x s s' h => stepF_lent h) hgo2).trans (ownF_lent hown)
          obtain ⟨ex, q2⟩ := handAll_ext hha
          rw [q1, q2, List.take_left' rfl]
        try dsimp only
        refine w_seq (w_dput rfl (w_sl (w_dg rfl R8.ob rfl ⟨.int (s1.lent.length : Int), rfl, (s1.lent.length : Int), rfl, ll5, lv8, rfl, SqL.of hl8, fun q hq => ⟨_, (R8.ex (Ex.new hq)).ob, by show 7 < sizeLine; decide, ?_⟩⟩)))
        have ep : putK (lawKs pw0 yw0 al sl ll5 sc) (Sum.inr "lent") (.ref q) = lawKs pw0 yw0 al sl q { sc with lent := s1.lent } := by rfl
        rw [ep]
        have offq := R8.off hq
        have R9 : LawAt K d al sl q pw0 yw0 { sc with lent := s1.lent } (upd (upd H8 q (.lst (cutV lv8 none (some (s1.lent.length : Int))))) d (.dK (lawKs pw0 yw0 al sl q { sc with lent := s1.lent }))) := by
          simp only [sR, List.mem_cons, List.not_mem_nil, or_false, not_or] at offq
          refine (R8.ex (Ex.new hq)).setl upd_same ?_ offq.1 (Ne.symm offq.2.1) (Ne.symm offq.2.2.1)
          have t9 := (hla8.cut none (some (s1.lent.length : Int))).ex (Ex.new (o := .lst (cutV lv8 none (some (s1.lent.length : Int)))) hq)
          rw [cutD_pre, ← List.map_take, elent] at t9
          exact t9
        have nsd : sm ≠ d := fun e => offsm (by rw [e]; simp [sR])
        have nsa : sm ≠ al := fun e => offsm (by rw [e]; simp [sR])
        have hsm9 : (upd (upd H8 q (.lst (cutV lv8 none (some (s1.lent.length : Int))))) d (.dK (lawKs pw0 yw0 al sl q { sc with lent := s1.lent }))) sm = some (.lst bvs) := by
          rw [upd_ne nsd]
          exact Ex.new hq _ _ hsm8
        have f89 : Fr (sR d al sl ll1) H8 (upd (upd H8 q (.lst (cutV lv8 none (some (s1.lent.length : Int))))) d (.dK (lawKs pw0 yw0 al sl q { sc with lent := s1.lent }))) := (Fr.of (Ex.new hq)).trans (Fr.upd (by simp [sR]))
        have R9' : LawAt K d al sl q pw0 yw0 { sc with lent := s1.lent, nums := sc.nums } (upd (upd H8 q (.lst (cutV lv8 none (some (s1.lent.length : Int))))) d (.dK (lawKs pw0 yw0 al sl q { sc with lent := s1.lent }))) := R9
        dsimp only
        generalize upd (upd H8 q (.lst (cutV lv8 none (some (s1.lent.length : Int))))) d (.dK (lawKs pw0 yw0 al sl q { sc with lent := s1.lent })) = H9 at *
        have f49 : Fr (sm :: sR d al sl ll1) H5 H9 := (((Fr.of e67).trans n8.1).trans f89).sub fun a ha => List.mem_cons_of_mem _ ha
        have hb9 := J5.hb.ex (ofs_fr f49)
        refine w_forLr (K := K) (bk := sm) (bv := bvs) (fun Q q => w_v rfl q) (fun i σ' H' => ∃ (u9 u10 : Option V) (ns : List Nat), σ' = [some (.ref d), some bv, some fv, some v, u4, u5, some (.int (s1.lent.length : Int)), some (.ref sm), u8, u9, u10, none] ∧ backF (bs.drop i) ns = some nsx ∧ LawAt K d al sl q pw0 yw0 { sc with lent := s1.lent, nums := ns } H' ∧ Fr [al] H9 H') ?_ ?_ ?_ ?_
        · exact ⟨_, _, sc.nums, rfl, by simpa using hba, R9', Fr.refl⟩
        · rintro i σ' H' ⟨u9, u10, ns, rfl, h1, R7, f7⟩
          exact f7 _ _ (by simpa using nsa) hsm9
        · rintro i x σ' H' hx ⟨u9, u10, ns, rfl, h1, R7, f7⟩
          obtain ⟨qi, hvi, hdi, bi, rfl, g1, g2, g3, g4⟩ := hb9.get hx
          have nal : ∀ {a o}, Ofs (sm :: sR d al sl ll1) H9 a = some o → H' a = some o := fun {a o} h => by
            unfold Ofs at h
            split at h
            · cases h
            · rename_i hn
              exact f7 _ _ (fun hm => hn (by simp only [List.mem_singleton] at hm; rw [hm]; simp [sR])) h
          refine ⟨qi, hvi, bV bi, rfl, SqT.of (nal g1), ?_⟩
          have hdr : bs.drop i = bi :: bs.drop (i + 1) := by
            obtain ⟨hi, e⟩ := List.getElem?_eq_some_iff.mp g4
            rw [List.drop_eq_getElem_cons hi, e]
          rw [hdr] at h1
          try dsimp only
          refine Pst.go (K := K) ?_
          cases bi with
          | none =>
            simp only [backF] at h1
            refine pst_if (K := K) (b := false) (tk_is (tk_vB (ed_notNv (v := .non) rfl)) rfl) (fun hb => by cases hb) (fun _ => pst_of fun H10 e10 => ?_)
            exact ⟨_, _, ns, rfl, h1, R7.ex e10, f7.trans (Fr.of e10)⟩
          | some pp =>
            obtain ⟨pl, o⟩ := pp
            simp only [backF] at h1
            cases hno : ns[o]? with
            | none => rw [hno] at h1; cases h1
            | some vn =>
            rw [hno] at h1
            dsimp only at h1
            have hpl : pl < ns.length := by
              split at h1
              · assumption
              · cases h1
            rw [if_pos hpl] at h1
            have ehd := g3 pl o rfl
            subst ehd
            have hxr : ∃ a l, hvi = .ref a ∧ Ofs (sm :: sR d al sl ll1) H9 a = some (.tup [.str "road", .int (o : Int), .ref l]) := by
              cases g2 with
              | road q1 q2 => exact ⟨_, _, rfl, q1⟩
            obtain ⟨a, l, rfl, ga⟩ := hxr
            refine pst_if (K := K) (b := true) (tk_is (tk_vB (ed_notNv (v := .int (pl : Int)) rfl)) rfl) (fun _ => pst_of fun H10 e10 => ?_) (fun hb => by cases hb)
            have R10 := R7.ex e10
            refine w_asgG (w_d (K := K) (d := .int (vn : Int)) ?_ fun v11 H11 e11 t11 => ?_)
            · exact ed_ixL (i := (o : Int)) (edr_ev (ev_dg rfl R10.ob rfl) R10.nums (nV_td _)) (ed_i (ev_op (ev_var rfl) ev_c (rv_ixT (SqT.of (e10 _ _ (nal ga))) rfl))) (atI_nat (by rw [nD, List.getElem?_map, hno] <;> rfl))
            cases t11
            have R11 := R10.ex e11
            refine w_gsub (w_dg rfl R11.ob rfl (w_v rfl ⟨al, _, (pl : Int), pl, rfl, rfl, R11.nums, ?_, ?_⟩))
            · have hl2 : pl < (nV ns).length := by simpa [nV] using hpl
              unfold ixN
              simp
              omega
            exact ⟨_, _, _, rfl, h1, R11.setn, ((f7.trans (Fr.of (e10.trans e11)))).trans (Fr.upd (by simp))⟩
        · rintro σ' H' ⟨u9, u10, ns, rfl, h1, R7, f7⟩
          have eb : bvs.length = bs.length := by
            rw [J5.hb.len, handAll_len hha, handAll_len2 hha]
          rw [eb, List.drop_length] at h1
          cases h1
          have f19 : Fr (sR d al sl ll1) H1 H9 := Fr.fresh (p := sm) (((Fr.of ((e2.trans e3).trans e4)).trans J5.f).trans f49) hsm1
          refine fin R7 ⟨f19.trans (f7.sub (by simp [sR])), ?_⟩
          by_cases hqs : q ∈ sR d al sl ll1
          · exact .inl hqs
          · refine .inr ?_
            cases hq1 : H1 q with
            | none => rfl
            | some o =>
              have h18 : Fr (sm :: sR d al sl ll1) H1 H8 := ((Fr.of ((e2.trans e3).trans e4)).trans J5.f).trans (((Fr.of e67).trans n8.1).sub fun a ha => List.mem_cons_of_mem _ ha)
              have := h18 q o (by simp only [List.mem_cons, not_or]; exact ⟨(fun e => by rw [e, hsm1] at hq1; cases hq1), hqs⟩) hq1
              rw [hq] at this
              cases this
  · rintro σ' H1 ⟨u3, u4, u5, u6, u7, u8, u9, u10, ll1, s1, rfl, h1, R1, nx⟩
    rw [List.take_length, hgo] at h1
    cases h1
    exact k ll1 H1 R1 nx
end
end Hw

set_option maxRecDepth 100000
set_option maxHeartbeats 4000000
/-! RL6: whole runs by the law -/
namespace Hw
open PySem PySem.Spec PyProof.Rows L2 Evl
local macro_rules | `(tactic| walk_at "dd") => `(tactic| first | rfl | decide | (simp; done) | omega)
local macro_rules | `(tactic| walk_at "td") => `(tactic| first | assumption | exact Td.int _ | exact Td.bl _ | exact Td.str _ | exact Td.non | exact Td.tup (by assumption) (by assumption))
local macro_rules | `(tactic| walk_at "ev") => `(tactic| first
  | exact ed_ci | exact ed_cs | exact ed_cb | exact ed_cn
  | (apply ed_cg; assumption)
  | (apply ed_var; (rfl); (walk_at "td"))
  | (apply ed_ixT; (walk_at "ev"); (walk_at "ev"); (first | rfl | assumption))
  | (apply ed_rowI; (rfl); (assumption); (walk_at "ev"); (rfl))
  | (apply ed_ixL; (apply EvDL.rd; walk_at "edl"); (walk_at "ev"); (rfl))
  | (apply ed_intb; (walk_at "ev"))
  | (apply ed_len; walk_at "ev")
  | (apply ed_lenV; (apply ev_rowR; (rfl); (assumption); (walk_at "ev"); (rfl)); (assumption))
  | (apply ed_Ii; (walk_at "ev"); (walk_at "ev"); (walk_at "cc"))
  | (apply ed_isi; (walk_at "ev"); (rfl))
  | (apply ed_I0i; (walk_at "ev"); (walk_at "ev"))
  | (apply ed_I0b; (walk_at "ev"); (walk_at "ev"))
  | (apply ed_eqi; (walk_at "ev"); (walk_at "ev"))
  | (apply ed_nei; (walk_at "ev"); (walk_at "ev"))
  | (apply ed_andF; walk_at "ev")
  | (apply ed_andV; (walk_at "ev"); (intro _; walk_at "ev"))
  | (apply ed_orT; walk_at "ev")
  | (apply ed_orV; (walk_at "ev"); (intro _; walk_at "ev"))
  | (apply ed_notT; walk_at "ev")
  | (apply ed_notF; walk_at "ev")
  | (apply ed_notV; walk_at "ev")
  | (apply ed_chain; (walk_at "ev"); (walk_at "ev"); (intro _; walk_at "ev"))
  | (apply ed_eqS; (walk_at "ev"); (walk_at "ev"); (walk_at "bb"); (walk_at "bb"))
  | (apply ed_neS; (walk_at "ev"); (walk_at "ev"); (walk_at "bb"); (walk_at "bb"))
  | (apply ed_inT; (walk_at "ev"); (walk_at "ev"); (rfl); (rfl))
  | (apply ed_niT; (walk_at "ev"); (walk_at "ev"); (rfl); (rfl))
  | (apply ed_tup; (walk_at "eva"); (walk_at "bb"))
  | (apply ed_sl; (walk_at "ev"); (walk_at "evo"); (walk_at "evo"))
  | (apply ed_eqN; (apply EvDL.rd; walk_at "edl"); (walk_at "edl"); (walk_at "bb"))
  | (apply ed_neN; (apply EvDL.rd; walk_at "edl"); (walk_at "edl"); (walk_at "bb"))
  | (apply ed_ixL; (apply edr_var; (rfl); (assumption); (assumption)); (walk_at "ev"); (first | rfl | assumption))
  | (apply ed_lenL; (apply edr_var; (rfl); (assumption); (assumption)))
  | (apply ed_call; (walk_at "eva"); (walk_at "post")))
local macro_rules | `(tactic| walk_at "edl") => `(tactic| first
  | assumption
  | (apply edl_lst; (walk_at "eva"); (walk_at "bb")))
local macro_rules | `(tactic| walk_at "eva") => `(tactic| first
  | exact eda_nil
  | (apply eda_cons; (walk_at "ev"); (walk_at "eva")))
local macro_rules | `(tactic| walk_at "evo") => `(tactic| first
  | exact eok_none
  | (apply eok_some; walk_at "ev"))
local macro_rules | `(tactic| walk_at "bb") => `(tactic| first | rfl | assumption | (simp; done) | (simp; omega) | decide +kernel)
local macro_rules | `(tactic| walk_at "et") => `(tactic| first
  | exact tk_yes
  | (apply tk_andF; walk_at "et")
  | (apply tk_and; (walk_at "et"); (intro _; walk_at "et"))
  | (apply tk_orT; walk_at "et")
  | (apply tk_or; (walk_at "et"); (intro _; walk_at "et"))
  | (apply tk_notT; walk_at "et")
  | (apply tk_notF; walk_at "et")
  | (apply tk_not; walk_at "et")
  | (apply tk_v; walk_at "ev")
  | (apply tk_vB; walk_at "ev"))
local macro_rules | `(tactic| walk_at "if") => `(tactic| first
  | (apply pst_whenF; (walk_at "et"); (walk_at "bb"))
  | (apply pst_whenT; (walk_at "et"); (walk_at "bb")))
local macro_rules | `(tactic| walk_at "post") => `(tactic| first | assumption | exact ⟨_, _, rfl, rfl⟩ | exact ⟨_, _, _, _, rfl, by omega, by omega, rfl⟩ | exact ⟨_, _, _, 0, rfl, by omega, by omega, rfl⟩)
local macro_rules | `(tactic| walk_at "cc") => `(tactic| first | assumption | decide | omega | (refine ⟨?_, ?_⟩ <;> first | decide | omega) | (exact Or.inl (by constructor <;> omega)))

section
variable {K : PySem.W.Frag} {σ : L2.St} {H H' : Hp} {Q : VK}
theorem w_disp {trs : List (TE × TE)} (h : ∀ p, H p = none → tPairs trs σ (upd H p (.dK [])) fun ps H2 => H2 p = some (.dK []) ∧ ∃ kvs : List (Key × V), ps = kvs.map (fun kv => (kV kv.1, kv.2)) ∧ kvs.length ≤ 15 ∧ Q (.ref p) (upd H2 p (.dK (mergeK [] kvs)))) : tDisp trs σ H Q := h
theorem w_pair {tk tv : TE} {r : List (TE × TE)} {R : List (V × V) → Hp → Prop} (h : tk σ H fun x H1 => tv σ H1 fun y H2 => tPairs r σ H2 fun ps H3 => R ((x, y) :: ps) H3) : tPairs ((tk, tv) :: r) σ H R := h
theorem w_pnil {R : List (V × V) → Hp → Prop} (h : R [] H) : tPairs [] σ H R := h
end
def spBegun (K : PySem.W.Frag) : Sp := fun vs H Q _ => ∃ (pw0 yw0 cv : V) (cells : List Nat), vs = [pw0, yw0, cv] ∧ Td K H cv (.tuple (nD cells)) ∧ ∀ d al sl ll H', H d = none → H al = none → H sl = none → H ll = none → Ex H H' → LawAt K d al sl ll pw0 yw0 ⟨cells, [], [], 0, false⟩ H' → Q (.ref d) H'
/-- what the law's run tells -/
def spLRan (K : PySem.W.Frag) (p : List Wk) (ys : List (List Str)) (M n : Nat) : Sp := fun vs H Q _ => ∃ (pw0 yw0 cv : V) (cells : List Nat) (s' : Sg), vs = [pw0, yw0, cv] ∧ Td K H pw0 (encP p) ∧ Td K H yw0 (encY ys) ∧ Td K H cv (.tuple (nD cells)) ∧ runF p ys M n cells = some s' ∧
  ∀ q sl tv H', H sl = none → Ex H H' → H' q = some (.tup [.ref sl, tv, .bl s'.mixed]) → H' sl = some (.lst (nV s'.said)) → Td K H' tv (.tuple (nD (s'.nums.take 3))) → Q (.ref q) H'
section
variable {P : Program} {w : World} {K : PySem.W.Frag} {mg : Str → Option Value} {base : Heap} (T : Tx K mg)
include T
theorem ok_lgoes {p : List Wk} {ys : List (List Str)} {M : Nat} (hp : PrOk p ys) : ∀ n : Nat, Fn__law_goes T P w base CX0 (M + 5 + 2 * n) (spLGoes K p ys M n)
  | 0 => goes_step T (lv := M + 4) (Nat.le_refl _) hp (fun _ _ _ _ => False) (fun _ _ _ _ => False) (fun h => absurd h (Nat.lt_irrefl _)) (fn_vac fun _ _ _ _ h => h) (fn_vac fun _ _ _ _ h => h) (ok_meets T) (ok_lfn T M).1 (ok_lfn T M).2 (ok_handed T (ok_meets T) (ok_lnew T) (ok_lfn T M).1 (ok_lfn T M).2)
  | n + 1 => by
    have g := ok_lgoes (M := M) hp n
    have d := ok_ldoes T (by omega) hp g (ok_lnew T)
    have s := goes_step T (lv := M + 5 + 2 * n + 1) (n := n + 1) (by omega) hp (spLGoes K p ys M n) (spLDoes K p ys M n) (fun _ => ⟨rfl, rfl⟩) (FnOk.mono g (by omega)) d (ok_meets T) (ok_lfn T M).1 (ok_lfn T M).2 (ok_handed T (ok_meets T) (ok_lnew T) (ok_lfn T M).1 (ok_lfn T M).2)
    have e : M + 5 + 2 * (n + 1) = M + 5 + 2 * n + 1 + 1 := by omega
    rw [e]
    exact s
theorem ok_begun : Fn__law_begun T P w base CX0 1 (spBegun K) := by
  refine T.F__law_begun.ok sc__law_begun (fun vs H Q E h => by obtain ⟨_, _, _, _, rfl, _⟩ := h; rfl) fun cdv A outer s0 H vs Q E hr h => ?_
  obtain ⟨pw0, yw0, cv, cells, rfl, tc, k⟩ := h
  refine ⟨_, (pss_one (ps_ret (pe_disp (pps_cons pe_str (pv 0) (pps_cons pe_str (pv 1) (pps_cons pe_str (pe_callTy (kc_list K) rfl T.b_list (by decide +kernel) (pa_cons (pv 2) pa_nil)) (pps_cons pe_str (pe_lst pa_nil) (pps_cons pe_str (pe_lst pa_nil) (pps_cons pe_str pe_int (pps_cons pe_str pe_bl pps_nil))))))) (by rfl) (by rfl) (fun z => by cases z) (by decide)))), ?_⟩
  refine w_ret (w_disp fun d hd => ?_)
  have e1 : Ex H (upd H d (.dK [])) := Ex.new hd
  obtain ⟨pc, cs, rfl, hpc, hca⟩ := (tc.ex e1).tup_inv
  have ecs := tdV hca
  subst ecs
  refine w_pair (w_c (w_v rfl (w_pair (w_c (w_v rfl (w_pair (w_c (w_cb (w_cons (w_v rfl (w_nil ⟨pc, _, rfl, .inr hpc, fun al hal => ?_⟩)))))))))))
  refine w_pair (w_c (w_lst (w_nil ⟨Nat.zero_le _, fun sl hsl => w_pair (w_c (w_lst (w_nil ⟨Nat.zero_le _, fun ll hll => w_pair (w_c (w_c (w_pair (w_c (w_c (w_pnil ?_))))))⟩)))⟩)))
  have hd1 : upd H d (.dK []) d = some (.dK []) := upd_same
  have nda : al ≠ d := fun e => by rw [e, hd1] at hal; cases hal
  have hd2 := (Ex.new (o := .lst (nV cells)) hal) _ _ hd1
  have nsd : sl ≠ d := fun e => by rw [e, hd2] at hsl; cases hsl
  have nsa : sl ≠ al := fun e => by rw [e, upd_same] at hsl; cases hsl
  have hd3 := (Ex.new (o := .lst []) hsl) _ _ hd2
  have ha3 := (Ex.new (o := .lst []) hsl) al _ upd_same
  have nld : ll ≠ d := fun e => by rw [e, hd3] at hll; cases hll
  have nla : ll ≠ al := fun e => by rw [e, ha3] at hll; cases hll
  have nls : ll ≠ sl := fun e => by rw [e, upd_same] at hll; cases hll
  have hd4 := (Ex.new (o := .lst []) hll) _ _ hd3
  have ha4 := (Ex.new (o := .lst []) hll) _ _ ha3
  have hs4 := (Ex.new (o := .lst []) hll) sl _ upd_same
  have e14 := ((Ex.new (o := .lst (nV cells)) hal).trans (Ex.new (o := .lst []) hsl)).trans (Ex.new (o := .lst []) hll)
  refine ⟨hd4, lawKs pw0 yw0 al sl ll ⟨cells, [], [], 0, false⟩, rfl, by show 7 ≤ 15; decide, ?_⟩
  have em : mergeK [] (lawKs pw0 yw0 al sl ll ⟨cells, [], [], 0, false⟩) = lawKs pw0 yw0 al sl ll ⟨cells, [], [], 0, false⟩ := by rfl
  rw [em]
  have back : ∀ {q H'}, Ex H H' → H' q = none → H q = none := fun e h => fresh_back e h
  refine k d al sl ll _ hd (back e1 hal) (back (e1.trans (Ex.new hal)) hsl) (back ((e1.trans (Ex.new hal)).trans (Ex.new hsl)) hll) (Ex.mut (e1.trans e14) hd) ⟨upd_same, ?_, ?_, ⟨[], ?_, .nil⟩, Ne.symm nsa, Ne.symm nla, Ne.symm nls⟩
  · rw [upd_ne nda]; exact ha4
  · rw [upd_ne nsd]; exact hs4
  · rw [upd_ne nld]; exact upd_same
theorem ok_lran {p : List Wk} {ys : List (List Str)} {M n lv : Nat} (hl : 1 ≤ lv) (hp : PrOk p ys) (GB : Fn__law_begun T P w base CX0 1 (spBegun K)) (GD : Fn__law_does T P w base CX0 lv (spLDoes K p ys M n)) : Fn__law_ran T P w base CX0 (lv + 1) (spLRan K p ys M n) := by
  have G__law_begun := GB
  have G__law_does := GD
  refine T.F__law_ran.ok sc__law_ran (fun vs H Q E h => by obtain ⟨_, _, _, _, _, rfl, _⟩ := h; rfl) fun cdv A outer s0 H vs Q E hr h => ?_
  obtain ⟨pw0, yw0, cv, cells, s', rfl, tp, ty, tc, hrun, k⟩ := h
  refine ⟨_, (pss_cons (ps_set (i := 3) sc__law_ran.nd rfl (Or.inl rfl) (pe_call G__law_begun (hr.mono (by omega)) (by rfl) T.g__law_begun T.k__law_begun T.bd__law_begun .nil pass0 (pa_cons (pv 0) (pa_cons (pv 1) (pa_cons (pv 2) pa_nil)))))
  (pss_cons (ps_expr (pe_call G__law_does (hr.mono (by omega)) (by rfl) T.g__law_does T.k__law_does T.bd__law_does .nil pass0 (pa_cons (pv 3) (pa_cons pe_int (pa_cons (pe_lst pa_nil) pa_nil)))))
  (pss_one (ps_ret (pe_tup (pa_cons (pe_dget (hu_of hr) (pv 3) pe_str (fun _ _ => rfl)) (pa_cons (pe_callTy (kc_tuple K) rfl T.b_tuple (by decide +kernel) (pa_cons (pe_slice (ksl_list K) (pe_dget (hu_of hr) (pv 3) pe_str (fun _ _ => rfl)) po_none (po_some pe_int)) pa_nil)) (pa_cons (pe_dget (hu_of hr) (pv 3) pe_str (fun _ _ => rfl)) pa_nil)))))))), ?_⟩
  unfold runF at hrun
  cases hwk : p[0]? with
  | none => rw [hwk] at hrun; cases hrun
  | some wk =>
  rw [hwk] at hrun
  dsimp only at hrun
  cases hown : ownF wk.owns ⟨cells, [], [], 0, false⟩ with
  | none => rw [hown] at hrun; cases hrun
  | some x2 =>
  obtain ⟨os, s2⟩ := x2
  rw [hown] at hrun
  dsimp only at hrun
  refine w_seq (w_asg (w_call (w_cons (w_v rfl (w_cons (w_v rfl (w_cons (w_v rfl (w_nil ⟨pw0, yw0, cv, cells, rfl, tc, fun d al sl ll H1 hd hal hsl hll e1 R1 => ?_⟩)))))))))
  dsimp only
  refine w_seq (w_drop (w_call (w_cons (w_v rfl (w_cons (w_c (w_cons (w_lst (w_nil ⟨Nat.zero_le _, fun lp hlp => w_nil ?_⟩)))))))))
  have e2 : Ex H1 (upd H1 lp (.lst [])) := Ex.new hlp
  have W2 : LawW K p ys d al sl ll pw0 yw0 ⟨cells, [], [], 0, false⟩ (upd H1 lp (.lst [])) := ⟨R1.ex e2, (tp.ex e1).ex e2, (ty.ex e1).ex e2⟩
  refine ⟨d, al, sl, ll, pw0, yw0, ⟨cells, [], [], 0, false⟩, s2, s', 0, wk, os, [], lp, [], rfl, W2, hwk, upd_same, R1.off hlp, .nil, hown, hrun, fun ll' H3 R3 n3 => ?_⟩
  have e3 : Ex H H3 := fun q o h => by
    refine n3.1 q o ?_ (e2 _ _ (e1 _ _ h))
    have n1 : q ≠ d := fun e => by rw [e, hd] at h; cases h
    have n2 : q ≠ al := fun e => by rw [e, hal] at h; cases h
    have n3 : q ≠ sl := fun e => by rw [e, hsl] at h; cases h
    have n4 : q ≠ ll := fun e => by rw [e, hll] at h; cases h
    simp [sR, n1, n2, n3, n4]
  try dsimp only
  refine w_ret (w_tup (w_cons (w_dg rfl R3.ob rfl (w_cons (w_tupl (w_sl (w_dg rfl R3.ob rfl ⟨3, rfl, al, _, rfl, SqL.of R3.nums, fun p3 hp3 => ?_⟩)))))))
  have t3 : TdAll K H3 (cutV (nV s'.nums) none (some 3)) (nD (s'.nums.take 3)) := by
    rw [← cut3]
    exact (nV_td s'.nums).cut none (some 3)
  have e4 : Ex H3 (upd H3 p3 (.lst (cutV (nV s'.nums) none (some 3)))) := Ex.new hp3
  refine tupl_go upd_same fun l hl3 => w_cons (w_dg rfl (R3.ex (e4.trans (Ex.new hl3))).ob rfl (w_nil ⟨by show 3 ≤ sizeLine; decide, fun q hq => ?_⟩))
  have e5 : Ex (upd H3 p3 (.lst (cutV (nV s'.nums) none (some 3)))) (upd (upd H3 p3 (.lst (cutV (nV s'.nums) none (some 3)))) l (.tup (cutV (nV s'.nums) none (some 3)))) := Ex.new hl3
  refine k q sl (.ref l) _ hsl (((e3.trans e4).trans e5).trans (Ex.new hq)) upd_same (((e4.trans e5).trans (Ex.new hq)) _ _ R3.said) ?_
  exact (td_new hl3 (t3.ex e4)).ex (Ex.new hq)
theorem ok_lout {p : List Wk} {ys : List (List Str)} {M n lv : Nat} (GR : Fn__law_ran T P w base CX0 lv (spLRan K p ys M n)) : Fn__law_out T P w base CX0 (lv + 1) (spOut K p ys M n) := by
  have G__law_ran := GR
  refine T.F__law_out.ok sc__law_out (fun vs H Q E h => by obtain ⟨_, _, _, _, _, rfl, _⟩ := h; rfl) fun cdv A outer s0 H vs Q E hr h => ?_
  obtain ⟨pw0, yw0, cv, cells, s', rfl, tp, ty, tc, hrun, k⟩ := h
  refine ⟨_, (pss_one (ps_ret (pe_slice (ksl_tup K) (pe_call G__law_ran (hr.mono (by omega)) (by rfl) T.g__law_ran T.k__law_ran T.bd__law_ran .nil pass0 (pa_cons (pv 0) (pa_cons (pv 1) (pa_cons (pv 2) pa_nil)))) po_none (po_some pe_int)))), ?_⟩
  refine w_ret (w_sl (w_call (w_cons (w_v rfl (w_cons (w_v rfl (w_cons (w_v rfl (w_nil ⟨pw0, yw0, cv, cells, s', rfl, tp, ty, tc, hrun, fun q sl tv H1 hsl e1 hq hs ht => ⟨2, rfl, q, _, rfl, SqT.of hq, fun hw => ?_, fun _ x hx => ?_⟩⟩)))))))))
  · have := hw.2
    revert this
    show HT.sIx 3 3 (some ((2 : Nat) : Int)) = 3 → _
    rw [HT.sIx_nat]
    intro h
    cases h
  · have e2 : Ex H1 (upd H1 x (.tup (cutV [.ref sl, tv, .bl s'.mixed] none (some 2)))) := Ex.new hx
    refine k x sl tv _ (fresh_back e1 hx) hsl (e1.trans e2) ?_ (e2 _ _ hs) (ht.ex e2)
    rw [upd_same]
    rfl
theorem ok_cells : Fn__law_cells T P w base CX0 1 (spCells K) := by
  refine T.F__law_cells.ok sc__law_cells (fun vs H Q E h => by obtain ⟨rfl, _⟩ := h; rfl) fun cdv A outer s0 H vs Q E hr h => ?_
  obtain ⟨rfl, k⟩ := h
  refine ⟨_, (pss_one (ps_ret (pe_lc (own := [("_law_k", 0)]) (g := gName 0) (tt := tYes) rfl sc__law_cells.nd (pi_range1 rfl T.b_range (pa_cons pe_int pa_nil)) (blkOk_by (N := ["_law_k"]) (sc := defScope s__law_cells) (by decide +kernel)) (fun _ _ _ _ _ => (pg_name (i := 0) sc__law_cells.nd rfl (Or.inl rfl))) (fun _ _ _ _ _ => pts_nil) (fun _ _ _ _ _ => (pe_tup (pa_cons (pe_op op_fdivN (pv 0) pe_int) (pa_cons (pe_op op_modN (pe_op op_fdivN (pv 0) pe_int) pe_int) (pa_cons (pe_op op_modN (pv 0) pe_int) pa_nil)))))))), ?_⟩
  refine w_ret (w_dl (K := K) (ds := cellsD) ?_ k)
  refine edl_is (edl_lcR (n := 27) (fun _ => true) (fun k => .tuple [.int (((k : Int)).fdiv 9), .int (((k : Int).fdiv 3).fmod 3), .int ((k : Int).fmod 3)]) (eda_cons ed_ci eda_nil) (by decide) (fun _ => rfl) (fun i H1 e1 hi => tk_yes) fun i H1 e1 hi _ => ?_) ?_
  · refine ed_tup (eda_cons (ed_Ii (ed_var rfl (.int _)) ed_ci ⟨by decide, by decide⟩) (eda_cons (ed_Ii (ed_Ii (ed_var rfl (.int _)) ed_ci ⟨by decide, by decide⟩) ed_ci (by decide)) (eda_cons (ed_Ii (ed_var rfl (.int _)) ed_ci (by decide)) eda_nil))) (by simp)
  · rfl
end
end Hw

set_option maxRecDepth 100000
set_option maxHeartbeats 4000000
/-! TO1: a run of what is let by ends: things -/
namespace Hw
open PySem PySem.Spec PyProof.Rows L2 Evl
theorem okT_wf {ps os : Nat} : ∀ (t : Th) (j : Nat), okT ps os t j = true → wfT ps os t = true ∧ dpT t + j ≤ 4
  | .num n, j, h => by simp [okT] at h; simp [wfT, dpT]; omega
  | .own n, j, h => by simp [okT] at h; simp [wfT, dpT]; omega
  | .par n, j, h => by simp [okT] at h; simp [wfT, dpT]; omega
  | .cell t, j, h => by
    simp only [okT, Bool.and_eq_true, decide_eq_true_eq] at h
    have := okT_wf t (j + 1) h.2
    simp only [wfT, dpT]
    exact ⟨this.1, by omega⟩
  | .sum a b, j, h => by
    simp only [okT, Bool.and_eq_true, decide_eq_true_eq] at h
    have h1 := okT_wf a (j + 1) h.2.1
    have h2 := okT_wf b (j + 1) h.2.2
    simp only [wfT, dpT, Bool.and_eq_true]
    exact ⟨⟨h1.1, h2.1⟩, by omega⟩
mutual
/-- a frame over so many places, so long roads, so many frames up -/
inductive OkFra (L tl : Nat) : Nat → Nat → Nat → Fra → Prop
  | mk {j ps os : Nat} {owns : List Nat} {pars : List Hd} : owns.length = os → (∀ o ∈ owns, o < L) → pars.length = ps → (∀ h ∈ pars, OkHd L tl j h) → OkFra L tl j ps os (.mk owns pars)
inductive OkHd (L tl : Nat) : Nat → Hd → Prop
  | road {j pl : Nat} {th : List Nat} : pl < L → th.length ≤ tl → OkHd L tl j (.road pl th)
  | want {j ps os : Nat} {t : Th} {f : Fra} : wfT ps os t = true → dpT t ≤ 4 → OkFra L tl j ps os f → OkHd L tl (j + 1) (.want t f)
end
mutual
theorem OkFra.mono {L L' tl tl' : Nat} (hL : L ≤ L') (ht : tl ≤ tl') : ∀ {j ps os : Nat} {f : Fra}, OkFra L tl j ps os f → OkFra L' tl' j ps os f
  | _, _, _, _, .mk h1 h2 h3 h4 => .mk h1 (fun o ho => Nat.lt_of_lt_of_le (h2 o ho) hL) h3 (fun h hh => OkHd.mono hL ht (h4 h hh))
theorem OkHd.mono {L L' tl tl' : Nat} (hL : L ≤ L') (ht : tl ≤ tl') : ∀ {j : Nat} {h : Hd}, OkHd L tl j h → OkHd L' tl' j h
  | _, _, .road h1 h2 => .road (Nat.lt_of_lt_of_le h1 hL) (Nat.le_trans h2 ht)
  | _, _, .want h1 h2 h3 => .want h1 h2 (OkFra.mono hL ht h3)
end
/-- three common cells, numbers below three -/
structure SOk (s : Sg) : Prop where
  three : 3 ≤ s.nums.length
  lt : ∀ v ∈ s.nums, v < 3
theorem SOk.of {s s' : Sg} (h : SOk s) (e : s'.nums = s.nums) : SOk s' := ⟨by rw [e]; exact h.three, by rw [e]; exact h.lt⟩
def rdOk (L tl : Nat) : Option (Nat × List Nat) → Prop
  | none => True
  | some (pl, th) => pl < L ∧ th.length ≤ tl
theorem come_nums (pl : Nat) (th : List Nat) (s : Sg) : (come pl th s).nums = s.nums := rfl
theorem ev_ok {L tl : Nat} (h3 : 3 ≤ L) : ∀ (j : Nat) (t : Th) {ps os : Nat} {f : Fra}, OkFra L tl j ps os f → wfT ps os t = true → dpT t ≤ 4 → ∀ s : Sg, SOk s → L ≤ s.nums.length →
    (∀ n, 2 * dpT t + 1 + 12 * j ≤ n → ∃ o s', findF n t f s = some (o, s') ∧ rdOk L tl o) ∧ (∀ n, 2 * dpT t + 2 + 12 * j ≤ n → ∃ v s', numF n t f s = some (v, s') ∧ v < 3) := by
  intro j
  induction j using Nat.strongRecOn with
  | ind j ihj =>
  intro t
  induction t with
  | num i =>
    intro ps os f hf hw hd s hs hL
    refine ⟨fun n hn => ?_, fun n hn => ?_⟩
    · obtain ⟨n, rfl⟩ : ∃ m, n = m + 1 := ⟨n - 1, by omega⟩
      exact ⟨none, s, by simp [findF], True.intro⟩
    · obtain ⟨n, rfl⟩ : ∃ m, n = m + 1 := ⟨n - 1, by omega⟩
      simp [wfT] at hw
      exact ⟨i, s, by simp [numF], hw⟩
  | sum a b iha ihb =>
    intro ps os f hf hw hd s hs hL
    simp only [wfT, Bool.and_eq_true] at hw
    simp only [dpT] at hd
    refine ⟨fun n hn => ?_, fun n hn => ?_⟩
    · obtain ⟨n, rfl⟩ : ∃ m, n = m + 1 := ⟨n - 1, by omega⟩
      exact ⟨none, s, by simp [findF], True.intro⟩
    · simp only [dpT] at hn
      obtain ⟨n, rfl⟩ : ∃ m, n = m + 1 := ⟨n - 1, by omega⟩
      obtain ⟨v1, s1, h1, hv1⟩ := (iha hf hw.1 (by omega) s hs hL).2 n (by omega)
      have e1 := (numF_lent h1).2.1
      obtain ⟨v2, s2, h2, hv2⟩ := (ihb hf hw.2 (by omega) s1 (hs.of e1) (by rw [e1]; exact hL)).2 n (by omega)
      exact ⟨(v1 + v2) % 3, s2, by simp [numF, h1, h2], by omega⟩
  | cell t ih =>
    intro ps os f hf hw hd s hs hL
    simp only [wfT] at hw
    simp only [dpT] at hd
    have fnd : ∀ n, 2 * dpT (.cell t) + 1 + 12 * j ≤ n → ∃ v s', findF n (.cell t) f s = some (some (v, []), s') ∧ v < 3 := by
      intro n hn
      simp only [dpT] at hn
      obtain ⟨n, rfl⟩ : ∃ m, n = m + 1 := ⟨n - 1, by omega⟩
      obtain ⟨v1, s1, h1, hv1⟩ := (ih hf hw (by omega) s hs hL).2 n (by omega)
      exact ⟨v1, s1, by simp [findF, h1], hv1⟩
    refine ⟨fun n hn => ?_, fun n hn => ?_⟩
    · obtain ⟨v, s', h1, hv⟩ := fnd n hn
      exact ⟨_, s', h1, by omega, Nat.zero_le _⟩
    · obtain ⟨n, rfl⟩ : ∃ m, n = m + 1 := ⟨n - 1, by omega⟩
      obtain ⟨v, s', h1, hv⟩ := fnd n (by omega)
      have e1 := (findF_lent h1).2.1
      have hlt : v < s'.nums.length := by rw [e1]; omega
      refine ⟨s'.nums[v], come v [] s', ?_, ?_⟩
      · simp [numF, h1, come_nums, List.getElem?_eq_getElem hlt]
      · exact (hs.of e1).lt _ (List.getElem_mem hlt)
  | own k =>
    intro ps os f hf hw hd s hs hL
    simp [wfT] at hw
    cases hf with
    | @mk _ _ _ owns pars q1 q2 q3 q4 =>
    have hk : k < owns.length := by omega
    have fnd : ∀ n, 1 ≤ n → findF n (.own k) (.mk owns pars) s = some (some (owns[k], []), s) := by
      intro n hn
      obtain ⟨n, rfl⟩ : ∃ m, n = m + 1 := ⟨n - 1, by omega⟩
      simp [findF, Fra.owns, List.getElem?_eq_getElem hk]
    have ho := q2 _ (List.getElem_mem hk)
    refine ⟨fun n hn => ⟨_, s, fnd n (by omega), by omega, Nat.zero_le _⟩, fun n hn => ?_⟩
    obtain ⟨n, rfl⟩ : ∃ m, n = m + 1 := ⟨n - 1, by omega⟩
    have hlt : owns[k] < s.nums.length := by omega
    refine ⟨s.nums[owns[k]], come owns[k] [] s, ?_, hs.lt _ (List.getElem_mem hlt)⟩
    simp [numF, fnd n (by omega), come_nums, List.getElem?_eq_getElem hlt]
  | par k =>
    intro ps os f hf hw hd s hs hL
    simp [wfT] at hw
    cases hf with
    | @mk _ _ _ owns pars q1 q2 q3 q4 =>
    have hk : k < pars.length := by omega
    have hp : pars[k]? = some pars[k] := List.getElem?_eq_getElem hk
    have hh := q4 _ (List.getElem_mem hk)
    generalize pars[k] = hd at *
    cases hh with
    | @road _ pl th g1 g2 =>
      have fnd : ∀ n, 1 ≤ n → findF n (.par k) (.mk owns pars) s = some (some (pl, th), s) := by
        intro n hn
        obtain ⟨n, rfl⟩ : ∃ m, n = m + 1 := ⟨n - 1, by omega⟩
        simp [findF, Fra.pars, hp]
      refine ⟨fun n hn => ⟨_, s, fnd n (by omega), g1, g2⟩, fun n hn => ?_⟩
      obtain ⟨n, rfl⟩ : ∃ m, n = m + 1 := ⟨n - 1, by omega⟩
      have hlt : pl < s.nums.length := by omega
      refine ⟨s.nums[pl], come pl th s, ?_, hs.lt _ (List.getElem_mem hlt)⟩
      simp [numF, fnd n (by omega), come_nums, List.getElem?_eq_getElem hlt]
    | @want j' ps' os' t' f' g1 g2 g3 =>
      have ih := ihj j' (by omega) t' g3 g1 g2
      have fnd : ∀ n, 2 * dpT (.par k) + 1 + 12 * (j' + 1) ≤ n → ∃ o s', findF n (.par k) (.mk owns pars) s = some (o, s') ∧ rdOk L tl o := by
        intro n hn
        obtain ⟨n, rfl⟩ : ∃ m, n = m + 1 := ⟨n - 1, by omega⟩
        obtain ⟨o, s', h1, h2⟩ := (ih s hs hL).1 n (by omega)
        exact ⟨o, s', by simp [findF, Fra.pars, hp, h1], h2⟩
      refine ⟨fnd, fun n hn => ?_⟩
      obtain ⟨n, rfl⟩ : ∃ m, n = m + 1 := ⟨n - 1, by omega⟩
      obtain ⟨o, s', h1, h2⟩ := fnd n (by omega)
      have e1 := (findF_lent h1).2.1
      cases o with
      | none =>
        have hs' := findF_none h1
        subst hs'
        obtain ⟨v, s2, h3, hv⟩ := (ih s' hs hL).2 n (by omega)
        exact ⟨v, s2, by simp [numF, h1, Fra.pars, hp, h3], hv⟩
      | some pt =>
        obtain ⟨pl, th⟩ := pt
        have hlt : pl < s'.nums.length := by rw [e1]; have := h2.1; omega
        refine ⟨s'.nums[pl], come pl th s', ?_, (hs.of e1).lt _ (List.getElem_mem hlt)⟩
        simp [numF, h1, come_nums, List.getElem?_eq_getElem hlt]
end Hw

set_option maxRecDepth 100000
set_option maxHeartbeats 4000000
/-! TO2: a run of what is let by ends -/
namespace Hw
open PySem PySem.Spec PyProof.Rows L2 Evl
theorem handF_ok {M L tl j ps os : Nat} {f : Fra} {t : Th} {w : Str} {s : Sg} (hM : 46 ≤ M) (hj : j ≤ 3) (h3 : 3 ≤ L) (hf : OkFra L tl j ps os f) (hw : wfT ps os t = true) (hd : dpT t ≤ 4) (hs : SOk s) (hL : L ≤ s.nums.length) (hn : s.nums.length < mostL) (hl : s.lent.length < mostL) (ht : tl < mostL) :
    ∃ hd b s', handF M t w f s = some (hd, b, s') ∧ OkHd s'.nums.length (tl + 1) (j + 1) hd ∧ SOk s' ∧ s.nums.length ≤ s'.nums.length ∧ s'.nums.length ≤ s.nums.length + 1 ∧ s'.lent.length ≤ s.lent.length + 1 ∧ s'.said = s.said ∧ ∀ pl o, b = some (pl, o) → pl < s'.nums.length ∧ o < s'.nums.length := by
  have E := ev_ok h3 j t hf hw hd s hs hL
  unfold handF
  obtain ⟨o, s1, hfd, ho, e1, e2, e3, e4⟩ : ∃ o s1, (if isLent w = true then findF M t f s else some (none, s)) = some (o, s1) ∧ rdOk L tl o ∧ s1.lent = s.lent ∧ s1.nums = s.nums ∧ s1.said = s.said ∧ s1.many = s.many := by
    split
    · obtain ⟨o, s1, h1, h2⟩ := E.1 M (by omega)
      have h4 := findF_lent h1
      exact ⟨o, s1, h1, h2, h4⟩
    · exact ⟨none, s, rfl, True.intro, rfl, rfl, rfl, rfl⟩
  rw [hfd]
  dsimp only
  have hs1 := hs.of e2
  have hL1 : L ≤ s1.nums.length := by rw [e2]; exact hL
  by_cases hwt : isW "want" w = true
  · rw [if_pos hwt]
    exact ⟨_, _, s1, rfl, .want hw hd (hf.mono hL1 (by omega)), hs1, by rw [e2]; exact Nat.le_refl _, by rw [e2]; omega, by rw [e1]; omega, e3, fun pl o h => by cases h⟩
  rw [if_neg hwt]
  have push : ∀ (s2 : Sg) (v : Nat), s2.nums = s.nums → v < 3 → SOk { s2 with nums := s2.nums ++ [v] } := fun s2 v e hv => by
    refine ⟨?_, fun x hx => ?_⟩
    · show 3 ≤ (s2.nums ++ [v]).length
      rw [e, List.length_append]
      have := hs.three
      omega
    · have hx' : x ∈ s.nums ∨ x = v := by simpa [e] using hx
      rcases hx' with h | h
      · exact hs.lt x h
      · rw [h]; exact hv
  cases o with
  | none =>
    dsimp only
    obtain ⟨v, s2, h1, hv⟩ := (ev_ok h3 j t hf hw hd s1 hs1 hL1).2 M (by omega)
    have q1 := numF_lent h1
    have en : s2.nums = s.nums := q1.2.1.trans e2
    rw [h1]
    dsimp only
    have hlt : s2.nums.length < mostL := by rw [en]; exact hn
    simp only [freshF]
    rw [if_pos hlt]
    refine ⟨_, _, _, rfl, .road ?_ (Nat.zero_le _), push s2 v en hv, ?_, ?_, ?_, q1.2.2.1.trans e3, fun pl o h => by cases h⟩
    · simp
    · simp [en]
    · simp [en]
    · show s2.lent.length ≤ _
      rw [q1.1, e1]
      omega
  | some pt =>
    obtain ⟨pl, th⟩ := pt
    obtain ⟨ho1, ho2⟩ := ho
    dsimp only
    have hlt : (come pl th s1).lent.length < mostL := by
      show s1.lent.length < mostL
      rw [e1]; exact hl
    rw [if_pos hlt]
    have ecl : (come pl th s1).lent = s.lent := e1
    have ecn : (come pl th s1).nums = s.nums := e2
    have ecs : (come pl th s1).said = s.said := e3
    by_cases hpl : isW "place" w = true
    · rw [if_pos hpl, if_pos (by omega)]
      refine ⟨_, _, _, rfl, .road ?_ ?_, hs.of ecn, ?_, ?_, ?_, ecs, fun pl o h => by cases h⟩
      · show pl < (come pl th s1).nums.length
        rw [ecn]; omega
      · simp; exact ho2
      · show _ ≤ (come pl th s1).nums.length
        rw [ecn]; exact Nat.le_refl _
      · show (come pl th s1).nums.length ≤ _
        rw [ecn]; omega
      · simp [ecl]
    · rw [if_neg hpl]
      have hv : (come pl th s1).nums[pl]? = some (s.nums[pl]'(by omega)) := by rw [ecn]; exact List.getElem?_eq_getElem (by omega)
      rw [hv]
      dsimp only
      have hlt2 : (come pl th s1).nums.length < mostL := by rw [ecn]; exact hn
      simp only [freshF]
      rw [if_pos hlt2]
      refine ⟨_, _, _, rfl, .road ?_ (Nat.zero_le _), push { come pl th s1 with many := (come pl th s1).many + 1, lent := (come pl th s1).lent ++ [(pl, (come pl th s1).many + 1)] } _ ecn (hs.lt _ (List.getElem_mem _)), ?_, ?_, ?_, ecs, fun pl2 o h => ?_⟩
      · simp
      · simp [ecn]
      · simp [ecn]
      · simp [ecl]
      · cases h
        simp [ecn]
        omega
theorem handAll_ok {M L tl j ps os : Nat} {f : Fra} (hM : 46 ≤ M) (hj : j ≤ 3) (h3 : 3 ≤ L) (hf : OkFra L tl j ps os f) (ht : tl < mostL) : ∀ {ts : List Th} {ws : List Str} {s : Sg}, ts.length = ws.length → (∀ t ∈ ts, wfT ps os t = true ∧ dpT t ≤ 4) → SOk s → L ≤ s.nums.length → s.nums.length + ts.length ≤ mostL → s.lent.length + ts.length ≤ mostL →
    ∃ hs bs s', handAll M ts ws f s = some (hs, bs, s') ∧ (∀ h ∈ hs, OkHd s'.nums.length (tl + 1) (j + 1) h) ∧ SOk s' ∧ s.nums.length ≤ s'.nums.length ∧ s'.nums.length ≤ s.nums.length + ts.length ∧ s'.lent.length ≤ s.lent.length + ts.length ∧ s'.said = s.said ∧ ∀ pl o, some (pl, o) ∈ bs → pl < s'.nums.length ∧ o < s'.nums.length
  | [], [], s, _, _, hs, hL, hn, hl => ⟨[], [], s, rfl, (fun h hh => by simp at hh), hs, Nat.le_refl _, by simp, by simp, rfl, fun pl o h => by simp at h⟩
  | [], _ :: _, s, h, _, _, _, _, _ => by simp at h
  | _ :: _, [], s, h, _, _, _, _, _ => by simp at h
  | t :: ts, w :: ws, s, he, hall, hs, hL, hn, hl => by
    simp only [List.length_cons] at he hn hl
    have ht0 := hall t List.mem_cons_self
    obtain ⟨hd, b, s1, g1, g2, g3, g4, g5, g6, g7, g8⟩ := handF_ok (w := w) hM hj h3 hf ht0.1 ht0.2 hs hL (by omega) (by omega) ht
    obtain ⟨hs2, bs2, s2, k1, k2, k3, k4, k5, k6, k7, k8⟩ := handAll_ok hM hj h3 hf ht (ts := ts) (ws := ws) (s := s1) (by omega) (fun t h => hall t (List.mem_cons_of_mem _ h)) g3 (by omega) (by omega) (by omega)
    refine ⟨hd :: hs2, b :: bs2, s2, by simp [handAll, g1, k1], fun h hh => ?_, k3, by omega, by simp only [List.length_cons]; omega, by simp only [List.length_cons]; omega, k7.trans g7, fun pl o h => ?_⟩
    · rcases List.mem_cons.mp hh with e | hh
      · rw [e]; exact g2.mono k4 (Nat.le_refl _)
      · exact k2 h hh
    · rcases List.mem_cons.mp h with e | h
      · have := g8 pl o e.symm
        omega
      · exact k8 pl o h
theorem ownF_ok : ∀ {k : Nat} {s : Sg}, s.nums.length + k ≤ mostL → SOk s → ∃ os s', ownF k s = some (os, s') ∧ os.length = k ∧ (∀ o ∈ os, o < s'.nums.length) ∧ SOk s' ∧ s'.nums.length = s.nums.length + k ∧ s'.said = s.said ∧ s'.lent = s.lent
  | 0, s, hn, hs => ⟨[], s, rfl, rfl, (fun o h => by simp at h), hs, rfl, rfl, rfl⟩
  | k + 1, s, hn, hs => by
    obtain ⟨os, s1, g1, g2, g3, g4, g5, g6, g7⟩ := ownF_ok (k := k) (s := s) (by omega) hs
    have hlt : s1.nums.length < mostL := by omega
    refine ⟨os ++ [s1.nums.length], { s1 with nums := s1.nums ++ [0] }, by simp [ownF, g1, freshF, hlt], by simp [g2], fun o ho => ?_, ⟨?_, fun v hv => ?_⟩, ?_, g6, g7⟩
    · have ho' : o ∈ os ∨ o = s1.nums.length := by simpa using ho
      show o < (s1.nums ++ [0]).length
      rw [List.length_append]
      simp
      rcases ho' with h | h
      · have := g3 o h; omega
      · omega
    · show 3 ≤ (s1.nums ++ [0]).length
      have := g4.three
      simp
      omega
    · have hv' : v ∈ s1.nums ∨ v = 0 := by simpa using hv
      rcases hv' with h | h
      · exact g4.lt v h
      · omega
    · show (s1.nums ++ [0]).length = _
      simp
      omega
theorem backF_ok : ∀ {bs : List (Option (Nat × Nat))} {ns : List Nat}, (∀ pl o, some (pl, o) ∈ bs → pl < ns.length ∧ o < ns.length) → (∀ v ∈ ns, v < 3) → ∃ ns', backF bs ns = some ns' ∧ ns'.length = ns.length ∧ ∀ v ∈ ns', v < 3
  | [], ns, _, h => ⟨ns, rfl, rfl, h⟩
  | none :: r, ns, hb, h => by
    simp only [backF]
    exact backF_ok (fun pl o hm => hb pl o (List.mem_cons_of_mem _ hm)) h
  | some (pl, o) :: r, ns, hb, h => by
    have h0 := hb pl o List.mem_cons_self
    obtain ⟨ns', k1, k2, k3⟩ := backF_ok (bs := r) (ns := ns.set pl ns[o]) (fun pl o hm => by rw [List.length_set]; exact hb pl o (List.mem_cons_of_mem _ hm)) (fun v hv => by
      rcases List.mem_or_eq_of_mem_set hv with hv | hv
      · exact h v hv
      · rw [hv]; exact h _ (List.getElem_mem _))
    refine ⟨ns', ?_, by rw [k2, List.length_set], k3⟩
    simp only [backF, List.getElem?_eq_getElem h0.2]
    rw [if_pos h0.1]
    exact k1
def grA : Nat → Nat
  | 0 => 0
  | r + 1 => 102 + 4 * grA r
def grB : Nat → Nat
  | 0 => 0
  | r + 1 => 100 + 4 * grB r
/-- what a run's end leans on -/
structure PrR (p : List Wk) (ys : List (List Str)) : Prop where
  ok : okP p = true
  oy : okY p ys = true
  cl : ∀ w ∈ p, clB w.body ≤ 4
theorem okY_at {p : List Wk} {ys : List (List Str)} {i : Nat} (h : okY p ys = true) (hi : i < p.length) : ∃ ws, ys[i]? = some ws ∧ ws.length = shP (shapes p) i := by
  simp only [okY, Bool.and_eq_true, decide_eq_true_eq, List.all_eq_true, List.mem_range] at h
  have h1 := (h.2 i hi).1
  have hi2 : i < ys.length := by omega
  refine ⟨ys[i], List.getElem?_eq_getElem hi2, ?_⟩
  simpa [List.getD, List.getElem?_eq_getElem hi2] using h1
/-- what is asked ahead of some steps -/
structure PreR (p : List Wk) (L tl j r i n : Nat) (f : Fra) (d cl cn : Nat) (s : Sg) : Prop where
  three : 3 ≤ L
  left : p.length ≤ i + 1 + r
  up : j + r ≤ 3
  fra : OkFra L tl j (shP (shapes p) i) (shO (shapes p) i) f
  L : L ≤ s.nums.length
  ok : SOk s
  fuel : d + 1 + 6 * r ≤ n
  nums : s.nums.length + cl * grA r ≤ mostL
  said : s.said.length + cn + cl * grB r ≤ mostL
  lent : s.lent.length + 3 * r ≤ mostL
  tl : tl + r ≤ mostL
structure PostR (r : Nat) (cl cn : Nat) (s s' : Sg) : Prop where
  ok : SOk s'
  n1 : s.nums.length ≤ s'.nums.length
  n2 : s'.nums.length ≤ s.nums.length + cl * grA r
  said : s'.said.length ≤ s.said.length + cn + cl * grB r
  lent : s'.lent = s.lent
theorem go_ok {st : Stm → Sg → Option Sg} {p : List Wk} {L tl j r i n : Nat} {f : Fra} {sh : List (Nat × Nat)} {w : Nat} (hst : ∀ (x : Stm) (s : Sg), okS sh i x w = true → PreR p L tl j r i n f (dpS x) (clS x) (cntS x) s → ∃ s', st x s = some s' ∧ PostR r (clS x) (cntS x) s s') :
    ∀ (b : List Stm) (s : Sg), okB sh i b w = true → PreR p L tl j r i n f (dpB b) (clB b) (cntB b) s → ∃ s', goF st b s = some s' ∧ PostR r (clB b) (cntB b) s s'
  | [], s, _, P => ⟨s, rfl, P.ok, Nat.le_refl _, by omega, by omega, rfl⟩
  | x :: b, s, ho, P => by
    simp only [okB, Bool.and_eq_true] at ho
    have Pn := P.nums
    have Ps := P.said
    have Pf := P.fuel
    simp only [clB, cntB, dpB] at Pn Ps Pf
    have ea : (clS x + clB b) * grA r = clS x * grA r + clB b * grA r := Nat.add_mul _ _ _
    have eb : (clS x + clB b) * grB r = clS x * grB r + clB b * grB r := Nat.add_mul _ _ _
    rw [ea] at Pn
    rw [eb] at Ps
    obtain ⟨s1, h1, Q1⟩ := hst x s ho.1 ⟨P.three, P.left, P.up, P.fra, P.L, P.ok, by omega, by omega, by omega, P.lent, P.tl⟩
    obtain ⟨q1, q2, q3, q4, q5⟩ := Q1
    obtain ⟨s2, h2, Q2⟩ := go_ok hst b s1 ho.2 ⟨P.three, P.left, P.up, P.fra, Nat.le_trans P.L q2, q1, by omega, by omega, by omega, by rw [q5]; exact P.lent, P.tl⟩
    obtain ⟨k1, k2, k3, k4, k5⟩ := Q2
    refine ⟨s2, by simp [goF, h1, h2], k1, by omega, ?_, ?_, k5.trans q5⟩
    · simp only [clB]
      rw [ea]
      omega
    · simp only [clB, cntB]
      rw [eb]
      omega
theorem step_ok {p : List Wk} {ys : List (List Str)} {M : Nat} (hM : 46 ≤ M) (R : PrR p ys) : ∀ (n : Nat) {L tl j r i w : Nat} {f : Fra} (x : Stm) (s : Sg), okS (shapes p) i x w = true → PreR p L tl j r i n f (dpS x) (clS x) (cntS x) s → ∃ s', stepF p ys M n f x s = some s' ∧ PostR r (clS x) (cntS x) s s'
  | 0, L, tl, j, r, i, w, f, x, s, ho, P => by have := P.fuel; omega
  | n + 1, L, tl, j, r, i, w, f, .set pt t, s, ho, P => by
    simp only [okS, Bool.and_eq_true, decide_eq_true_eq] at ho
    have w1 := okT_wf pt 0 ho.2.1
    have w2 := okT_wf t 0 ho.2.2.2
    have hj := P.up
    obtain ⟨v, s1, h1, hv⟩ := (ev_ok P.three j t P.fra w2.1 (by omega) s P.ok P.L).2 M (by omega)
    have q1 := numF_lent h1
    have ok1 := P.ok.of q1.2.1
    obtain ⟨o, s2, h2, ho2⟩ := (ev_ok P.three j pt P.fra w1.1 (by omega) s1 ok1 (by rw [q1.2.1]; exact P.L)).1 M (by omega)
    have q2 := findF_lent h2
    have en : s2.nums = s.nums := q2.2.1.trans q1.2.1
    have es : s2.said = s.said := q2.2.2.1.trans q1.2.2.1
    have el : s2.lent = s.lent := q2.1.trans q1.1
    cases o with
    | none =>
      refine ⟨s2, by simp [stepF, h1, h2], P.ok.of en, by rw [en]; exact Nat.le_refl _, by rw [en]; omega, by rw [es]; omega, el⟩
    | some pp =>
      obtain ⟨pl, th⟩ := pp
      have hlt : pl < (come pl th s2).nums.length := by
        rw [come_nums, en]
        have := ho2.1
        have := P.L
        omega
      refine ⟨{ come pl th s2 with nums := (come pl th s2).nums.set pl v }, by simp only [stepF, h1, h2]; rw [if_pos hlt], ⟨?_, fun x hx => ?_⟩, ?_, ?_, ?_, el⟩
      · simp [come_nums, en]
        exact P.ok.three
      · rcases List.mem_or_eq_of_mem_set hx with hx | hx
        · rw [come_nums, en] at hx
          exact P.ok.lt x hx
        · rw [hx]; exact hv
      · simp [come_nums, en]
      · simp [come_nums, en]
      · show s2.said.length ≤ _
        rw [es]; omega
  | n + 1, L, tl, j, r, i, w, f, .say t, s, ho, P => by
    simp only [okS, Bool.and_eq_true, decide_eq_true_eq] at ho
    have w2 := okT_wf t 0 ho.2
    have hj := P.up
    have Ps := P.said
    simp only [cntS, clS] at Ps
    obtain ⟨v, s1, h1, hv⟩ := (ev_ok P.three j t P.fra w2.1 (by omega) s P.ok P.L).2 M (by omega)
    have q1 := numF_lent h1
    have hlt : s1.said.length < mostL := by rw [q1.2.2.1]; omega
    refine ⟨{ s1 with said := s1.said ++ [v] }, by simp only [stepF, h1]; rw [if_pos hlt], P.ok.of q1.2.1, ?_, ?_, ?_, q1.1⟩
    · show _ ≤ s1.nums.length
      rw [q1.2.1]; exact Nat.le_refl _
    · show s1.nums.length ≤ _
      rw [q1.2.1]; omega
    · simp [q1.2.2.1, cntS]
  | n + 1, L, tl, j, r, i, w, f, .ite t a b, s, ho, P => by
    simp only [okS, Bool.and_eq_true, decide_eq_true_eq] at ho
    have w2 := okT_wf t 0 ho.2.1
    have hj := P.up
    have Pn := P.nums
    have Ps := P.said
    have Pf := P.fuel
    simp only [cntS, clS, dpS] at Pn Ps Pf
    have ea : (clB a + clB b) * grA r = clB a * grA r + clB b * grA r := Nat.add_mul _ _ _
    have eb : (clB a + clB b) * grB r = clB a * grB r + clB b * grB r := Nat.add_mul _ _ _
    rw [ea] at Pn
    rw [eb] at Ps
    obtain ⟨v, s1, h1, hv⟩ := (ev_ok P.three j t P.fra w2.1 (by omega) s P.ok P.L).2 M (by omega)
    have q1 := numF_lent h1
    have gen : ∀ c, okB (shapes p) i c (w + 1) = true → dpB c + 1 + 6 * r ≤ n → s.nums.length + clB c * grA r ≤ mostL → s.said.length + cntB c + clB c * grB r ≤ mostL → ∃ s', goF (stepF p ys M n f) c s1 = some s' ∧ PostR r (clB c) (cntB c) s1 s' := fun c hc1 hc2 hc3 hc4 =>
      go_ok (fun x s hx Px => step_ok hM R n x s hx Px) c s1 hc1 ⟨P.three, P.left, P.up, P.fra, by rw [q1.2.1]; exact P.L, P.ok.of q1.2.1, hc2, by rw [q1.2.1]; exact hc3, by rw [q1.2.2.1]; exact hc4, by rw [q1.1]; exact P.lent, P.tl⟩
    by_cases hv0 : v = 0
    · obtain ⟨s', g1, k1, k2, k3, k4, k5⟩ := gen b ho.2.2.2 (by omega) (by omega) (by omega)
      rw [q1.2.1] at k2 k3
      rw [q1.2.2.1] at k4
      refine ⟨s', by simp [stepF, h1, hv0, g1], k1, k2, ?_, ?_, k5.trans q1.1⟩
      · simp only [clS]; rw [ea]; omega
      · simp only [clS, cntS]; rw [eb]; omega
    · obtain ⟨s', g1, k1, k2, k3, k4, k5⟩ := gen a ho.2.2.1 (by omega) (by omega) (by omega)
      rw [q1.2.1] at k2 k3
      rw [q1.2.2.1] at k4
      refine ⟨s', by simp [stepF, h1, hv0, g1], k1, k2, ?_, ?_, k5.trans q1.1⟩
      · simp only [clS]; rw [ea]; omega
      · simp only [clS, cntS]; rw [eb]; omega
  | n + 1, L, tl, j, r, i, w, f, .call c ts, s, ho, P => by
    simp only [okS, Bool.and_eq_true, decide_eq_true_eq, List.all_eq_true] at ho
    obtain ⟨_, hc, hic, hlen, hts⟩ := ho
    have hcp : c < p.length := by simpa [shapes] using hc
    have hwk : p[c]? = some p[c] := List.getElem?_eq_getElem hcp
    obtain ⟨ws, hws, hwl⟩ := okY_at R.oy hcp
    have Pl := P.left
    obtain ⟨r, rfl⟩ : ∃ q, r = q + 1 := ⟨r - 1, by omega⟩
    have hj := P.up
    have Pn := P.nums
    have Ps := P.said
    have Pf := P.fuel
    have Pe := P.lent
    have Pt := P.tl
    simp only [cntS, clS, dpS, grA, grB, Nat.one_mul] at Pn Ps Pf
    have gk := okP_get R.ok hwk
    have hps : shP (shapes p) c = p[c].params := shP_get hwk
    have hos : shO (shapes p) c = p[c].owns := by simp [shO, shapes, List.getD, hwk]
    have htl : ts.length ≤ 3 := by omega
    obtain ⟨hs, bs, s1, g1, g2, g3, g4, g5, g6, g7, g8⟩ := handAll_ok (ts := ts) (ws := ws) (s := s) hM (by omega) P.three P.fra (by omega) (by omega) (fun t ht => by have := okT_wf t 0 (hts t ht); exact ⟨this.1, by omega⟩) P.ok P.L (by omega) (by omega)
    obtain ⟨os, s2, k1, k2, k3, k4, k5, k6, k7⟩ := ownF_ok (k := p[c].owns) (s := s1) (by omega) g3
    have hcl := R.cl p[c] (List.getElem_mem hcp)
    have hdp := okB_dp _ _ gk.2.2.1
    have m1 : clB p[c].body * grA r ≤ 4 * grA r := Nat.mul_le_mul_right _ hcl
    have m2 : clB p[c].body * grB r ≤ 4 * grB r := Nat.mul_le_mul_right _ hcl
    have F2 : OkFra s2.nums.length (tl + 1) (j + 1) (shP (shapes p) c) (shO (shapes p) c) (.mk os hs) := .mk (by rw [k2, hos]) k3 (by rw [handAll_len g1, hlen]) fun h hh => (g2 h hh).mono (by omega) (Nat.le_refl _)
    obtain ⟨s3, f1, z1, z2, z3, z4, z5⟩ := go_ok (fun x s hx Px => step_ok hM R n x s hx Px) p[c].body s2 gk.2.2.1 (L := s2.nums.length) (tl := tl + 1) (j := j + 1) (r := r) (f := .mk os hs) (p := p) (n := n) ⟨k4.three, by omega, by omega, F2, Nat.le_refl _, k4, by omega, by omega, by rw [k6, g7]; omega, by rw [k7]; omega, by omega⟩
    obtain ⟨ns, b1, b2, b3⟩ := backF_ok (bs := bs) (ns := s3.nums) (fun pl o h => by have := g8 pl o h; omega) z1.lt
    refine ⟨{ s3 with lent := s.lent, nums := ns }, by simp [stepF, hwk, hws, g1, k1, f1, b1], ⟨?_, b3⟩, ?_, ?_, ?_, rfl⟩
    · show 3 ≤ ns.length
      rw [b2]; exact z1.three
    · show _ ≤ ns.length
      omega
    · show ns.length ≤ _
      simp only [clS, grA, Nat.one_mul]
      omega
    · show s3.said.length ≤ _
      rw [k6, g7] at z4
      simp only [clS, cntS, grB, Nat.one_mul]
      omega
/-- a whole run ends -/
theorem run_ok {p : List Wk} {ys : List (List Str)} (R : PrR p ys) {cells : List Nat} (hc : cells.length = 3) (hlt : ∀ c ∈ cells, c < 3) : ∃ s', runF p ys 50 24 cells = some s' ∧ s'.said.length ≤ 30000 ∧ SOk s' := by
  have hl := okP_len R.ok
  have h0 : 0 < p.length := by omega
  have hwk : p[0]? = some p[0] := List.getElem?_eq_getElem h0
  have gk := okP_get R.ok hwk
  have hps : shP (shapes p) 0 = p[0].params := shP_get hwk
  have hos : shO (shapes p) 0 = p[0].owns := by simp [shO, shapes, List.getD, hwk]
  have h00 : p[0].params = 0 := by
    have := R.ok
    simp only [okP, Bool.and_eq_true, decide_eq_true_eq, List.all_eq_true, List.mem_range] at this
    have := this.2.2 0 h0
    simp only [okW, hwk, Bool.and_eq_true, decide_eq_true_eq, Bool.or_eq_true] at this
    rcases this.2.2.1 with h | h
    · exact absurd rfl h
    · exact h
  have S0 : SOk ⟨cells, [], [], 0, false⟩ := ⟨by show 3 ≤ cells.length; omega, hlt⟩
  obtain ⟨os, s2, k1, k2, k3, k4, k5, k6, k7⟩ := ownF_ok (k := p[0].owns) (s := ⟨cells, [], [], 0, false⟩) (by show cells.length + _ ≤ mostL; unfold mostL; omega) S0
  have hcl := R.cl p[0] (List.getElem_mem h0)
  have hdp := okB_dp _ _ gk.2.2.1
  have k5' : s2.nums.length = cells.length + p[0].owns := k5
  have k6' : s2.said = [] := k6
  have k7' : s2.lent = [] := k7
  have m1 : clB p[0].body * grA 3 ≤ 4 * grA 3 := Nat.mul_le_mul_right _ hcl
  have m2 : clB p[0].body * grB 3 ≤ 4 * grB 3 := Nat.mul_le_mul_right _ hcl
  have a3 : grA 3 = 2142 := by decide
  have b3 : grB 3 = 2100 := by decide
  have F2 : OkFra s2.nums.length 0 0 (shP (shapes p) 0) (shO (shapes p) 0) (.mk os []) := .mk (by rw [k2, hos]) k3 (by rw [hps, h00]; rfl) (fun h hh => by simp at hh)
  obtain ⟨s3, f1, z1, z2, z3, z4, z5⟩ := go_ok (fun x s hx Px => step_ok (M := 50) (ys := ys) (by decide) R 24 x s hx Px) p[0].body s2 gk.2.2.1 (L := s2.nums.length) (tl := 0) (j := 0) (r := 3) (f := .mk os []) (p := p) (n := 24) ⟨k4.three, by omega, by omega, F2, Nat.le_refl _, k4, by omega, by unfold mostL; omega, by rw [k6']; unfold mostL; simp; omega, by rw [k7']; unfold mostL; simp, by unfold mostL; omega⟩
  refine ⟨s3, by simp [runF, hwk, k1, f1], ?_, z1⟩
  rw [k6'] at z4
  simp at z4
  omega
end Hw

set_option maxRecDepth 100000
set_option maxHeartbeats 4000000
/-! BR: runs by the program and by the law, put together -/
namespace Hw
open PySem PySem.Spec PyProof.Rows L2 Evl
local macro_rules | `(tactic| walk_at "dd") => `(tactic| first | rfl | decide | (simp; done) | omega)
local macro_rules | `(tactic| walk_at "td") => `(tactic| first | assumption | exact Td.int _ | exact Td.bl _ | exact Td.str _ | exact Td.non | exact Td.tup (by assumption) (by assumption))
local macro_rules | `(tactic| walk_at "ev") => `(tactic| first
  | exact ed_ci | exact ed_cs | exact ed_cb | exact ed_cn
  | (apply ed_cg; assumption)
  | (apply ed_var; (rfl); (walk_at "td"))
  | (apply ed_ixT; (walk_at "ev"); (walk_at "ev"); (first | rfl | assumption))
  | (apply ed_rowI; (rfl); (assumption); (walk_at "ev"); (rfl))
  | (apply ed_ixL; (apply EvDL.rd; walk_at "edl"); (walk_at "ev"); (rfl))
  | (apply ed_intb; (walk_at "ev"))
  | (apply ed_len; walk_at "ev")
  | (apply ed_lenV; (apply ev_rowR; (rfl); (assumption); (walk_at "ev"); (rfl)); (assumption))
  | (apply ed_Ii; (walk_at "ev"); (walk_at "ev"); (walk_at "cc"))
  | (apply ed_isi; (walk_at "ev"); (rfl))
  | (apply ed_I0i; (walk_at "ev"); (walk_at "ev"))
  | (apply ed_I0b; (walk_at "ev"); (walk_at "ev"))
  | (apply ed_eqi; (walk_at "ev"); (walk_at "ev"))
  | (apply ed_nei; (walk_at "ev"); (walk_at "ev"))
  | (apply ed_andF; walk_at "ev")
  | (apply ed_andV; (walk_at "ev"); (intro _; walk_at "ev"))
  | (apply ed_orT; walk_at "ev")
  | (apply ed_orV; (walk_at "ev"); (intro _; walk_at "ev"))
  | (apply ed_notT; walk_at "ev")
  | (apply ed_notF; walk_at "ev")
  | (apply ed_notV; walk_at "ev")
  | (apply ed_chain; (walk_at "ev"); (walk_at "ev"); (intro _; walk_at "ev"))
  | (apply ed_eqS; (walk_at "ev"); (walk_at "ev"); (walk_at "bb"); (walk_at "bb"))
  | (apply ed_neS; (walk_at "ev"); (walk_at "ev"); (walk_at "bb"); (walk_at "bb"))
  | (apply ed_inT; (walk_at "ev"); (walk_at "ev"); (rfl); (rfl))
  | (apply ed_niT; (walk_at "ev"); (walk_at "ev"); (rfl); (rfl))
  | (apply ed_tup; (walk_at "eva"); (walk_at "bb"))
  | (apply ed_sl; (walk_at "ev"); (walk_at "evo"); (walk_at "evo"))
  | (apply ed_eqN; (apply EvDL.rd; walk_at "edl"); (walk_at "edl"); (walk_at "bb"))
  | (apply ed_neN; (apply EvDL.rd; walk_at "edl"); (walk_at "edl"); (walk_at "bb"))
  | (apply ed_ixL; (apply edr_var; (rfl); (assumption); (assumption)); (walk_at "ev"); (first | rfl | assumption))
  | (apply ed_lenL; (apply edr_var; (rfl); (assumption); (assumption)))
  | (apply ed_call; (walk_at "eva"); (walk_at "post")))
local macro_rules | `(tactic| walk_at "edl") => `(tactic| first
  | assumption
  | (apply edl_lst; (walk_at "eva"); (walk_at "bb")))
local macro_rules | `(tactic| walk_at "eva") => `(tactic| first
  | exact eda_nil
  | (apply eda_cons; (walk_at "ev"); (walk_at "eva")))
local macro_rules | `(tactic| walk_at "evo") => `(tactic| first
  | exact eok_none
  | (apply eok_some; walk_at "ev"))
local macro_rules | `(tactic| walk_at "bb") => `(tactic| first | rfl | assumption | (simp; done) | (simp; omega) | decide +kernel)
local macro_rules | `(tactic| walk_at "et") => `(tactic| first
  | exact tk_yes
  | (apply tk_andF; walk_at "et")
  | (apply tk_and; (walk_at "et"); (intro _; walk_at "et"))
  | (apply tk_orT; walk_at "et")
  | (apply tk_or; (walk_at "et"); (intro _; walk_at "et"))
  | (apply tk_notT; walk_at "et")
  | (apply tk_notF; walk_at "et")
  | (apply tk_not; walk_at "et")
  | (apply tk_v; walk_at "ev")
  | (apply tk_vB; walk_at "ev"))
local macro_rules | `(tactic| walk_at "if") => `(tactic| first
  | (apply pst_whenF; (walk_at "et"); (walk_at "bb"))
  | (apply pst_whenT; (walk_at "et"); (walk_at "bb")))
local macro_rules | `(tactic| walk_at "post") => `(tactic| first | assumption | exact ⟨_, _, rfl, rfl⟩ | exact ⟨_, _, _, _, rfl, by omega, by omega, rfl⟩ | exact ⟨_, _, _, 0, rfl, by omega, by omega, rfl⟩)
local macro_rules | `(tactic| walk_at "cc") => `(tactic| first | assumption | decide | omega | (refine ⟨?_, ?_⟩ <;> first | decide | omega) | (exact Or.inl (by constructor <;> omega)))

theorem fn_ex {P : Program} {w : World} {K : PySem.W.Frag} {mg : Str → Option Value} {base : Heap} {CX : CXT} {k : Nat} {f : Addr} {fd : FuncData} {ps : List Str} {α : Type} {C : α → Prop} {sp : α → Sp} (h : ∀ i, C i → FnOk P w K mg base CX k f fd ps (sp i)) : FnOk P w K mg base CX k f fd ps fun vs H Q E => ∃ i, C i ∧ sp i vs H Q E :=
  ⟨fun vs H Q E ⟨i, hi, z⟩ => (h i hi).len vs H Q E z, fun A outer s H args us vs Q E hr he hb hv ⟨i, hi, z⟩ => (h i hi).run A outer s H args us vs Q E hr he hb hv z⟩
/-- a run, of what is let by -/
def runS (p : List Wk) (ys : List (List Str)) (c : List Nat) : Sg := (runF p ys 50 24 c).getD ⟨[], [], [], 0, false⟩
structure PrA (p : List Wk) (ys : List (List Str)) : Prop where
  r : PrR p ys
  o : PrOk p ys
  sm : smP p
  sy : smY ys
theorem cells_ok : ∀ c ∈ allCells, c.length = 3 ∧ ∀ v ∈ c, v < 3 := by decide +kernel
theorem cell_length {c : List Nat} (h : c ∈ allCells) : c.length = 3 := (cells_ok c h).1
theorem runS_ok {p : List Wk} {ys : List (List Str)} {c : List Nat} (R : PrA p ys) (hc : c ∈ allCells) : runF p ys 50 24 c = some (runS p ys c) ∧ (runS p ys c).said.length ≤ 30000 ∧ SOk (runS p ys c) := by
  obtain ⟨h1, h2⟩ := cells_ok c hc
  obtain ⟨s', g1, g2, g3⟩ := run_ok R.r h1 h2
  have e : runS p ys c = s' := by simp [runS, g1]
  rw [e]
  exact ⟨g1, g2, g3⟩
theorem prOk_of {p : List Wk} {ys : List (List Str)} (h : okP p = true) (hy : okY p ys = true) (hs : smP p) (hsy : smY ys) : PrOk p ys := by
  refine ⟨fun w hw => ?_, fun y hy z hz => (hsy.2 y hy).2 z hz⟩
  obtain ⟨i, hi⟩ := List.mem_iff_getElem?.mp hw
  have g := okP_get h hi
  have h2 := hs.2 w hw
  refine ⟨by omega, h2.2, h2.1, fun x hx => ?_⟩
  have hc := okB_calls w.body 0 x g.2.2.1 hx
  obtain ⟨ws, h3, h4⟩ := okY_at hy (i := x.1) (by simpa [shapes] using hc.2.1)
  exact ⟨ws, h3, by rw [h4, hc.2.2]⟩
theorem prA_of {p : List Wk} {ys : List (List Str)} (h : okP p = true) (hy : okY p ys = true) (hs : smP p) (hsy : smY ys) (hc : ∀ w ∈ p, clB w.body ≤ 4) : PrA p ys := ⟨⟨h, hy, hc⟩, prOk_of h hy hs hsy, hs, hsy⟩
theorem goP_cl {most : Nat} {p : List Wk} (g : GoP most p) : ∀ w ∈ p, clB w.body ≤ 4 := fun w hw => by
  obtain ⟨i, hi⟩ := List.mem_iff_getElem?.mp hw
  exact (g.ws i w hi).cl
/-- drawn programs and ways are such -/
theorem prA_go {most : Nat} {p : List Wk} {sm : List Str} {ys : List (List Str)} (g : GoP most p) (hm : most ≤ 98) (gy : goY p sm ys) (hs : ∀ z ∈ sm, z ∈ (["copy", "place", "back", "want"] : List Str)) : PrA p ys :=
  prA_of (goP_ok g hm) (goY_ok gy fun z hz => (way_all z (hs z hz)).1) (goP_sm g) (goY_sm g gy fun z hz => (way_all z (hs z hz)).2) (goP_cl g)
def spOutA (K : PySem.W.Frag) : Sp := fun vs H Q _ => ∃ (pw0 yw0 cv : V) (p : List Wk) (ys : List (List Str)) (c : List Nat), vs = [pw0, yw0, cv] ∧ Td K H pw0 (encP p) ∧ Td K H yw0 (encY ys) ∧ Td K H cv (.tuple (nD c)) ∧ PrA p ys ∧ c ∈ allCells ∧
  ∀ q sl tv H', H q = none → H sl = none → Ex H H' → H' q = some (.tup [.ref sl, tv]) → H' sl = some (.lst (nV (runS p ys c).said)) → Td K H' tv (.tuple (nD ((runS p ys c).nums.take 3))) → Q (.ref q) H'
/-- what is told of a run, as data -/
def outD (p : List Wk) (ys : List (List Str)) (c : List Nat) : PyData := .tuple [.list (nD (runS p ys c).said), .tuple (nD ((runS p ys c).nums.take 3))]
theorem nV_tl {K : PySem.W.Frag} {H : Hp} : ∀ ns : List Nat, TlAll K H (nV ns) (nD ns)
  | [] => .nil
  | n :: r => .cons (.int _) (nV_tl r)
theorem outD_tl {K : PySem.W.Frag} {H : Hp} {q sl : Addr} {tv : V} {p : List Wk} {ys : List (List Str)} {c : List Nat} (hq : H q = some (.tup [.ref sl, tv])) (hs : H sl = some (.lst (nV (runS p ys c).said))) (ht : Td K H tv (.tuple (nD ((runS p ys c).nums.take 3)))) : Tl K H (.ref q) (outD p ys c) :=
  .tup (SqT.of hq) (.cons (.lst hs (nV_tl _)) (.cons (Td.tl _ ht) .nil))
theorem nD_lay (ns : List Nat) : PyData.canLayAll0 (nD ns) = true := ints_lay _ ns
theorem outD_lay (p : List Wk) (ys : List (List Str)) (c : List Nat) : (outD p ys c).canLay0 = true := by
  simp [outD, PyData.canLay0, PyData.canLayAll0, nD_lay]
theorem nD_okD (n : Nat) (ns : List Nat) : (nD ns).all (okD n) = true := by
  rw [List.all_eq_true]
  intro x hx
  simp only [nD, List.mem_map] at hx
  obtain ⟨a, _, rfl⟩ := hx
  cases n <;> rfl
theorem outD_ok {p : List Wk} {ys : List (List Str)} {c : List Nat} (R : PrA p ys) (hc : c ∈ allCells) : okD 2 (outD p ys c) = true := by
  have h := (runS_ok R hc).2.1
  simp only [outD, okD, List.all_cons, List.all_nil, Bool.and_true, Bool.and_eq_true, decide_eq_true_eq, nD_okD, List.length_cons, List.length_nil]
  refine ⟨by decide, ?_, ?_⟩
  · simpa [nD] using h
  · simp only [nD, List.length_map, List.length_take]
    omega
section
variable {P : Program} {w : World} {K : PySem.W.Frag} {mg : Str → Option Value} {base : Heap} (T : Tx K mg)
include T
theorem ok_runIA {p : List Wk} {ys : List (List Str)} (R : PrA p ys) : Fn_Run___init__ T P w base CX0 129 (spRunI K p ys 50 24) :=
  ok_runI T (lv := 128) (by decide) R.o (ok_do T (lv := 127) (by decide) R.o (ok_steps T (M := 50) R.o 24) (ok_fresh T)) (ok_frI T)
theorem ok_outA : Fn_out_of T P w base CX0 131 (spOutA K) := by
  refine FnOk.imp (fn_ex (α := List Wk × List (List Str)) (C := fun x => PrA x.1 x.2) (sp := fun x => spOut K x.1 x.2 50 24) fun x R => ok_out T (by decide) (ok_runIA T R)) fun vs H Q E h => ?_
  obtain ⟨pw0, yw0, cv, p, ys, c, rfl, tp, ty, tc, R, hc, k⟩ := h
  exact ⟨(p, ys), R, pw0, yw0, cv, c, _, rfl, tp, ty, tc, (runS_ok R hc).1, k⟩
theorem ok_lranA {p : List Wk} {ys : List (List Str)} (R : PrA p ys) : Fn__law_ran T P w base CX0 105 (spLRan K p ys 50 24) :=
  ok_lran T (lv := 104) (by decide) R.o (ok_begun T) (ok_ldoes T (lv := 103) (by decide) R.o (ok_lgoes T (M := 50) R.o 24) (ok_lnew T))
theorem ok_loutA : Fn__law_out T P w base CX0 106 (spOutA K) := by
  refine FnOk.imp (fn_ex (α := List Wk × List (List Str)) (C := fun x => PrA x.1 x.2) (sp := fun x => spOut K x.1 x.2 50 24) fun x R => ok_lout T (ok_lranA T R)) fun vs H Q E h => ?_
  obtain ⟨pw0, yw0, cv, p, ys, c, rfl, tp, ty, tc, R, hc, k⟩ := h
  exact ⟨(p, ys), R, pw0, yw0, cv, c, _, rfl, tp, ty, tc, (runS_ok R hc).1, k⟩
end
end Hw

set_option maxRecDepth 100000
set_option maxHeartbeats 4000000
/-! LW: words for the laws -/
namespace Hw
open PySem PySem.Spec PyProof.Rows L2 Evl
local macro_rules | `(tactic| walk_at "dd") => `(tactic| first | rfl | decide | (simp; done) | omega)
local macro_rules | `(tactic| walk_at "td") => `(tactic| first | assumption | exact Td.int _ | exact Td.bl _ | exact Td.str _ | exact Td.non | exact Td.tup (by assumption) (by assumption))
local macro_rules | `(tactic| walk_at "ev") => `(tactic| first
  | exact ed_ci | exact ed_cs | exact ed_cb | exact ed_cn
  | (apply ed_cg; assumption)
  | (apply ed_var; (rfl); (walk_at "td"))
  | (apply ed_ixT; (walk_at "ev"); (walk_at "ev"); (first | rfl | assumption))
  | (apply ed_rowI; (rfl); (assumption); (walk_at "ev"); (rfl))
  | (apply ed_ixL; (apply EvDL.rd; walk_at "edl"); (walk_at "ev"); (rfl))
  | (apply ed_intb; (walk_at "ev"))
  | (apply ed_len; walk_at "ev")
  | (apply ed_lenV; (apply ev_rowR; (rfl); (assumption); (walk_at "ev"); (rfl)); (assumption))
  | (apply ed_Ii; (walk_at "ev"); (walk_at "ev"); (walk_at "cc"))
  | (apply ed_isi; (walk_at "ev"); (rfl))
  | (apply ed_I0i; (walk_at "ev"); (walk_at "ev"))
  | (apply ed_I0b; (walk_at "ev"); (walk_at "ev"))
  | (apply ed_eqi; (walk_at "ev"); (walk_at "ev"))
  | (apply ed_nei; (walk_at "ev"); (walk_at "ev"))
  | (apply ed_andF; walk_at "ev")
  | (apply ed_andV; (walk_at "ev"); (intro _; walk_at "ev"))
  | (apply ed_orT; walk_at "ev")
  | (apply ed_orV; (walk_at "ev"); (intro _; walk_at "ev"))
  | (apply ed_notT; walk_at "ev")
  | (apply ed_notF; walk_at "ev")
  | (apply ed_notV; walk_at "ev")
  | (apply ed_chain; (walk_at "ev"); (walk_at "ev"); (intro _; walk_at "ev"))
  | (apply ed_eqS; (walk_at "ev"); (walk_at "ev"); (walk_at "bb"); (walk_at "bb"))
  | (apply ed_neS; (walk_at "ev"); (walk_at "ev"); (walk_at "bb"); (walk_at "bb"))
  | (apply ed_inT; (walk_at "ev"); (walk_at "ev"); (rfl); (rfl))
  | (apply ed_niT; (walk_at "ev"); (walk_at "ev"); (rfl); (rfl))
  | (apply ed_tup; (walk_at "eva"); (walk_at "bb"))
  | (apply ed_sl; (walk_at "ev"); (walk_at "evo"); (walk_at "evo"))
  | (apply ed_eqN; (apply EvDL.rd; walk_at "edl"); (walk_at "edl"); (walk_at "bb"))
  | (apply ed_neN; (apply EvDL.rd; walk_at "edl"); (walk_at "edl"); (walk_at "bb"))
  | (apply ed_ixL; (apply edr_var; (rfl); (assumption); (assumption)); (walk_at "ev"); (first | rfl | assumption))
  | (apply ed_lenL; (apply edr_var; (rfl); (assumption); (assumption)))
  | (apply ed_call; (walk_at "eva"); (walk_at "post")))
local macro_rules | `(tactic| walk_at "edl") => `(tactic| first
  | assumption
  | (apply edl_lst; (walk_at "eva"); (walk_at "bb")))
local macro_rules | `(tactic| walk_at "eva") => `(tactic| first
  | exact eda_nil
  | (apply eda_cons; (walk_at "ev"); (walk_at "eva")))
local macro_rules | `(tactic| walk_at "evo") => `(tactic| first
  | exact eok_none
  | (apply eok_some; walk_at "ev"))
local macro_rules | `(tactic| walk_at "bb") => `(tactic| first | rfl | assumption | (simp; done) | (simp; omega) | decide +kernel)
local macro_rules | `(tactic| walk_at "et") => `(tactic| first
  | exact tk_yes
  | (apply tk_andF; walk_at "et")
  | (apply tk_and; (walk_at "et"); (intro _; walk_at "et"))
  | (apply tk_orT; walk_at "et")
  | (apply tk_or; (walk_at "et"); (intro _; walk_at "et"))
  | (apply tk_notT; walk_at "et")
  | (apply tk_notF; walk_at "et")
  | (apply tk_not; walk_at "et")
  | (apply tk_v; walk_at "ev")
  | (apply tk_vB; walk_at "ev"))
local macro_rules | `(tactic| walk_at "if") => `(tactic| first
  | (apply pst_whenF; (walk_at "et"); (walk_at "bb"))
  | (apply pst_whenT; (walk_at "et"); (walk_at "bb")))
local macro_rules | `(tactic| walk_at "post") => `(tactic| first | assumption | exact ⟨_, _, rfl, rfl⟩ | exact ⟨_, _, _, _, rfl, by omega, by omega, rfl⟩ | exact ⟨_, _, _, 0, rfl, by omega, by omega, rfl⟩)
local macro_rules | `(tactic| walk_at "cc") => `(tactic| first | assumption | decide | omega | (refine ⟨?_, ?_⟩ <;> first | decide | omega) | (exact Or.inl (by constructor <;> omega)))

section
variable {K : PySem.W.Frag} {σ : L2.St} {H H' : Hp} {D : Ends} {tu tz : TS} {te tl ta tb : TE} {t : TT} {Q : VK}
theorem w_next (h : D.nx σ H) : tNext D σ H := h
theorem w_not {Q : Bool → Hp → Prop} (h : t σ H fun b H1 => Q (!b) H1) : tNot t σ H Q := h
theorem w_tB {Q : Bool → Hp → Prop} (h : te σ H fun x H1 => ∃ c, x = .bl c ∧ Q c H1) : tB te σ H Q := h
/-- for x in a list that is not changed -/
theorem w_forLd {j : Nat} {ds : List PyData} (h : EvDR K tl σ H ds) (Pv : Hp → Nat → L2.St → Hp → Prop) (h0 : ∀ H1, Ex H H1 → Pv H1 0 σ H1) (hk : ∀ H1 i σ' H', Pv H1 i σ' H' → Ex H1 H')
    (hs : ∀ H1 i d v σ' H', ds[i]? = some d → Ex H H1 → Td K H' v d → Pv H1 i σ' H' → tu { D with nx := Pv H1 (i + 1), ct := Pv H1 (i + 1), bk := D.nx } (σ'.set j (some v)) H')
    (hd : ∀ H1 σ' H', Ex H H1 → Pv H1 ds.length σ' H' → D.nx σ' H') : tFor (iList K tl) (gName j) tu D σ H := by
  refine h H (Ex.refl H) _ fun p ys H1 e hx hall => ?_
  have hlen := hall.length
  refine ⟨p, rfl, ⟨ys, hx⟩, for_list (Pv H1) (h0 H1 e) (fun i σ' H' _ q => ex_l (hk H1 i σ' H' q) hx) (fun i x σ' H' hi q => ?_) (fun σ' H' q => hd H1 σ' H' e (by rw [← hlen]; exact q))⟩
  obtain ⟨d, hdd, td⟩ := hall.getV hi
  exact hs H1 i d x σ' H' hdd e (td.ex (hk H1 i σ' H' q)) q
/-- xs.append(e), xs told by something -/
theorem w_appE {l : Addr} {ys : List V} (hev : ∀ Q : VK, Q (.ref l) H → ta σ H Q) (hl : H l = some (.lst ys)) (h : te σ H fun x H1 => ∃ xs, H1 l = some (.lst xs) ∧ xs.length < sizeLine ∧ D.nx σ (upd H1 l (.lst (xs ++ [x])))) :
    tDrop (tBM K "list" rAppend ta (tCons te tNil)) D σ H := hev _ ⟨.inl ⟨rfl, ys, SqL.of hl⟩, by
    show te σ H fun x H1 => rAppend (.ref l) [x] H1 fun _ H2 => D.nx σ H2
    have e : (fun (x : V) (H1 : Hp) => rAppend (.ref l) [x] H1 fun _ H2 => D.nx σ H2) = fun x H1 => ∃ xs, H1 l = some (.lst xs) ∧ xs.length < sizeLine ∧ D.nx σ (upd H1 l (.lst (xs ++ [x]))) := by
      funext x H1
      refine propext ⟨fun ⟨l2, xs, y, e1, e2, e3, e4, e5⟩ => ?_, fun ⟨xs, e3, e4, e5⟩ => ⟨l, xs, x, rfl, rfl, e3, e4, e5⟩⟩
      cases e1
      cases e2
      exact ⟨xs, e3, e4, e5⟩
    rw [e]
    exact h⟩
end
def spLaw (K : PySem.W.Frag) : Sp := fun vs H Q _ => ∃ (s : Addr) (ns : List Int), vs = [.ref s] ∧ SqL K H s (ns.map V.int) ∧ ns.length ≤ 63 ∧ ∀ H', Q (.bl true) H'
/-- some of the cells, drawn: a list of such -/
def CsAt (K : PySem.W.Frag) (a : Addr) (cs : List (List Nat)) (H : Hp) : Prop := (∀ c ∈ cs, c ∈ allCells) ∧ ∃ xs, H a = some (.lst xs) ∧ TdAll K H xs (cs.map fun c => .tuple (nD c))
theorem CsAt.ex {K : PySem.W.Frag} {a : Addr} {cs : List (List Nat)} {H H' : Hp} (h : CsAt K a cs H) (e : Ex H H') : CsAt K a cs H' := by
  obtain ⟨h1, xs, h2, h3⟩ := h
  exact ⟨h1, xs, e _ _ h2, h3.ex e⟩
theorem CsAt.rd {K : PySem.W.Frag} {a : Addr} {cs : List (List Nat)} {H : Hp} {σ : L2.St} {n : Nat} (h : CsAt K a cs H) (hs : σ[n]? = some (some (.ref a))) : EvDR K (tVar n) σ H (cs.map fun c => .tuple (nD c)) := by
  obtain ⟨h1, xs, h2, h3⟩ := h
  exact edr_var hs (SqL.of h2) h3
section
variable {P : Program} {w : World} {K : PySem.W.Frag} {mg : Str → Option Value} {base : Heap} (T : Tx K mg)
include T
/-- the drawing, put together -/
theorem ok_gen (gT : Fn__law_taken T P w base CX0 1 (spTaken K)) : Fn__law_program T P w base CX0 12 (spProg K) := by
  have g0 := ok_thing T gT 0
  have g1 := ok_thing T gT 1
  have g2 := ok_thing T gT 2
  have gP : Fn__law_place T P w base CX0 4 (spPlace K 1) := ok_place T g1
  have gH : Fn__law_thing T P w base CX0 4 (spThings K) := by
    constructor
    · rintro vs H Q E ⟨n, hn, r, s, ns, v, ps, os, rfl, _⟩
      rfl
    · rintro A outer s H args us vs Q E hr he hb hv ⟨n, hn, h⟩
      rcases (by omega : n = 0 ∨ n = 1 ∨ n = 2) with e | e | e
      · subst e; exact g0.run A outer s H args us vs Q E (hr.mono (by decide)) he hb hv h
      · subst e; exact g1.run A outer s H args us vs Q E (hr.mono (by decide)) he hb hv h
      · subst e; exact g2.run A outer s H args us vs Q E hr he hb hv h
  have b0 : Fn__law_body T P w base CX0 7 (spBody K 0) := ok_body T (by decide) (ok_step (n := 0) (lv := 5) T (by decide) (fun _ _ _ _ => False) (fun h => absurd h (Nat.lt_irrefl 0)) (fn_vac fun _ _ _ _ h => h) gT gH gP) gT
  have b1 : Fn__law_body T P w base CX0 9 (spBody K 1) := ok_body T (by decide) (ok_step (n := 1) (lv := 7) T (by decide) (spBody K 0) (fun _ => rfl) b0 gT gH gP) gT
  have b2 : Fn__law_body T P w base CX0 11 (spBody K 2) := ok_body T (by decide) (ok_step (n := 2) (lv := 9) T (by decide) (spBody K 1) (fun _ => rfl) b1 gT gH gP) gT
  exact ok_program T gT gP b2
/-- the looks at programs and ways, put together -/
theorem ok_np : Fn_need_program T P w base (L2.CX P w) 24 (spNP K) := by
  have gN := ok_is_number (P := P) (w := w) (base := base) T
  have gIT := ok_is_thing T gN 6
  have gIC := ok_is_call T (Nat.le_refl 8) gN gIT
  have gBo := ok_bodyN T gIT gIC 6
  have gBs := ok_bodies_of (P := P) (w := w) (base := base) (k := 0) T
  exact ok_need_program T (ok_is_work T gBo (ok_count T gBs 7))
theorem ok_ny : Fn_need_ways T P w base (L2.CX P w) 25 (spNY K) := ok_need_ways T (ok_np T)
end
end Hw

set_option maxRecDepth 100000
set_option maxHeartbeats 4000000
/-! AC: all cells; where ways part, where a run is mixed, by the program -/
namespace Hw
open PySem PySem.Spec PyProof.Rows L2 Evl
local macro_rules | `(tactic| walk_at "dd") => `(tactic| first | rfl | decide | (simp; done) | omega)
local macro_rules | `(tactic| walk_at "td") => `(tactic| first | assumption | exact Td.int _ | exact Td.bl _ | exact Td.str _ | exact Td.non | exact Td.tup (by assumption) (by assumption))
local macro_rules | `(tactic| walk_at "ev") => `(tactic| first
  | exact ed_ci | exact ed_cs | exact ed_cb | exact ed_cn
  | (apply ed_cg; assumption)
  | (apply ed_var; (rfl); (walk_at "td"))
  | (apply ed_ixT; (walk_at "ev"); (walk_at "ev"); (first | rfl | assumption))
  | (apply ed_rowI; (rfl); (assumption); (walk_at "ev"); (rfl))
  | (apply ed_ixL; (apply EvDL.rd; walk_at "edl"); (walk_at "ev"); (rfl))
  | (apply ed_intb; (walk_at "ev"))
  | (apply ed_len; walk_at "ev")
  | (apply ed_lenV; (apply ev_rowR; (rfl); (assumption); (walk_at "ev"); (rfl)); (assumption))
  | (apply ed_Ii; (walk_at "ev"); (walk_at "ev"); (walk_at "cc"))
  | (apply ed_isi; (walk_at "ev"); (rfl))
  | (apply ed_I0i; (walk_at "ev"); (walk_at "ev"))
  | (apply ed_I0b; (walk_at "ev"); (walk_at "ev"))
  | (apply ed_eqi; (walk_at "ev"); (walk_at "ev"))
  | (apply ed_nei; (walk_at "ev"); (walk_at "ev"))
  | (apply ed_andF; walk_at "ev")
  | (apply ed_andV; (walk_at "ev"); (intro _; walk_at "ev"))
  | (apply ed_orT; walk_at "ev")
  | (apply ed_orV; (walk_at "ev"); (intro _; walk_at "ev"))
  | (apply ed_notT; walk_at "ev")
  | (apply ed_notF; walk_at "ev")
  | (apply ed_notV; walk_at "ev")
  | (apply ed_chain; (walk_at "ev"); (walk_at "ev"); (intro _; walk_at "ev"))
  | (apply ed_eqS; (walk_at "ev"); (walk_at "ev"); (walk_at "bb"); (walk_at "bb"))
  | (apply ed_neS; (walk_at "ev"); (walk_at "ev"); (walk_at "bb"); (walk_at "bb"))
  | (apply ed_inT; (walk_at "ev"); (walk_at "ev"); (rfl); (rfl))
  | (apply ed_niT; (walk_at "ev"); (walk_at "ev"); (rfl); (rfl))
  | (apply ed_tup; (walk_at "eva"); (walk_at "bb"))
  | (apply ed_sl; (walk_at "ev"); (walk_at "evo"); (walk_at "evo"))
  | (apply ed_eqN; (apply EvDL.rd; walk_at "edl"); (walk_at "edl"); (walk_at "bb"))
  | (apply ed_neN; (apply EvDL.rd; walk_at "edl"); (walk_at "edl"); (walk_at "bb"))
  | (apply ed_ixL; (apply edr_var; (rfl); (assumption); (assumption)); (walk_at "ev"); (first | rfl | assumption))
  | (apply ed_lenL; (apply edr_var; (rfl); (assumption); (assumption)))
  | (apply ed_call; (walk_at "eva"); (walk_at "post")))
local macro_rules | `(tactic| walk_at "edl") => `(tactic| first
  | assumption
  | (apply edl_lst; (walk_at "eva"); (walk_at "bb")))
local macro_rules | `(tactic| walk_at "eva") => `(tactic| first
  | exact eda_nil
  | (apply eda_cons; (walk_at "ev"); (walk_at "eva")))
local macro_rules | `(tactic| walk_at "evo") => `(tactic| first
  | exact eok_none
  | (apply eok_some; walk_at "ev"))
local macro_rules | `(tactic| walk_at "bb") => `(tactic| first | rfl | assumption | (simp; done) | (simp; omega) | decide +kernel)
local macro_rules | `(tactic| walk_at "et") => `(tactic| first
  | exact tk_yes
  | (apply tk_andF; walk_at "et")
  | (apply tk_and; (walk_at "et"); (intro _; walk_at "et"))
  | (apply tk_orT; walk_at "et")
  | (apply tk_or; (walk_at "et"); (intro _; walk_at "et"))
  | (apply tk_notT; walk_at "et")
  | (apply tk_notF; walk_at "et")
  | (apply tk_not; walk_at "et")
  | (apply tk_v; walk_at "ev")
  | (apply tk_vB; walk_at "ev"))
local macro_rules | `(tactic| walk_at "if") => `(tactic| first
  | (apply pst_whenF; (walk_at "et"); (walk_at "bb"))
  | (apply pst_whenT; (walk_at "et"); (walk_at "bb")))
local macro_rules | `(tactic| walk_at "post") => `(tactic| first | assumption | exact ⟨_, _, rfl, rfl⟩ | exact ⟨_, _, _, _, rfl, by omega, by omega, rfl⟩ | exact ⟨_, _, _, 0, rfl, by omega, by omega, rfl⟩)
local macro_rules | `(tactic| walk_at "cc") => `(tactic| first | assumption | decide | omega | (refine ⟨?_, ?_⟩ <;> first | decide | omega) | (exact Or.inl (by constructor <;> omega)))

/-- all tuples of so many numbers, rising -/
def cellsN : Nat → List (List Nat)
  | 0 => [[]]
  | n + 1 => (cellsN n).flatMap fun c => [c ++ [0], c ++ [1], c ++ [2]]
theorem cellsN_3 : cellsN 3 = allCells := by decide +kernel
theorem cellsN_len : ∀ i, i ≤ 3 → (cellsN i).length ≤ 27 := by decide +kernel
theorem eqvAll_nD : ∀ a b : List Nat, PyData.eqvAll (nD a) (nD b) = decide (a = b)
  | [], [] => by simp [nD, PyData.eqvAll]
  | [], _ :: _ => by simp [nD, PyData.eqvAll]
  | _ :: _, [] => by simp [nD, PyData.eqvAll]
  | x :: a, y :: b => by
    have ih := eqvAll_nD a b
    have e : PyData.eqvAll (nD (x :: a)) (nD (y :: b)) = (PyData.eqv (.int (x : Int)) (.int (y : Int)) && PyData.eqvAll (nD a) (nD b)) := by simp [nD, PyData.eqvAll]
    rw [e, ih, Bool.eq_iff_iff]
    simp [PyData.eqv]
    omega
/-- what is told of a run -/
def outN (p : List Wk) (ys : List (List Str)) (c : List Nat) : List Nat × List Nat := ((runS p ys c).said, (runS p ys c).nums.take 3)
theorem eqv_outD (p q : List Wk) (y1 y2 : List (List Str)) (c e : List Nat) : PyData.eqv (outD p y1 c) (outD q y2 e) = decide (outN p y1 c = outN q y2 e) := by
  have h : PyData.eqv (outD p y1 c) (outD q y2 e) = (PyData.eqvAll (nD (runS p y1 c).said) (nD (runS q y2 e).said) && PyData.eqvAll (nD ((runS p y1 c).nums.take 3)) (nD ((runS q y2 e).nums.take 3))) := by
    simp [outD, PyData.eqv, PyData.eqvAll]
  rw [h, eqvAll_nD, eqvAll_nD, outN, outN, Bool.eq_iff_iff]
  simp
theorem nD_depth (ns : List Nat) : PyData.depthAll (nD ns) ≤ 1 := by
  induction ns with
  | nil => simp [nD, PyData.depthAll]
  | cons n r ih =>
    have e : PyData.depthAll (nD (n :: r)) = max (PyData.depth (.int (n : Int))) (PyData.depthAll (nD r)) := by simp [nD, PyData.depthAll]
    rw [e]
    have : PyData.depth (.int (n : Int)) ≤ 1 := by simp [PyData.depth]
    omega
theorem outD_depth (p : List Wk) (ys : List (List Str)) (c : List Nat) : (outD p ys c).depth ≤ 10 := by
  have h1 := nD_depth (runS p ys c).said
  have h2 := nD_depth ((runS p ys c).nums.take 3)
  simp only [outD, PyData.depth, PyData.depthAll]
  omega
def difB (p : List Wk) (y1 y2 : List (List Str)) (c : List Nat) : Bool := !PyData.eqv (outD p y1 c) (outD p y2 c)
theorem difB_ne (p : List Wk) (y1 y2 : List (List Str)) (c : List Nat) : difB p y1 y2 c = !decide (outN p y1 c = outN p y2 c) := by rw [difB, eqv_outD]
theorem difB_symm (p : List Wk) (y1 y2 : List (List Str)) (c : List Nat) : difB p y1 y2 c = difB p y2 y1 c := by
  rw [difB_ne, difB_ne]
  congr 1
  exact decide_eq_decide.mpr ⟨Eq.symm, Eq.symm⟩
/-- the first cells of such, as data -/
def firstD (f : List Nat → Bool) : PyData := match allCells.find? f with
  | some c => .tuple (nD c)
  | none => .none
def partD (p : List Wk) (y1 y2 : List (List Str)) : PyData := firstD (difB p y1 y2)
def mixD (p : List Wk) (ys : List (List Str)) : PyData := firstD fun c => (runS p ys c).mixed
theorem partD_symm (p : List Wk) (y1 y2 : List (List Str)) : partD p y1 y2 = partD p y2 y1 := by
  have e : difB p y1 y2 = difB p y2 y1 := funext fun c => difB_symm p y1 y2 c
  rw [partD, partD, e]
theorem find_at {α : Type} {f : α → Bool} : ∀ {l : List α} {i : Nat} {c : α}, (∀ x ∈ l.take i, f x = false) → l[i]? = some c → f c = true → l.find? f = some c
  | [], i, c, _, h, _ => by simp at h
  | x :: l, 0, c, _, h, hc => by simp at h; subst h; simp [List.find?_cons, hc]
  | x :: l, i + 1, c, ha, h, hc => by
    have hx : f x = false := ha x (by simp)
    simp only [List.find?_cons, hx]
    exact find_at (fun y hy => ha y (by simp only [List.take_succ_cons, List.mem_cons]; exact .inr hy)) (by simpa using h) hc
theorem firstD_at {f : List Nat → Bool} {i : Nat} {c : List Nat} (ha : ∀ x ∈ allCells.take i, f x = false) (h : allCells[i]? = some c) (hc : f c = true) : firstD f = .tuple (nD c) := by
  rw [firstD, find_at ha h hc]
theorem firstD_none {f : List Nat → Bool} (ha : ∀ x ∈ allCells, f x = false) : firstD f = .none := by
  have : allCells.find? f = none := by
    rw [List.find?_eq_none]
    intro x hx
    simp [ha x hx]
  rw [firstD, this]
theorem firstD_head (f : List Nat → Bool) : (((allCells.filter f).map fun c => PyData.tuple (nD c)) ++ [.none])[0]? = some (firstD f) := by
  have e : (allCells.filter f).head? = allCells.find? f := List.head?_filter
  rw [firstD, ← e]
  cases allCells.filter f <;> simp
theorem firstD_cases (f : List Nat → Bool) : firstD f = .none ∨ ∃ c ∈ allCells, firstD f = .tuple (nD c) := by
  cases h : allCells.find? f with
  | none => exact .inl (by rw [firstD, h])
  | some c => exact .inr ⟨c, List.mem_of_find?_eq_some h, by rw [firstD, h]⟩
theorem firstD_okD (f : List Nat → Bool) : okD 2 (firstD f) = true := by
  rcases firstD_cases f with h | ⟨c, hc, h⟩ <;> rw [h]
  · rfl
  · show (decide ((nD c).length ≤ 30000) && (nD c).all (okD 1)) = true
    have := cell_length hc
    rw [nD_okD]
    simp [nD]
    omega
theorem firstD_lay (f : List Nat → Bool) : (firstD f).canLay0 = true := by
  rcases firstD_cases f with h | ⟨c, hc, h⟩ <;> rw [h]
  · rfl
  · simp [PyData.canLay0, nD_lay]
theorem firstD_eq_none {f : List Nat → Bool} : firstD f = .none ↔ ∀ c ∈ allCells, f c = false := by
  constructor
  · intro h
    cases e : allCells.find? f with
    | none =>
      rw [List.find?_eq_none] at e
      intro c hc
      simpa using e c hc
    | some c => rw [firstD, e] at h; cases h
  · exact firstD_none
section
variable {K : PySem.W.Frag} {σ : L2.St} {H H' : Hp} {D : Ends} {tu tz : TS} {te tl ta tb : TE} {t1 t2 : TA} {Q : VK} {E E2 : XK} {p : List Wk} {y1 y2 : List (List Str)} {c : List Nat}
/-- for x in a list that stays -/
theorem w_forL1 {j : Nat} {bk : Addr} {bv : List V} (ds : List PyData) (hev : ∀ Q : VK, Q (.ref bk) H → te σ H Q) (Pv : Nat → L2.St → Hp → Prop) (h0 : Pv 0 σ H)
    (hk : ∀ i σ' H', Pv i σ' H' → H' bk = some (.lst bv) ∧ TdAll K H' bv ds)
    (hs : ∀ i d v σ' H', ds[i]? = some d → Td K H' v d → Pv i σ' H' → tu { D with nx := Pv (i + 1), ct := Pv (i + 1), bk := D.nx } (σ'.set j (some v)) H')
    (hd : ∀ σ' H', Pv ds.length σ' H' → D.nx σ' H') : tFor (iList K te) (gName j) tu D σ H := by
  refine hev _ ⟨bk, rfl, ⟨bv, SqL.of (hk 0 σ H h0).1⟩, ?_⟩
  have hlen := (hk 0 σ H h0).2.length
  refine for_list Pv h0 (fun i σ' H' _ q => SqL.of (hk i σ' H' q).1) (fun i x σ' H' hi q => ?_) (fun σ' H' q => hd σ' H' (by rw [← hlen]; exact q))
  obtain ⟨d, hdd, td⟩ := (hk i σ' H' q).2.getV hi
  exact hs i d x σ' H' hdd td q
theorem edr_cells : EvDR K (tCall (spCells K) [] E tNil) σ H cellsD := fun H1 e Q q => w_call (w_nil ⟨rfl, fun p xs H' hp e' h1 h2 => q p xs H' e' (SqL.of h1) h2⟩)
/-- two runs told come out unlike -/
theorem tk_outs (R1 : PrA p y1) (R2 : PrA p y2) (hc : c ∈ allCells) (h1 : EvDA K t1 σ H [encP p, encY y1, .tuple (nD c)]) (h2 : EvDA K t2 σ H [encP p, encY y2, .tuple (nD c)]) : EvTK K (tTest (tOp (rNeM K) (tCall (spOutA K) [] E t1) (tCall (spOutA K) [] E2 t2))) σ H (difB p y1 y2 c) := fun H1 e1 Q q => by
  refine w_test (w_op (w_call (h1 H1 e1 _ fun vs H2 e2 a2 => ?_)))
  obtain _ | ⟨u1, _ | ⟨u2, _ | ⟨u3, _ | _⟩⟩⟩ := a2
  refine ⟨_, _, _, p, y1, c, rfl, u1, u2, u3, R1, hc, fun q1 s1 w1 H3 _ _ e3 g1 g2 g3 => ?_⟩
  have d1 := outD_tl g1 g2 g3
  refine w_call (h2 H3 ((e1.trans e2).trans e3) _ fun vs H4 e4 a4 => ?_)
  obtain _ | ⟨u1, _ | ⟨u2, _ | ⟨u3, _ | _⟩⟩⟩ := a4
  refine ⟨_, _, _, p, y2, c, rfl, u1, u2, u3, R2, hc, fun q2 s2 w2 H5 _ _ e5 k1 k2 k3 => ?_⟩
  have d2 := outD_tl k1 k2 k3
  exact ⟨_, _, (Tl.ex (e4.trans e5) _ d1).dp, d2.dp, outD_lay _ _ _, outD_lay _ _ _, by have := outD_depth p y1 c; omega, _, rfl, q H5 (((e2.trans e3).trans e4).trans e5)⟩
end
def spParted (K : PySem.W.Frag) : Sp := fun vs H Q _ => ∃ (pw v1 v2 : V) (p : List Wk) (y1 y2 : List (List Str)), vs = [pw, v1, v2] ∧ Td K H pw (encP p) ∧ Td K H v1 (encY y1) ∧ Td K H v2 (encY y2) ∧ PrA p y1 ∧ PrA p y2 ∧ ∀ v H', Ex H H' → Td K H' v (partD p y1 y2) → Q v H'
def spMixed (K : PySem.W.Frag) : Sp := fun vs H Q _ => ∃ (pw v1 : V) (p : List Wk) (y1 : List (List Str)), vs = [pw, v1] ∧ Td K H pw (encP p) ∧ Td K H v1 (encY y1) ∧ PrA p y1 ∧ ∀ v H', Ex H H' → Td K H' v (mixD p y1) → Q v H'
/-- Run.__init__, of what is let by -/
def spRunIA (K : PySem.W.Frag) : Sp := fun vs H Q _ => ∃ (x dx : Addr) (pw0 yw0 cv : V) (p : List Wk) (ys : List (List Str)) (c : List Nat), vs = [.ref x, pw0, yw0, cv] ∧ H x = some (.ins (He.ga K "Run") dx []) ∧ Td K H pw0 (encP p) ∧ Td K H yw0 (encY ys) ∧ Td K H cv (.tuple (nD c)) ∧ PrA p ys ∧ c ∈ allCells ∧
  ∀ nl sl ll H', H sl = none → RunAt K x nl sl ll pw0 yw0 (runS p ys c) H' → (∀ q o, q ≠ x → H q = some o → H' q = some o) → Q .non H'
section
variable {K : PySem.W.Frag} {σ : L2.St} {H H' : Hp} {ta tb : TE} {t1 t2 : TA} {Q : VK} {E E2 : XK} {p : List Wk} {y1 y2 : List (List Str)} {f d : PyData} {n : Nat}
theorem ed_parted (R1 : PrA p y1) (R2 : PrA p y2) (h : EvDA K t1 σ H [encP p, encY y1, encY y2]) : EvD K (tCall (spParted K) [] E t1) σ H (partD p y1 y2) := fun H1 e1 Q q => by
  refine w_call (h H1 e1 _ fun vs H2 e2 a2 => ?_)
  obtain _ | ⟨u1, _ | ⟨u2, _ | ⟨u3, _ | _⟩⟩⟩ := a2
  exact ⟨_, _, _, p, y1, y2, rfl, u1, u2, u3, R1, R2, fun v H3 e3 t3 => q v H3 (e2.trans e3) t3⟩
theorem ed_mixed (R1 : PrA p y1) (h : EvDA K t1 σ H [encP p, encY y1]) : EvD K (tCall (spMixed K) [] E t1) σ H (mixD p y1) := fun H1 e1 Q q => by
  refine w_call (h H1 e1 _ fun vs H2 e2 a2 => ?_)
  obtain _ | ⟨u1, _ | ⟨u2, _ | _⟩⟩ := a2
  exact ⟨_, _, p, y1, rfl, u1, u2, R1, fun v H3 e3 t3 => q v H3 (e2.trans e3) t3⟩
end
section
variable {P : Program} {w : World} {K : PySem.W.Frag} {mg : Str → Option Value} {base : Heap} (T : Tx K mg)
include T
theorem ok_runIU : Fn_Run___init__ T P w base CX0 129 (spRunIA K) := by
  refine FnOk.imp (fn_ex (α := List Wk × List (List Str)) (C := fun x => PrA x.1 x.2) (sp := fun x => spRunI K x.1 x.2 50 24) fun x R => ok_runIA T R) fun vs H Q E h => ?_
  obtain ⟨x, dx, pw0, yw0, cv, p, ys, c, rfl, hx, tp, ty, tc, R, hc, k⟩ := h
  exact ⟨(p, ys), R, x, dx, pw0, yw0, cv, c, _, rfl, hx, tp, ty, tc, (runS_ok R hc).1, k⟩
theorem ok_all_cells : Fn_all_cells T P w base CX0 1 (spCells K) := by
  refine T.F_all_cells.ok sc_all_cells (fun vs H Q E h => by obtain ⟨rfl, _⟩ := h; rfl) fun cdv A outer s0 H vs Q E hr h => ?_
  obtain ⟨rfl, k⟩ := h
  refine ⟨_, (pss_cons (ps_set (i := 0) sc_all_cells.nd rfl (Or.inl rfl) (pe_lst (pa_cons (pe_tup pa_nil) pa_nil)))
  (pss_cons (ps_for (passes_of rfl) rfl (pi_range1 rfl T.b_range (pa_cons (pe_gint rfl T.g_COMMON) pa_nil)) (pg_name (i := 1) sc_all_cells.nd rfl (Or.inl rfl))
    (pss_cons (ps_set (i := 2) sc_all_cells.nd rfl (Or.inl rfl) (pe_lst pa_nil))
    (pss_cons (ps_for (passes_of rfl) rfl (kpi_list K (pv 0)) (pg_name (i := 3) sc_all_cells.nd rfl (Or.inr rfl))
      (pss_one (ps_expr (pe_bm PySem.F.plainAttrs_list PySem.F.slot_list_extend PySem.F.type_list_extend mt_extend (pv 2) (pa_cons (pe_lc (own := [("number", 4)]) (g := gName 4) (tt := tYes) rfl sc_all_cells.nd (pi_range1 rfl T.b_range (pa_cons (pe_gint rfl T.g_NUMBERS) pa_nil)) (blkOk_by (N := ["found", "cell", "longer", "some", "number"]) (sc := defScope s_all_cells) (by decide +kernel)) (fun _ _ _ _ _ => (pg_name (i := 4) sc_all_cells.nd rfl (Or.inl rfl))) (fun _ _ _ _ _ => pts_nil) (fun _ _ _ _ _ => (pe_op (kop_cat K) (pv 3) (pe_tup (pa_cons (pv 4) pa_nil))))) pa_nil)))))
    (pss_one (ps_set (i := 0) sc_all_cells.nd rfl (Or.inl rfl) (pv 2))))))
  (pss_one (ps_ret (pv 0))))), ?_⟩
  refine w_seq (w_asg (w_lst (w_cons (w_tup (w_nil ⟨Nat.zero_le _, fun t ht => w_nil ⟨by show 1 ≤ sizeLine; decide, fun fl hfl => ?_⟩⟩)))))
  have e1 : Ex H (upd (upd H t (.tup [])) fl (.lst [.ref t])) := (Ex.new ht).trans (Ex.new hfl)
  have F1 : TdAll K (upd (upd H t (.tup [])) fl (.lst [.ref t])) [.ref t] ((cellsN 0).map fun c => .tuple (nD c)) := .cons ((td_new (ds := []) ht .nil).ex (Ex.new hfl)) .nil
  have hfl1 : upd (upd H t (.tup [])) fl (.lst [.ref t]) fl = some (.lst [.ref t]) := upd_same
  have hfl0 : H fl = none := fresh_back (Ex.new ht) hfl
  dsimp only
  generalize upd (upd H t (.tup [])) fl (.lst [.ref t]) = H1 at *
  refine w_seq (w_forR (K := K) (n := 3) (eda_cons ed_ci eda_nil) (by decide) (fun i σ' H' => ∃ (u1 u2 u3 : Option V) (fl : Addr) (xs : List V), σ' = [some (.ref fl), u1, u2, u3, none] ∧ Ex H H' ∧ H fl = none ∧ H' fl = some (.lst xs) ∧ TdAll K H' xs ((cellsN i).map fun c => .tuple (nD c))) ?_ ?_ ?_)
  · intro H2 e2
    exact ⟨_, _, _, fl, _, rfl, e1.trans e2, hfl0, e2 _ _ hfl1, F1.ex e2⟩
  · rintro i σ' H2 hi ⟨u1, u2, u3, fl, xs, rfl, e2, hf0, hf, ht⟩
    have hcl := cellsN_len i (by omega)
    dsimp only
    refine w_seq (w_asg (w_lst (w_nil ⟨Nat.zero_le _, fun lg hlg => ?_⟩)))
    have e3 : Ex H2 (upd H2 lg (.lst [])) := Ex.new hlg
    have nfl : fl ≠ lg := fun e => by rw [e, hlg] at hf; cases hf
    dsimp only
    refine w_seq (w_forL1 (K := K) (bk := fl) (bv := xs) ((cellsN i).map fun c => .tuple (nD c)) (fun Q q => w_v rfl q) (fun j σ' H' => ∃ (u3 : Option V) (ys : List V), σ' = [some (.ref fl), some (.int (i : Int)), some (.ref lg), u3, none] ∧ Ex H2 H' ∧ H' lg = some (.lst ys) ∧ TdAll K H' ys ((((cellsN i).take j).flatMap fun c => [c ++ [0], c ++ [1], c ++ [2]]).map fun c => .tuple (nD c))) ?_ ?_ ?_ ?_)
    · exact ⟨_, [], rfl, e3, upd_same, .nil⟩
    · rintro j σ' H' ⟨u3, ys, rfl, e4, hy, hty⟩
      exact ⟨e4 _ _ hf, ht.ex e4⟩
    · rintro j d v σ' H4 hd tv ⟨u3, ys, rfl, e4, hy, hty⟩
      rw [List.getElem?_map] at hd
      obtain ⟨c, hc, rfl⟩ := Option.map_eq_some_iff.mp hd
      dsimp only
      have ec : (((List.range 3).filter fun _ => true).map fun k => PyData.tuple (nD (c ++ [k]))) = [c ++ [0], c ++ [1], c ++ [2]].map fun c => PyData.tuple (nD c) := rfl
      refine ⟨.ref lg, rfl, .inl ⟨rfl, ys, SqL.of hy⟩, w_cons (w_dl (K := K) (edl_is (edl_lcR (n := 3) (fun _ => true) (fun k => .tuple (nD (c ++ [k]))) (eda_cons ed_ci eda_nil) (by decide) (fun _ => rfl) (fun k H5 e5 hk => tk_yes) fun k H5 e5 hk _ => ?_) ec) fun pp xs' H5 hp e5 hx htx => w_nil ⟨lg, pp, ys, xs', rfl, rfl, e5 _ _ hy, hx, ?_, ?_⟩)⟩
      · refine ed_is (ed_cat (ds := nD c) (es := [.int (k : Int)]) (ed_var rfl (tv.ex e5)) (ed_tup (eda_cons (ed_var rfl (.int _)) eda_nil) (by simp)) ?_) (by simp [nD])
        have hcm : c ∈ cellsN i := List.mem_of_getElem? hc
        have : ∀ i, i ≤ 3 → ∀ c ∈ cellsN i, c.length ≤ 3 := by decide +kernel
        have := this i (by omega) c hcm
        simp [nD]
        omega
      · rw [hty.length, htx.length, List.length_map, List.length_map]
        refine sz_of ?_
        have h1 : ∀ l : List (List Nat), (l.flatMap fun c => [c ++ [0], c ++ [1], c ++ [2]]).length = 3 * l.length := by
          intro l
          induction l with
          | nil => rfl
          | cons a r ih => simp [List.flatMap_cons, ih]; omega
        rw [h1, List.length_take]
        show _ + 3 ≤ _
        omega
      · have kq : Keep K H5 (upd H5 lg (.lst (ys ++ xs'))) := Keep.upd (e5 _ _ hy) True.intro
        refine ⟨_, _, rfl, Ex.mut (e4.trans e5) hlg, upd_same, ?_⟩
        rw [take_snoc hc, List.flatMap_append, List.map_append]
        exact ((hty.ex e5).kp kq).append (by simpa using htx.kp kq)
    · rintro σ' H4 ⟨u3, ys, rfl, e4, hy, hty⟩
      rw [List.length_map, List.take_length] at hty
      dsimp only
      exact w_asg (w_v rfl ⟨_, _, _, lg, ys, rfl, e2.trans e4, fresh_back e2 hlg, hy, hty⟩)
  · rintro σ' H2 ⟨u1, u2, u3, fl, xs, rfl, e2, hf0, hf, ht⟩
    dsimp only
    rw [cellsN_3] at ht
    exact w_ret (w_v rfl (k fl xs H2 hf0 e2 hf ht))
theorem ok_parted (GP : Fn_need_program T P w base (L2.CX P w) 24 (spNP K)) (GY : Fn_need_ways T P w base (L2.CX P w) 25 (spNY K)) (GC : Fn_all_cells T P w base CX0 1 (spCells K)) (GO : Fn_out_of T P w base CX0 131 (spOutA K)) : Fn_parted T P w base (L2.CX P w) 132 (spParted K) := by
  have G_need_program := GP
  have G_need_ways := GY
  have G_out_of := GO
  have G_all_cells := GC
  refine T.F_parted.ok sc_parted (fun vs H Q E h => by obtain ⟨_, _, _, _, _, _, rfl, _⟩ := h; rfl) fun cdv A outer s0 H vs Q E hr h => ?_
  obtain ⟨pw, v1, v2, p, y1, y2, rfl, tp, t1, t2, R1, R2, k⟩ := h
  have hok := R1.r.ok
  refine ⟨_, (pss_cons (ps_expr (pe_call G_need_program (hr.mono (by omega)) (by rfl) T.g_need_program T.k_need_program T.bd_need_program .nil (passes_call (takes_of rfl rfl rfl rfl) (fun _ _ _ _ h => h)) (pa_cons (pv 0) pa_nil)))
  (pss_cons (ps_expr (pe_call G_need_ways (hr.mono (by omega)) (by rfl) T.g_need_ways T.k_need_ways T.bd_need_ways .nil (passes_call (takes_of rfl rfl rfl rfl) (fun _ _ _ _ h => h)) (pa_cons (pv 0) (pa_cons (pv 1) pa_nil))))
  (pss_cons (ps_expr (pe_call G_need_ways (hr.mono (by omega)) (by rfl) T.g_need_ways T.k_need_ways T.bd_need_ways .nil (passes_call (takes_of rfl rfl rfl rfl) (fun _ _ _ _ h => h)) (pa_cons (pv 0) (pa_cons (pv 2) pa_nil))))
  (pss_cons (ps_for (passes_of rfl) rfl (kpi_list K (pe_call0 G_all_cells (hr.mono (by omega)) (by rfl) T.g_all_cells T.k_all_cells T.bd_all_cells .nil pass0)) (pg_name (i := 3) sc_parted.nd rfl (Or.inl rfl))
    (pss_one (ps_if (pt_cmpR (kop_ne K hr.units) (pe_call G_out_of (hr.mono (by omega)) (by rfl) T.g_out_of T.k_out_of T.bd_out_of .nil pass0 (pa_cons (pv 0) (pa_cons (pv 1) (pa_cons (pv 3) pa_nil)))) (pe_call G_out_of (hr.mono (by omega)) (by rfl) T.g_out_of T.k_out_of T.bd_out_of .nil pass0 (pa_cons (pv 0) (pa_cons (pv 2) (pa_cons (pv 3) pa_nil)))) (nomark _))
      (pss_one (ps_ret (pv 3)))
      pss_nil)))
  (pss_one (ps_ret pe_non)))))), ?_⟩
  refine w_seq (w_drop (w_call (w_cons (w_v rfl (w_nil ⟨p, .cons tp .nil, R1.sm, fun _ H1 e1 => ?_, (fun e => by rw [hok] at e; cases e)⟩)))))
  refine w_seq (w_drop (w_call (w_cons (w_v rfl (w_cons (w_v rfl (w_nil ⟨p, y1, .cons (tp.ex e1) (.cons (t1.ex e1) .nil), R1.sm, R1.sy, fun _ _ H2 e2 => ?_, (fun e => by rw [hok] at e; cases e), (fun _ e => by rw [R1.r.oy] at e; cases e)⟩)))))))
  have e12 := e1.trans e2
  refine w_seq (w_drop (w_call (w_cons (w_v rfl (w_cons (w_v rfl (w_nil ⟨p, y2, .cons (tp.ex e12) (.cons (t2.ex e12) .nil), R1.sm, R2.sy, fun _ _ H3 e3 => ?_, (fun e => by rw [hok] at e; cases e), (fun _ e => by rw [R2.r.oy] at e; cases e)⟩)))))))
  have e13 := e12.trans e3
  dsimp only
  refine w_seq (w_forLd (K := K) (ds := cellsD) edr_cells (fun Hz i σ' H' => ∃ u3 : Option V, σ' = [some pw, some v1, some v2, u3] ∧ Ex H H' ∧ Ex Hz H' ∧ ∀ c ∈ allCells.take i, difB p y1 y2 c = false) ?_ ?_ ?_ ?_)
  · intro Hz ez
    exact ⟨_, rfl, e13.trans ez, Ex.refl _, by simp⟩
  · rintro Hz i σ' H' ⟨u3, rfl, e, ez, _⟩
    exact ez
  · rintro Hz i d v σ' H4 hd ez tv ⟨u3, rfl, e4, ez4, hall⟩
    rw [cellsD, List.getElem?_map] at hd
    obtain ⟨c, hc, rfl⟩ := Option.map_eq_some_iff.mp hd
    have hca := List.mem_of_getElem? hc
    try dsimp only
    refine Pst.go (K := K) ?_
    refine pst_if (K := K) (b := difB p y1 y2 c) (tk_outs R1 R2 hca ?_ ?_) (fun hb => pst_of fun H5 e5 => ?_) (fun hb => pst_of fun H5 e5 => ?_)
    · exact eda_cons (ed_var rfl (tp.ex e4)) (eda_cons (ed_var rfl (t1.ex e4)) (eda_cons (ed_var rfl tv) eda_nil))
    · exact eda_cons (ed_var rfl (tp.ex e4)) (eda_cons (ed_var rfl (t2.ex e4)) (eda_cons (ed_var rfl tv) eda_nil))
    · refine w_ret (w_v rfl (k v H5 (e4.trans e5) ?_))
      rw [partD, firstD_at hall hc hb]
      exact tv.ex e5
    · refine ⟨_, rfl, e4.trans e5, ez4.trans e5, fun x hx => ?_⟩
      rw [take_snoc hc] at hx
      rcases List.mem_append.mp hx with hx | hx
      · exact hall x hx
      · have : x = c := by simpa using hx
        rw [this]; exact hb
  · rintro Hz σ' H4 ez ⟨u3, rfl, e4, ez4, hall⟩
    have el : cellsD.length = allCells.length := by simp [cellsD]
    rw [el, List.take_length] at hall
    dsimp only
    refine w_ret (w_c (k .non H4 e4 ?_))
    rw [partD, firstD_none hall]
    exact .non
theorem ok_mixed (GP : Fn_need_program T P w base (L2.CX P w) 24 (spNP K)) (GY : Fn_need_ways T P w base (L2.CX P w) 25 (spNY K)) (GC : Fn_all_cells T P w base CX0 1 (spCells K)) (GI : Fn_Run___init__ T P w base CX0 129 (spRunIA K)) : Fn_mixed T P w base (L2.CX P w) 131 (spMixed K) := by
  have G_need_program := GP
  have G_need_ways := GY
  have G_Run___init__ := GI
  have G_all_cells := GC
  refine T.F_mixed.ok sc_mixed (fun vs H Q E h => by obtain ⟨_, _, _, _, rfl, _⟩ := h; rfl) fun cdv A outer s0 H vs Q E hr h => ?_
  obtain ⟨pw, v1, p, y1, rfl, tp, t1, R1, k⟩ := h
  have hok := R1.r.ok
  refine ⟨_, (pss_cons (ps_expr (pe_call G_need_program (hr.mono (by omega)) (by rfl) T.g_need_program T.k_need_program T.bd_need_program .nil (passes_call (takes_of rfl rfl rfl rfl) (fun _ _ _ _ h => h)) (pa_cons (pv 0) pa_nil)))
  (pss_cons (ps_expr (pe_call G_need_ways (hr.mono (by omega)) (by rfl) T.g_need_ways T.k_need_ways T.bd_need_ways .nil (passes_call (takes_of rfl rfl rfl rfl) (fun _ _ _ _ h => h)) (pa_cons (pv 0) (pa_cons (pv 1) pa_nil))))
  (pss_cons (ps_for (passes_of rfl) rfl (kpi_list K (pe_call0 G_all_cells (hr.mono (by omega)) (by rfl) T.g_all_cells T.k_all_cells T.bd_all_cells .nil pass0)) (pg_name (i := 2) sc_mixed.nd rfl (Or.inl rfl))
    (pss_one (ps_if (pt_val (kpe_fld K (pe_make T.mk_Run G_Run___init__ (hr.mono (by omega)) (by rfl) T.g_Run T.bd_Run___init__ .nil pass0 (pa_cons (pv 0) (pa_cons (pv 1) (pa_cons (pv 2) pa_nil))))))
      (pss_one (ps_ret (pv 2)))
      pss_nil)))
  (pss_one (ps_ret pe_non))))), ?_⟩
  refine w_seq (w_drop (w_call (w_cons (w_v rfl (w_nil ⟨p, .cons tp .nil, R1.sm, fun _ H1 e1 => ?_, (fun e => by rw [hok] at e; cases e)⟩)))))
  refine w_seq (w_drop (w_call (w_cons (w_v rfl (w_cons (w_v rfl (w_nil ⟨p, y1, .cons (tp.ex e1) (.cons (t1.ex e1) .nil), R1.sm, R1.sy, fun _ _ H2 e2 => ?_, (fun e => by rw [hok] at e; cases e), (fun _ e => by rw [R1.r.oy] at e; cases e)⟩)))))))
  have e12 := e1.trans e2
  dsimp only
  refine w_seq (w_forLd (K := K) (ds := cellsD) edr_cells (fun Hz i σ' H' => ∃ u3 : Option V, σ' = [some pw, some v1, u3] ∧ Ex H H' ∧ Ex Hz H' ∧ ∀ c ∈ allCells.take i, (runS p y1 c).mixed = false) ?_ ?_ ?_ ?_)
  · intro Hz ez
    exact ⟨_, rfl, e12.trans ez, Ex.refl _, by simp⟩
  · rintro Hz i σ' H' ⟨u3, rfl, e, ez, _⟩
    exact ez
  · rintro Hz i d v σ' H4 hd ez tv ⟨u3, rfl, e4, ez4, hall⟩
    rw [cellsD, List.getElem?_map] at hd
    obtain ⟨c, hc, rfl⟩ := Option.map_eq_some_iff.mp hd
    have hca := List.mem_of_getElem? hc
    try dsimp only
    refine w_ifs (w_tB ?_)
    refine w_mk (w_cons (w_v rfl (w_cons (w_v rfl (w_cons (w_v rfl (w_nil fun x dx hx hdx hne => ?_)))))))
    have e5 : Ex H4 (upd (upd H4 dx (.own x)) x (.ins (He.ga K "Run") dx [])) := (Ex.new hdx).trans (Ex.new (by rw [upd_ne (Ne.symm hne)]; exact hx))
    refine ⟨x, dx, pw, v1, v, p, y1, c, rfl, upd_same, (tp.ex e4).ex e5, (t1.ex e4).ex e5, tv.ex e5, R1, hca, fun nl sl ll H6 hsl R fr => ⟨rfl, ?_⟩⟩
    have e6 : Ex H4 H6 := fun q o h => fr q o (fun e => by rw [e, hx] at h; cases h) (e5 q o h)
    obtain ⟨dx2, hob⟩ := R.ob
    refine ⟨x, _, dx2, _, .bl (runS p y1 c).mixed, rfl, hob, T.c_Run, T.na_Run_mixed, by rfl, _, rfl, ?_⟩
    by_cases hb : (runS p y1 c).mixed = true
    · refine ifT hb (w_ret (w_v rfl (k v H6 (e4.trans e6) ?_)))
      rw [mixD, firstD_at hall hc hb]
      exact tv.ex e6
    · have hb2 : (runS p y1 c).mixed = false := by simpa using hb
      refine ifF hb2 ⟨_, rfl, e4.trans e6, ez4.trans e6, fun x hx => ?_⟩
      rw [take_snoc hc] at hx
      rcases List.mem_append.mp hx with hx | hx
      · exact hall x hx
      · have : x = c := by simpa using hx
        rw [this]; exact hb2
  · rintro Hz σ' H4 ez ⟨u3, rfl, e4, ez4, hall⟩
    have el : cellsD.length = allCells.length := by simp [cellsD]
    rw [el, List.take_length] at hall
    dsimp only
    refine w_ret (w_c (k .non H4 e4 ?_))
    rw [mixD, firstD_none hall]
    exact .non
end
end Hw

set_option maxRecDepth 100000
set_option maxHeartbeats 4000000
/-! Z3: zip of three tuples -/
namespace Hw
open PySem PySem.Spec PyProof.Rows L2 Evl
/-- three tuples at each turn, the items in new threes -/
def Itz3 (K : PySem.W.Frag) (a b c : Addr) : It :=
  ⟨fun i H => ∃ (xs ys zs : List V) (x y z : V), SqT K H a xs ∧ SqT K H b ys ∧ SqT K H c zs ∧ xs[i]? = some x ∧ ys[i]? = some y ∧ zs[i]? = some z,
    fun i H v H' => ∃ T x y z, v = .ref T ∧ H T = none ∧ H' = upd H T (.tup [x, y, z]) ∧ (∀ xs, SqT K H a xs → xs[i]? = some x) ∧ (∀ ys, SqT K H b ys → ys[i]? = some y) ∧ ∀ zs, SqT K H c zs → zs[i]? = some z,
    fun i H => ∃ xs ys zs : List V, SqT K H a xs ∧ SqT K H b ys ∧ SqT K H c zs ∧ xs.length = i ∧ ys.length = i ∧ zs.length = i⟩
theorem turn_zip3 {P : Program} {w : World} {K : PySem.W.Frag} {elts : List Expr} {kk : Nat} {tpos : Pos} {a b c N : Addr} (ha : a < N) (hb : b < N) (hc : c < N) :
    Turn P w K (.Tuple elts kk tpos) (Itz3 K a b c) [N + 5, N + 3, N + 4, N, N + 1, N + 2] (N + 5) (fun i h => IsZip h (N + 5) (N + 3) (N + 4) .none ∧ IsTupOf3 h (N + 3) (.ref N) (.ref (N + 1)) (.ref (N + 2)) ∧ (∃ x y z, IsTupOf3 h (N + 4) x y z) ∧ h.IsTupleIter N a i ∧ h.IsTupleIter (N + 1) b i ∧ h.IsTupleIter (N + 2) c i) where
  mem := by simp
  obj := fun i h st q hq => by
    obtain ⟨hz, hTI, ⟨x, y, z, hTO⟩, ⟨o1, e1, _, d1⟩, ⟨o2, e2, _, d2⟩, ⟨o3, e3, _, d3⟩⟩ := st
    have e' : q = N + 5 ∨ q = N + 3 ∨ q = N + 4 ∨ q = N ∨ q = N + 1 ∨ q = N + 2 := by simpa using hq
    rcases e' with e | e | e | e | e | e
    · rw [e]; exact ⟨_, hz, fun v q => nomatch q⟩
    · rw [e]; exact ⟨_, hTI, fun v q => nomatch q⟩
    · rw [e]; exact ⟨_, hTO, fun v q => nomatch q⟩
    · rw [e]; exact ⟨o1, e1, fun v q => by rw [d1] at q; cases q⟩
    · rw [e]; exact ⟨o2, e2, fun v q => by rw [d2] at q; cases q⟩
    · rw [e]; exact ⟨o3, e3, fun v q => by rw [d3] at q; cases q⟩
  keep := fun i h h' st k => by
    obtain ⟨hz, hTI, ⟨x, y, z, hTO⟩, h1, h2, h3⟩ := st
    exact ⟨k _ (by simp) _ hz, k _ (by simp) _ hTI, ⟨x, y, z, k _ (by simp) _ hTO⟩, h1.at fun o q => k _ (by simp) o q, h2.at fun o q => k _ (by simp) o q, h3.at fun o q => k _ (by simp) o q⟩
  item := by
    intro X hP hw hK hcm i pins s σ H E I hf st hg
    subst hP hw hK
    obtain ⟨hz, hTI, ⟨x0, y0, z0, hTO⟩, h1, h2, h3⟩ := st
    obtain ⟨xs, ys, zs, x, y, z, hqx, hqy, hqz, hx, hy, hzz⟩ := hg
    obtain ⟨its, rv, p, _⟩ := I.tuple hqx
    obtain ⟨its2, rv2, p2, _⟩ := I.tuple hqy
    obtain ⟨its3, rv3, p3, _⟩ := I.tuple hqz
    obtain ⟨u, hu, ru⟩ := rv.get hx
    obtain ⟨u2, hu2, ru2⟩ := rv2.get hy
    obtain ⟨u3, hu3, ru3⟩ := rv3.get hzz
    have hzl : (N + 5 : Nat) < s.heap.objs.size := Heap.lt_size hz
    have hh : X.A.in1.handled = none := I.ok.hd hcm
    have l1 : i < its.toArray.size := by
      have := (List.getElem?_eq_some_iff.mp hu).1
      simpa using this
    have l2 : i < its2.toArray.size := by
      have := (List.getElem?_eq_some_iff.mp hu2).1
      simpa using this
    have l3 : i < its3.toArray.size := by
      have := (List.getElem?_eq_some_iff.mp hu3).1
      simpa using this
    refine wpAny_pyNext_zipD3_item (zip_sep3 (N := N) (fp1 := [a]) (fp2 := [b]) (fp3 := [c]) (by simpa using ha) (by simpa using hb) (by simpa using hc)) (Draws.tuple hh N a (Nat.ne_of_lt ha) its.toArray) (Draws.tuple hh (N + 1) b (Nat.ne_of_lt (Nat.lt_succ_of_lt hb)) its2.toArray) (Draws.tuple hh (N + 2) c (Nat.ne_of_lt (Nat.lt_succ_of_lt (Nat.lt_succ_of_lt hc))) its3.toArray)
      hz hTI hTO ⟨h1, p⟩ ⟨h2, p2⟩ ⟨h3, p3⟩ l1 l2 l3 fun v1 v2 v3 h' tk q1 q2 q3 z' TO' h1' h2' h3' hT hsz hk => ?_
    have e1 : v1 = u := by
      have : its[i]? = some v1 := by simpa using q1
      rw [hu] at this
      exact (Option.some.inj this).symm
    have e2 : v2 = u2 := by
      have : its2[i]? = some v2 := by simpa using q2
      rw [hu2] at this
      exact (Option.some.inj this).symm
    have e3 : v3 = u3 := by
      have : its3[i]? = some v3 := by simpa using q3
      rw [hu3] at this
      exact (Option.some.inj this).symm
    subst e1 e2 e3
    refine ⟨_, rfl, wpAny_letOwnedTupleGo_zip (s := { s with heap := h', toks := tk }) z' fun h'' z'' sb => ?_⟩
    have hT2 : h''.get? s.heap.objs.size = some { cls := .type "tuple", data := .seq #[v1, v2, v3] } := (sb.2 _ (Nat.ne_of_gt hzl)).trans hT
    have new : ObjOk X.prog X.w (upd H s.heap.objs.size (.tup [x, y, z])) h'' s.heap.objs.size (.tup [x, y, z]) :=
      ⟨by show 3 ≤ sizeLine; decide, [v1, v2, v3], .cons ru (.cons ru2 (.cons ru3 .nil)), ⟨_, hT2, rfl, _, rfl⟩⟩
    have I1 : Inv X pins σ (upd H s.heap.objs.size (.tup [x, y, z])) { s with heap := h'', toks := tk } :=
      I.turnedNew (t' := tk) (ch := [N + 5, N + 3, N + 4, N, N + 1, N + 2]) (fun q o hb q' => (sb.2 q (fun e => hb (by simp [e]))).trans (hk q o (fun e => hb (by simp [e])) (fun e => hb (by simp [e])) (fun e => hb (by simp [e])) (fun e => hb (by simp [e])) (fun e => hb (by simp [e])) q')) hf (Nat.le_refl _) new
    have ne : ∀ {m n : Nat}, m ≠ n → N + m ≠ N + n := fun h e => h (Nat.add_left_cancel e)
    refine ⟨.ref s.heap.objs.size, _, I1, rfl, ⟨_, x, y, z, rfl, I.hok.fresh (Nat.le_refl _), rfl, fun l hl => by rw [I.tuple_inj hl hqx]; exact hx, fun l hl => by rw [I.tuple_inj hl hqy]; exact hy, fun l hl => by rw [I.tuple_inj hl hqz]; exact hzz⟩, ⟨z'', ?_, ⟨v1, v2, v3, ?_⟩, ?_, ?_, ?_⟩, fun q hq => ?_⟩
    · exact (sb.2 _ (ne (m := 3) (n := 5) (by decide))).trans (hk _ _ (ne (m := 3) (n := 5) (by decide)) (ne (m := 3) (n := 4) (by decide)) (ne (m := 3) (n := 0) (by decide)) (ne (m := 3) (n := 1) (by decide)) (ne (m := 3) (n := 2) (by decide)) hTI)
    · exact (sb.2 _ (ne (m := 4) (n := 5) (by decide))).trans TO'
    · exact h1'.1.at fun o q => (sb.2 _ (ne (m := 0) (n := 5) (by decide))).trans q
    · exact h2'.1.at fun o q => (sb.2 _ (ne (m := 1) (n := 5) (by decide))).trans q
    · exact h3'.1.at fun o q => (sb.2 _ (ne (m := 2) (n := 5) (by decide))).trans q
    · have hlt : q < s.heap.objs.size := by
        have e' : q = N + 5 ∨ q = N + 3 ∨ q = N + 4 ∨ q = N ∨ q = N + 1 ∨ q = N + 2 := by simpa using hq
        have hN : (N : Nat) + 5 < s.heap.objs.size := hzl
        rcases e' with e | e | e | e | e | e <;> rw [e] <;> first | exact hN | exact Nat.lt_of_le_of_lt (Nat.add_le_add_left (by decide) N) hN | exact Nat.lt_of_le_of_lt (Nat.le_add_right N 5) hN
      rw [upd_ne (Nat.ne_of_lt hlt)]
      exact (hf q hq).1
  done := by
    intro X hP hw hK hcm i pins s σ H E I hf st hg
    subst hP hw hK
    obtain ⟨hz, hTI, ⟨x0, y0, z0, hTO⟩, h1, h2, h3⟩ := st
    obtain ⟨xs, ys, zs, hqx, hqy, hqz, l1, l2, l3⟩ := hg
    obtain ⟨its, rv, p, _⟩ := I.tuple hqx
    obtain ⟨its2, rv2, p2, _⟩ := I.tuple hqy
    obtain ⟨its3, rv3, p3, _⟩ := I.tuple hqz
    have hh : X.A.in1.handled = none := I.ok.hd hcm
    have m1 : i = its.toArray.size := by have := rv.length; simp; omega
    have m2 : i = its2.toArray.size := by have := rv2.length; simp; omega
    have m3 : i = its3.toArray.size := by have := rv3.length; simp; omega
    refine wpAny_pyNext_zipD3_end (zip_sep3 (N := N) (fp1 := [a]) (fp2 := [b]) (fp3 := [c]) (by simpa using ha) (by simpa using hb) (by simpa using hc)) (Draws.tuple hh N a (Nat.ne_of_lt ha) its.toArray) (Draws.tuple hh (N + 1) b (Nat.ne_of_lt (Nat.lt_succ_of_lt hb)) its2.toArray) (Draws.tuple hh (N + 2) c (Nat.ne_of_lt (Nat.lt_succ_of_lt (Nat.lt_succ_of_lt hc))) its3.toArray)
      hz hTI hTO ⟨h1, p⟩ ⟨h2, p2⟩ ⟨h3, p3⟩ (Nat.le_of_eq m1) (Nat.le_of_eq m2) (Nat.le_of_eq m3) (.inl m1) fun h' tk hk => ⟨rfl, I.turnedL (t' := tk) (ch := [N + 5, N + 3, N + 4, N, N + 1, N + 2]) (fun q o hb q' => hk q o (fun e => hb (by simp [e])) (fun e => hb (by simp [e])) (fun e => hb (by simp [e])) (fun e => hb (by simp [e])) (fun e => hb (by simp [e])) q') hf⟩
  self := fun A i s Q E st h => wpAny_pyIter_zip st.1 h
def iZip3 (K : PySem.W.Frag) (ta : TA) : TI := fun σ H R => ta σ H fun vs H1 => ∃ a b c xs ys zs, vs = [.ref a, .ref b, .ref c] ∧ SqT K H1 a xs ∧ SqT K H1 b ys ∧ SqT K H1 c zs ∧ R (Itz3 K a b c) H1
theorem pi_zip3 {X : Cx} {e e2 e3 : Expr} {ta : TA} {p pos tpos : Pos} {elts : List Expr} {kk : Nat} (hg : Gl X "zip") (hm : X.mg "zip" = none) (ha : PA X [e, e2, e3] ta)
    (hs : starEach [e, e2, e3] X.env = (false, eval e X.env) :: starEach [e2, e3] X.env := by rfl) (hpl : (backTo pos (starEach [e2, e3] X.env)).any (·.1) = false := by rfl) :
    PI X (.Tuple elts kk tpos) (.Call (.Name "zip" p) [e, e2, e3] [] pos) (iZip3 X.K ta) := by
  refine ⟨fun pins s σ H R I h => ?_⟩
  refine Call_ (ld_blt I hg hm PyProof.Rows.boot_zip (PyProof.Rows.callWith_type1 (thn (ha.run pos pins s σ H _ I h) fun us s1 ⟨vs, H1, I1, r1, q1⟩ => ?_) hs hpl))
  obtain ⟨a, b, c, xs, ys, zs, ex, hqx, hqy, hqz, q⟩ := q1
  subst ex
  obtain _ | ⟨r, _ | ⟨r', _ | ⟨r'', _ | _⟩⟩⟩ := r1
  cases r
  cases r'
  cases r''
  obtain ⟨its, rv, p1, _⟩ := I1.tuple hqx
  obtain ⟨its2, rv2, p2, _⟩ := I1.tuple hqy
  obtain ⟨its3, rv3, p3, _⟩ := I1.tuple hqz
  obtain ⟨o1, ho1, _⟩ := id p1
  obtain ⟨o2, ho2, _⟩ := id p2
  obtain ⟨o3, ho3, _⟩ := id p3
  refine zip_begins3 (begins_tuple a its.toArray) (begins_tuple b its2.toArray) (begins_tuple c its3.toArray) p1 p2 p3 fun h' hz hTI hTO h1 h2 h3 hsz hk => wpAny_pyIter_zip hz ?_
  have I2 : Inv X pins σ H1 { s1 with heap := h' } := I1.kept (t' := s1.toks) hk
  refine ⟨s1.heap.objs.size + 5, [s1.heap.objs.size + 5, s1.heap.objs.size + 3, s1.heap.objs.size + 4, s1.heap.objs.size, s1.heap.objs.size + 1, s1.heap.objs.size + 2], _, _, H1, rfl, I2, turn_zip3 (Heap.lt_size ho1) (Heap.lt_size ho2) (Heap.lt_size ho3), ⟨hz, hTI, ⟨_, _, _, hTO⟩, ⟨_, h1, rfl, rfl⟩, ⟨_, h2, rfl, rfl⟩, ⟨_, h3, rfl, rfl⟩⟩, fun q hq => ?_, q⟩
  have e' : q = s1.heap.objs.size + 5 ∨ q = s1.heap.objs.size + 3 ∨ q = s1.heap.objs.size + 4 ∨ q = s1.heap.objs.size ∨ q = s1.heap.objs.size + 1 ∨ q = s1.heap.objs.size + 2 := by simpa using hq
  have hle : s1.heap.objs.size ≤ q := by
    rcases e' with z | z | z | z | z | z <;> rw [z] <;> first | exact Nat.le_add_right _ _ | exact Nat.le_refl _
  exact I1.fpOk hle (I1.hok.fresh hle)
theorem kpi_zip3 {X : Cx} (K : PySem.W.Frag) {e e2 e3 : Expr} {ta : TA} {p pos tpos : Pos} {elts : List Expr} {kk : Nat} (hg : Gl X "zip") (hm : X.mg "zip" = none) (ha : PA X [e, e2, e3] ta)
    (hs : starEach [e, e2, e3] X.env = (false, eval e X.env) :: starEach [e2, e3] X.env := by rfl) (hpl : (backTo pos (starEach [e2, e3] X.env)).any (·.1) = false := by rfl) (h : X.K = K := by rfl) :
    PI X (.Tuple elts kk tpos) (.Call (.Name "zip" p) [e, e2, e3] [] pos) (iZip3 K ta) := by subst h; exact pi_zip3 hg hm ha hs hpl
/-- for a, b, c in zip(t, u, v), three tuples of one length; the heap is only added to -/
theorem pst_forZ3 {K : PySem.W.Frag} {σ : L2.St} {H : Hp} {D : Ends} {tu : TS} {α β γ : Type} {ta : TA} {j l m : Nat} (xs : List α) (ys : List β) (zs : List γ) (f : α → PyData) (g : β → PyData) (k : γ → PyData) (h : EvDA K ta σ H [.tuple (xs.map f), .tuple (ys.map g), .tuple (zs.map k)]) (hl : xs.length = ys.length) (hl2 : xs.length = zs.length)
    (Pv : Nat → L2.St → Hp → Prop) (hst : ∀ i σ' H1 H2, Ex H1 H2 → Pv i σ' H1 → Pv i σ' H2) (h0 : Pv 0 σ H)
    (hs : ∀ i x y z v u w σ' H1, xs[i]? = some x → ys[i]? = some y → zs[i]? = some z → Ex H H1 → Td K H1 v (f x) → Td K H1 u (g y) → Td K H1 w (k z) → Pv i σ' H1 →
      ∀ N : L2.St → Hp → Prop, (∀ σ2 H2, Pv (i + 1) σ2 H2 → Ex H1 H2 → N σ2 H2) → Pst K tu { D with nx := N, ct := N, bk := D.nx } (((σ'.set j (some v)).set l (some u)).set m (some w)) H1)
    (hd : ∀ σ' H1, Ex H H1 → Pv xs.length σ' H1 → D.nx σ' H1) : Pst K (tFor (iZip3 K ta) (gTup K 3 (gCons (gName j) (gCons (gName l) (gCons (gName m) gNil)))) tu) D σ H := fun H1 a => h H1 a _ fun ws H2 e tw => by
  obtain _ | ⟨w1, _ | ⟨w2, _ | ⟨w3, _ | _⟩⟩⟩ := tw
  obtain ⟨pa, xa, rfl, ha, alla⟩ := w1.tup_inv
  obtain ⟨pb, xb, rfl, hb, allb⟩ := w2.tup_inv
  obtain ⟨pc, xc, rfl, hc, allc⟩ := w3.tup_inv
  have la := alla.length
  have lb := allb.length
  have lc := allc.length
  rw [List.length_map] at la lb lc
  have a2 := a.trans e
  refine ⟨pa, pb, pc, xa, xb, xc, rfl, ha, hb, hc, ?_⟩
  refine ⟨fun i n σ' H' => n = xs.length - i ∧ i ≤ xs.length ∧ Pv i σ' H' ∧ Ex H H' ∧ Ex H2 H', ⟨xs.length, rfl, Nat.zero_le _, hst _ _ _ _ a2 h0, a2, Ex.refl _⟩, ?_⟩
  rintro i n σ' H' ⟨rfl, hi, p1, p2, p3⟩
  by_cases hlt : i < xs.length
  · have hxa : xa[i]? = some xa[i] := List.getElem?_eq_getElem (by omega)
    have hxb : xb[i]? = some xb[i] := List.getElem?_eq_getElem (by omega)
    have hxc : xc[i]? = some xc[i] := List.getElem?_eq_getElem (by omega)
    refine .inr ⟨⟨xa, xb, xc, _, _, _, ex_t p3 ha, ex_t p3 hb, ex_t p3 hc, hxa, hxb, hxc⟩, fun σ2 H3 => Pv (i + 1) σ2 H3 ∧ Ex H H3 ∧ Ex H2 H3, fun σ2 H3 p' => ⟨xs.length - (i + 1), by omega, rfl, hlt, p'⟩, fun v H3 y => ?_⟩
    obtain ⟨T, x', y', z', rfl, hT, rfl, f1, f2, f3⟩ := y
    have q1 := f1 xa (ex_t p3 ha)
    have q2 := f2 xb (ex_t p3 hb)
    have q3 := f3 xc (ex_t p3 hc)
    obtain ⟨d1, hd1, td1⟩ := alla.getV q1
    obtain ⟨d2, hd2, td2⟩ := allb.getV q2
    obtain ⟨d3, hd3, td3⟩ := allc.getV q3
    rw [List.getElem?_map] at hd1 hd2 hd3
    obtain ⟨z1, hz1, rfl⟩ := Option.map_eq_some_iff.mp hd1
    obtain ⟨z2, hz2, rfl⟩ := Option.map_eq_some_iff.mp hd2
    obtain ⟨z3, hz3, rfl⟩ := Option.map_eq_some_iff.mp hd3
    have e4 : Ex H' (upd H' T (.tup [x', y', z'])) := Ex.new hT
    refine ⟨T, [x', y', z'], rfl, SqT.of upd_same, rfl, _, _, rfl, _, _, rfl, _, _, rfl, rfl, ?_⟩
    exact (hs i z1 z2 z3 x' y' z' σ' (upd H' T (.tup [x', y', z'])) hz1 hz2 hz3 (p2.trans e4) (td1.ex (p3.trans e4)) (td2.ex (p3.trans e4)) (td3.ex (p3.trans e4)) (hst _ _ _ _ e4 p1) _ fun σ2 H3 q1 q2 => ⟨q1, (p2.trans e4).trans q2, (p3.trans e4).trans q2⟩).go
  · have ei : i = xs.length := by omega
    subst ei
    exact .inl ⟨⟨xa, xb, xc, ex_t p3 ha, ex_t p3 hb, ex_t p3 hc, by omega, by omega, by omega⟩, hd σ' H' p2 p1⟩
end Hw

set_option maxRecDepth 100000
set_option maxHeartbeats 4000000
/-! SE1: who sets what, in the program -/
namespace Hw
open PySem PySem.Spec PyProof.Rows L2 Evl
local macro_rules | `(tactic| walk_at "dd") => `(tactic| first | rfl | decide | (simp; done) | omega)
local macro_rules | `(tactic| walk_at "td") => `(tactic| first | assumption | exact Td.int _ | exact Td.bl _ | exact Td.str _ | exact Td.non | exact Td.tup (by assumption) (by assumption))
local macro_rules | `(tactic| walk_at "ev") => `(tactic| first
  | exact ed_ci | exact ed_cs | exact ed_cb | exact ed_cn
  | (apply ed_cg; assumption)
  | (apply ed_var; (rfl); (walk_at "td"))
  | (apply ed_ixT; (walk_at "ev"); (walk_at "ev"); (first | rfl | assumption))
  | (apply ed_rowI; (rfl); (assumption); (walk_at "ev"); (rfl))
  | (apply ed_ixL; (apply EvDL.rd; walk_at "edl"); (walk_at "ev"); (rfl))
  | (apply ed_intb; (walk_at "ev"))
  | (apply ed_len; walk_at "ev")
  | (apply ed_lenV; (apply ev_rowR; (rfl); (assumption); (walk_at "ev"); (rfl)); (assumption))
  | (apply ed_Ii; (walk_at "ev"); (walk_at "ev"); (walk_at "cc"))
  | (apply ed_isi; (walk_at "ev"); (rfl))
  | (apply ed_I0i; (walk_at "ev"); (walk_at "ev"))
  | (apply ed_I0b; (walk_at "ev"); (walk_at "ev"))
  | (apply ed_eqi; (walk_at "ev"); (walk_at "ev"))
  | (apply ed_nei; (walk_at "ev"); (walk_at "ev"))
  | (apply ed_andF; walk_at "ev")
  | (apply ed_andV; (walk_at "ev"); (intro _; walk_at "ev"))
  | (apply ed_orT; walk_at "ev")
  | (apply ed_orV; (walk_at "ev"); (intro _; walk_at "ev"))
  | (apply ed_notT; walk_at "ev")
  | (apply ed_notF; walk_at "ev")
  | (apply ed_notV; walk_at "ev")
  | (apply ed_chain; (walk_at "ev"); (walk_at "ev"); (intro _; walk_at "ev"))
  | (apply ed_eqS; (walk_at "ev"); (walk_at "ev"); (walk_at "bb"); (walk_at "bb"))
  | (apply ed_neS; (walk_at "ev"); (walk_at "ev"); (walk_at "bb"); (walk_at "bb"))
  | (apply ed_inT; (walk_at "ev"); (walk_at "ev"); (rfl); (rfl))
  | (apply ed_niT; (walk_at "ev"); (walk_at "ev"); (rfl); (rfl))
  | (apply ed_tup; (walk_at "eva"); (walk_at "bb"))
  | (apply ed_sl; (walk_at "ev"); (walk_at "evo"); (walk_at "evo"))
  | (apply ed_eqN; (apply EvDL.rd; walk_at "edl"); (walk_at "edl"); (walk_at "bb"))
  | (apply ed_neN; (apply EvDL.rd; walk_at "edl"); (walk_at "edl"); (walk_at "bb"))
  | (apply ed_ixL; (apply edr_var; (rfl); (assumption); (assumption)); (walk_at "ev"); (first | rfl | assumption))
  | (apply ed_lenL; (apply edr_var; (rfl); (assumption); (assumption)))
  | (apply ed_call; (walk_at "eva"); (walk_at "post")))
local macro_rules | `(tactic| walk_at "edl") => `(tactic| first
  | assumption
  | (apply edl_lst; (walk_at "eva"); (walk_at "bb")))
local macro_rules | `(tactic| walk_at "eva") => `(tactic| first
  | exact eda_nil
  | (apply eda_cons; (walk_at "ev"); (walk_at "eva")))
local macro_rules | `(tactic| walk_at "evo") => `(tactic| first
  | exact eok_none
  | (apply eok_some; walk_at "ev"))
local macro_rules | `(tactic| walk_at "bb") => `(tactic| first | rfl | assumption | (simp; done) | (simp; omega) | decide +kernel)
local macro_rules | `(tactic| walk_at "et") => `(tactic| first
  | exact tk_yes
  | (apply tk_andF; walk_at "et")
  | (apply tk_and; (walk_at "et"); (intro _; walk_at "et"))
  | (apply tk_orT; walk_at "et")
  | (apply tk_or; (walk_at "et"); (intro _; walk_at "et"))
  | (apply tk_notT; walk_at "et")
  | (apply tk_notF; walk_at "et")
  | (apply tk_not; walk_at "et")
  | (apply tk_v; walk_at "ev")
  | (apply tk_vB; walk_at "ev"))
local macro_rules | `(tactic| walk_at "if") => `(tactic| first
  | (apply pst_whenF; (walk_at "et"); (walk_at "bb"))
  | (apply pst_whenT; (walk_at "et"); (walk_at "bb")))
local macro_rules | `(tactic| walk_at "post") => `(tactic| first | assumption | exact ⟨_, _, rfl, rfl⟩ | exact ⟨_, _, _, _, rfl, by omega, by omega, rfl⟩ | exact ⟨_, _, _, 0, rfl, by omega, by omega, rfl⟩)
local macro_rules | `(tactic| walk_at "cc") => `(tactic| first | assumption | decide | omega | (refine ⟨?_, ?_⟩ <;> first | decide | omega) | (exact Or.inl (by constructor <;> omega)))

section
variable {K : PySem.W.Frag} {σ : L2.St} {H H' : Hp} {D : Ends} {tu tz : TS} {tl td ty : TE} {v : V} {d : PyData} {kn : Addr} {n : Nat}
/-- for x in a tuple; the heap is only added to -/
theorem pst_forT {α : Type} {j : Nat} (xs : List α) (f : α → PyData) (h : EvD K tl σ H (.tuple (xs.map f)))
    (Pv : Nat → L2.St → Hp → Prop) (hst : ∀ i σ' H1 H2, Ex H1 H2 → Pv i σ' H1 → Pv i σ' H2) (h0 : Pv 0 σ H)
    (hs : ∀ i x v σ' H1, xs[i]? = some x → Ex H H1 → Td K H1 v (f x) → Pv i σ' H1 → ∀ N : L2.St → Hp → Prop, (∀ σ2 H2, Pv (i + 1) σ2 H2 → Ex H1 H2 → N σ2 H2) → Pst K tu { D with nx := N, ct := N, bk := tz D } (σ'.set j (some v)) H1)
    (hd : ∀ σ' H1, Ex H H1 → Pv xs.length σ' H1 → Pst K tz D σ' H1) : Pst K (tSeq (tFor (iTup K tl) (gName j) tu) tz) D σ H := fun H1 a => h H1 a _ fun w H2 e tw => by
  obtain ⟨pa, xa, rfl, ha, alla⟩ := tw.tup_inv
  have la := alla.length
  rw [List.length_map] at la
  have a2 := a.trans e
  refine ⟨pa, rfl, ⟨xa, ha⟩, for_tup (fun i σ' H' => Pv i σ' H' ∧ Ex H H' ∧ Ex H2 H') ⟨hst _ _ _ _ a2 h0, a2, Ex.refl _⟩ (fun i σ' H' _ p => ex_t p.2.2 ha) (fun i x σ' H' hi p => ?_) (fun σ' H' p => (hd σ' H' p.2.1 (by rw [← la]; exact p.1)).go)⟩
  obtain ⟨p1, p2, p3⟩ := p
  obtain ⟨d1, hd1, td1⟩ := alla.getV hi
  rw [List.getElem?_map] at hd1
  obtain ⟨z1, hz1, rfl⟩ := Option.map_eq_some_iff.mp hd1
  exact (hs i z1 x σ' H' hz1 p2 (td1.ex p3) p1 _ fun σ2 H3 q1 q2 => ⟨q1, p2.trans q2, p3.trans q2⟩).go
theorem ed_dgetI {kvs : List (Key × V)} {c : Int} (hs : σ[n]? = some (some (.ref kn))) (hk : H kn = some (.dK kvs)) (hy : EvD K ty σ H (.int c)) (hv : valV kvs (Sum.inl c) = some v) (tv : Td K H v d) : EvD K (tDGet (tVar n) ty) σ H d := fun H1 a Q q =>
  ⟨.ref kn, hs, hy.iv H1 a _ fun H2 e2 => ⟨kn, v, rfl, by
    have := DGet.k (k := Sum.inl c) ((a.trans e2) kn _ hk)
    rw [hv] at this
    exact this, q v H2 e2 (tv.ex (a.trans e2))⟩⟩
end
theorem eqv_par (t : Th) (k : Nat) : PyData.eqv (encT t) (.tuple [.str "par", .int (k : Int)]) = decide (t = .par k) := by
  have n1 : ¬ Str.ofString "num" = Str.ofString "par" := by decide +kernel
  have n2 : ¬ Str.ofString "cell" = Str.ofString "par" := by decide +kernel
  have n3 : ¬ Str.ofString "own" = Str.ofString "par" := by decide +kernel
  cases t with
  | par n =>
    simp [encT, PyData.eqv, PyData.eqvAll]
    rw [Bool.eq_iff_iff]
    simp
    omega
  | num n => simp [encT, PyData.eqv, PyData.eqvAll, n1]
  | cell t => simp [encT, PyData.eqv, PyData.eqvAll, n2]
  | own t => simp [encT, PyData.eqv, PyData.eqvAll, n3]
  | sum a b => simp [encT, PyData.eqv, PyData.eqvAll]
/-- the call hands its thing i on to a work that so may set it -/
def hitC (ys : List (List Str)) (ks : Nat → Option (List Bool)) (param c : Nat) (ts : List Th) (i : Nat) : Bool := ((ks c).getD []).getD i false && (!PyData.eqv (.str ((ys.getD c []).getD i "copy")) (.str "copy") && decide (ts.getD i (.num 0) = .par param))
mutual
def setsS (ys : List (List Str)) (ks : Nat → Option (List Bool)) (param : Nat) : Stm → Bool
  | .set p _ => decide (p = .par param)
  | .say _ => false
  | .ite _ a b => setsB ys ks param a || setsB ys ks param b
  | .call c ts => (List.range ts.length).any (hitC ys ks param c ts)
def setsB (ys : List (List Str)) (ks : Nat → Option (List Bool)) (param : Nat) : List Stm → Bool
  | [] => false
  | s :: r => setsS ys ks param s || setsB ys ks param r
end
theorem setsB_any (ys : List (List Str)) (ks : Nat → Option (List Bool)) (param : Nat) : ∀ b : List Stm, setsB ys ks param b = b.any (setsS ys ks param)
  | [] => rfl
  | s :: r => by simp [setsB, setsB_any ys ks param r]
/-- the known ones stand at kn -/
def KnAt (K : PySem.W.Frag) (kn : Addr) (ks : Nat → Option (List Bool)) (H : Hp) : Prop := ∃ kvs, H kn = some (.dK kvs) ∧ ∀ c bs, ks c = some bs → ∃ v, valV kvs (Sum.inl (c : Int)) = some v ∧ Td K H v (.tuple (bs.map PyData.bool))
theorem KnAt.ex {K : PySem.W.Frag} {kn : Addr} {ks : Nat → Option (List Bool)} {H H' : Hp} (h : KnAt K kn ks H) (e : Ex H H') : KnAt K kn ks H' := by
  obtain ⟨kvs, h1, h2⟩ := h
  refine ⟨kvs, e _ _ h1, fun c bs hc => ?_⟩
  obtain ⟨v, h3, h4⟩ := h2 c bs hc
  exact ⟨v, h3, h4.ex e⟩
/-- each call fits the ways and what is known of the work -/
def fitC (ys : List (List Str)) (ks : Nat → Option (List Bool)) (x : Nat × List Th) : Prop := ∃ y bs, ys[x.1]? = some y ∧ ks x.1 = some bs ∧ y.length = x.2.length ∧ bs.length = x.2.length ∧ ∀ z ∈ y, (PyData.str z).canLay0 = true
def spSets (K : PySem.W.Frag) (n : Nat) : Sp := fun vs H Q _ => ∃ (b y : V) (kn : Addr) (param : Nat) (body : List Stm) (ys : List (List Str)) (ks : Nat → Option (List Bool)), vs = [b, .int (param : Int), y, .ref kn] ∧ Td K H b (.tuple (encB body)) ∧ Td K H y (encY ys) ∧ KnAt K kn ks H ∧ dpB body + 1 ≤ n ∧ smB body = true ∧ body.length ≤ 1000 ∧ (∀ x ∈ callsB body, fitC ys ks x) ∧
  ∀ H', Ex H H' → Q (.bl (setsB ys ks param body)) H'
theorem bods_len (x : Stm) : (bods x).length ≤ 2 := by cases x <;> simp [bods]
theorem any_filter {α : Type} {f : α → Bool} {g : α → PyData} (l : List α) : l.any f = !((l.filter f).map g).isEmpty := by
  induction l with
  | nil => rfl
  | cons a r ih =>
    rw [List.any_cons, List.filter_cons]
    cases h : f a with
    | true => simp
    | false => simpa using ih
theorem sets_bods {ys : List (List Str)} {ks : Nat → Option (List Bool)} {param : Nat} {x : Stm} (h : (bods x).any (setsB ys ks param) = true) : setsS ys ks param x = true := by
  cases x with
  | ite t a b => simpa [bods, setsS] using h
  | _ => simp [bods] at h
section
variable {P : Program} {w : World} {K : PySem.W.Frag} {mg : Str → Option Value} {base : Heap} (T : Tx K mg)
include T
theorem ok_sets (GB : Fn_bodies_of T P w base CX0 1 (spF K pBods)) : ∀ n : Nat, Fn_sets T P w base CX0 (n + 1) (spSets K n) := by
  intro n
  induction n with
  | zero => exact fn_vac fun vs H Q E h => by obtain ⟨_, _, _, _, _, _, _, _, _, _, _, h, _⟩ := h; omega
  | succ n ih =>
    have G_bodies_of := GB
    have G_sets := ih
    refine T.F_sets.ok sc_sets (fun vs H Q E h => by obtain ⟨_, _, _, _, _, _, _, rfl, _⟩ := h; rfl) fun cdv A outer s0 H vs Q E hr h => ?_
    obtain ⟨b, y, kn, param, body, ys, ks, rfl, tb, ty, hkn, hdp, hsm, hlen, hfit, k⟩ := h
    refine ⟨_, (pss_cons (ps_for (passes_of rfl) rfl (kpi_tup K (pv 0)) (pg_name (i := 4) sc_sets.nd rfl (Or.inl rfl))
    (pss_cons (ps_if (PW.pt (pw_and (pt_cmpR (kop_eq K hr.units) (pe_ix (kix_tup K) (pv 4) pe_int (fun _ _ => rfl)) pe_str (nomark _)) (pw_and1 (pt_cmpR (kop_eq K hr.units) (pe_ix (kix_tup K) (pv 4) pe_int (fun _ _ => rfl)) (pe_tup (pa_cons pe_str (pa_cons (pv 1) pa_nil))) (nomark _)))))
      (pss_one (ps_ret pe_bl))
      pss_nil)
    (pss_cons (ps_if (pt_cmpR (kop_eq K hr.units) (pe_ix (kix_tup K) (pv 4) pe_int (fun _ _ => rfl)) pe_str (nomark _))
      (pss_one (ps_for (passes_of rfl) rfl (kpi_zip3 K (by rfl) T.b_zip (pa_cons (pe_ix (kix_tup K) (pv 4) pe_int (fun _ _ => rfl)) (pa_cons (pe_ix (kix_tup K) (pv 2) (pe_ix (kix_tup K) (pv 4) pe_int (fun _ _ => rfl)) (fun _ _ => rfl)) (pa_cons (pe_dget (hu_of hr) (pv 3) (pe_ix (kix_tup K) (pv 4) pe_int (fun _ _ => rfl)) (fun _ _ => rfl)) pa_nil)))) (kpg_tup K rfl (pgs_cons (pg_name (i := 5) sc_sets.nd rfl (Or.inl rfl)) (pgs_cons (pg_name (i := 6) sc_sets.nd rfl (Or.inl rfl)) (pgs_cons (pg_name (i := 7) sc_sets.nd rfl (Or.inl rfl)) pgs_nil))))
        (pss_one (ps_if (PW.pt (pw_and (pt_val (pv 7)) (pw_and (pt_cmpR (kop_ne K hr.units) (pv 6) pe_str (nomark _)) (pw_and1 (pt_cmpR (kop_eq K hr.units) (pv 5) (pe_tup (pa_cons pe_str (pa_cons (pv 1) pa_nil))) (nomark _))))))
          (pss_one (ps_ret pe_bl))
          pss_nil))))
      pss_nil)
    (pss_one (ps_if (pt_cmpR (kop_ne K hr.units) (pe_lc (own := [("inner", 8)]) (g := gName 8) (tt := _) rfl sc_sets.nd (kpi_tup K (pe_call G_bodies_of (hr.mono (by omega)) (by rfl) T.g_bodies_of T.k_bodies_of T.bd_bodies_of .nil pass0 (pa_cons (pv 4) pa_nil))) (blkOk_by (N := ["body", "param", "ways", "known", "step", "thing", "way", "good", "inner"]) (sc := defScope s_sets) (by decide +kernel)) (fun _ _ _ _ _ => (pg_name (i := 8) sc_sets.nd rfl (Or.inl rfl))) (fun _ _ _ _ _ => (pts_one (pt_val (pe_call G_sets (hr.mono (by omega)) (by rfl) T.g_sets T.k_sets T.bd_sets .nil pass0 (pa_cons (pv 8) (pa_cons (pv 1) (pa_cons (pv 2) (pa_cons (pv 3) pa_nil)))))))) (fun _ _ _ _ _ => (pv 8))) (pe_lst pa_nil) (nomark _))
      (pss_one (ps_ret pe_bl))
      pss_nil)))))
  (pss_one (ps_ret pe_bl))), ?_⟩
    refine Pst.go (K := K) ?_
    refine pst_forT (K := K) body encS ?_ (fun i σ' H' => ∃ u4 u5 u6 u7 : Option V, σ' = [some b, some (.int (param : Int)), some y, some (.ref kn), u4, u5, u6, u7, none] ∧ ∀ j, j < i → ∀ s, body[j]? = some s → setsS ys ks param s = false) ?_ ?_ ?_ ?_
    · rw [← encB_map]
      exact ed_var rfl tb
    · rintro i σ' H1 H2 e ⟨u4, u5, u6, u7, rfl, h⟩
      exact ⟨u4, u5, u6, u7, rfl, h⟩
    · exact ⟨_, _, _, _, rfl, fun j hj => absurd hj (Nat.not_lt_zero j)⟩
    · rintro i x v σ' H1 hx e1 tx ⟨u4, u5, u6, u7, rfl, hpre⟩ N hN
      have hmem := List.mem_of_getElem? hx
      have yes : ∀ {H2}, Ex H H2 → setsS ys ks param x = true → Q (.bl true) H2 := fun e2 hs => by
        have e : setsB ys ks param body = true := by
          rw [setsB_any, List.any_eq_true]
          exact ⟨x, hmem, hs⟩
        rw [← e]
        exact k _ e2
      have more : setsS ys ks param x = false → ∀ j, j < i + 1 → ∀ s, body[j]? = some s → setsS ys ks param s = false := fun h j hj s hs => by
        rcases Nat.lt_succ_iff_lt_or_eq.mp hj with hj | hj
        · exact hpre j hj s hs
        · subst hj
          rw [hx] at hs
          cases hs
          exact h
      cases x with
      | set p t =>
        unfold encS at tx
        apply pst_when (b := decide (p = .par param))
        · refine tk_is (tk_and (a := true) (b := decide (p = .par param)) ?_ fun _ => ?_) rfl
          · apply tk_is
            · walk_at "et"
            · simp
          · refine tk_v (ed_is (ed_eqM (d := encT p) (e := .tuple [.str "par", .int (param : Int)]) ?_ ?_ (encT_lay p) (encT_lay (.par param)) ?_) ?_)
            · walk_at "ev"
            · walk_at "ev"
            · refine Nat.le_trans (Nat.min_le_right _ _) ?_
              exact Nat.le_of_ble_eq_true rfl
            · rw [eqv_par]
        · intro hb
          refine pst_ret (d := .bool true) ed_cb fun v2 H3 e3 t3 => ?_
          cases t3
          exact yes (e1.trans e3) (by simpa [setsS] using hb)
        · intro hb
          refine pst_whenF (b := false) ?_ rfl ?_
          · apply tk_is
            · walk_at "et"
            · simp
          have hb0 := hb
          refine pst_if (K := K) (b := (bods (.set p t)).any (setsB ys ks param)) ?_ (fun hb => ?_) (fun hb => ?_)
          · refine tk_is (tk_v (ed_neN (EvDL.rd (edl_lcM (xs := bods (.set p t)) (f := fun b => .tuple (encB b)) (p := setsB ys ks param) (g := fun b => .tuple (encB b)) (ed_call (eda_cons (ed_var rfl tx) eda_nil) ⟨_, rfl, rfl⟩) rfl ?_ (fun _ => rfl) (fun bd vb H3 e3 hbd tbd => tk_vB fun H4 e4 Q q => ?_) fun bd vb H3 e3 hbd _ tbd => ed_var rfl tbd)) (edl_lst eda_nil (by simp)) ?_)) ?_
            · have : (bods (.set p t)).length ≤ 2 := bods_len _
              omega
            · refine ⟨_, rfl, _, rfl, _, rfl, _, rfl, ?_⟩
              have hb2 := bods_sm (smB_mem hsm hmem) hbd
              have hb3 := bods_dp hbd
              have hb4 := dpB_mem hmem
              refine ⟨vb, y, kn, param, bd, ys, ks, rfl, tbd.ex e4, ty.ex (((e1.trans (Ex.refl H1)).trans e3).trans e4), hkn.ex (((e1.trans (Ex.refl H1)).trans e3).trans e4), by omega, hb2.2, hb2.1, fun z hz => hfit z (callsB_mem hmem (callsS_bods hbd hz)), fun H5 e5 => q _ _ e5 (.bl _)⟩
            · have : ∀ l : List (List Stm), PyData.canLayAll0 (l.map fun b => PyData.tuple (encB b)) = true := by
                intro l
                induction l with
                | nil => rfl
                | cons a r ih => simp only [List.map_cons, PyData.canLayAll0, PyData.canLay0, ih, encB_lay, Bool.and_true]
              exact this _
            · rw [← any_filter]
          · refine pst_ret (d := .bool true) ed_cb fun v2 H3 e3 t3 => ?_
            cases t3
            exact yes ((e1.trans (Ex.refl H1)).trans e3) (sets_bods hb)
          · refine pst_of fun H3 e3 => ?_
            exact hN _ _ ⟨_, _, _, _, rfl, more ((fun _ => by simpa [setsS] using hb0) hb)⟩ (Ex.trans (Ex.refl H1) e3)
      | say t =>
        unfold encS at tx
        refine pst_whenF (b := false) ?_ rfl ?_
        · apply tk_andF
          apply tk_is
          · walk_at "et"
          · simp
        refine pst_whenF (b := false) ?_ rfl ?_
        · apply tk_is
          · walk_at "et"
          · simp
        refine pst_if (K := K) (b := (bods (.say t)).any (setsB ys ks param)) ?_ (fun hb => ?_) (fun hb => ?_)
        · refine tk_is (tk_v (ed_neN (EvDL.rd (edl_lcM (xs := bods (.say t)) (f := fun b => .tuple (encB b)) (p := setsB ys ks param) (g := fun b => .tuple (encB b)) (ed_call (eda_cons (ed_var rfl tx) eda_nil) ⟨_, rfl, rfl⟩) rfl ?_ (fun _ => rfl) (fun bd vb H3 e3 hbd tbd => tk_vB fun H4 e4 Q q => ?_) fun bd vb H3 e3 hbd _ tbd => ed_var rfl tbd)) (edl_lst eda_nil (by simp)) ?_)) ?_
          · have : (bods (.say t)).length ≤ 2 := bods_len _
            omega
          · refine ⟨_, rfl, _, rfl, _, rfl, _, rfl, ?_⟩
            have hb2 := bods_sm (smB_mem hsm hmem) hbd
            have hb3 := bods_dp hbd
            have hb4 := dpB_mem hmem
            refine ⟨vb, y, kn, param, bd, ys, ks, rfl, tbd.ex e4, ty.ex (((e1.trans (Ex.refl H1)).trans e3).trans e4), hkn.ex (((e1.trans (Ex.refl H1)).trans e3).trans e4), by omega, hb2.2, hb2.1, fun z hz => hfit z (callsB_mem hmem (callsS_bods hbd hz)), fun H5 e5 => q _ _ e5 (.bl _)⟩
          · have : ∀ l : List (List Stm), PyData.canLayAll0 (l.map fun b => PyData.tuple (encB b)) = true := by
              intro l
              induction l with
              | nil => rfl
              | cons a r ih => simp only [List.map_cons, PyData.canLayAll0, PyData.canLay0, ih, encB_lay, Bool.and_true]
            exact this _
          · rw [← any_filter]
        · refine pst_ret (d := .bool true) ed_cb fun v2 H3 e3 t3 => ?_
          cases t3
          exact yes ((e1.trans (Ex.refl H1)).trans e3) (sets_bods hb)
        · refine pst_of fun H3 e3 => ?_
          exact hN _ _ ⟨_, _, _, _, rfl, more ((fun _ => by simp [setsS]) hb)⟩ (Ex.trans (Ex.refl H1) e3)
      | ite t ba bb =>
        unfold encS at tx
        refine pst_whenF (b := false) ?_ rfl ?_
        · apply tk_andF
          apply tk_is
          · walk_at "et"
          · simp
        refine pst_whenF (b := false) ?_ rfl ?_
        · apply tk_is
          · walk_at "et"
          · simp
        refine pst_if (K := K) (b := (bods (.ite t ba bb)).any (setsB ys ks param)) ?_ (fun hb => ?_) (fun hb => ?_)
        · refine tk_is (tk_v (ed_neN (EvDL.rd (edl_lcM (xs := bods (.ite t ba bb)) (f := fun b => .tuple (encB b)) (p := setsB ys ks param) (g := fun b => .tuple (encB b)) (ed_call (eda_cons (ed_var rfl tx) eda_nil) ⟨_, rfl, rfl⟩) rfl ?_ (fun _ => rfl) (fun bd vb H3 e3 hbd tbd => tk_vB fun H4 e4 Q q => ?_) fun bd vb H3 e3 hbd _ tbd => ed_var rfl tbd)) (edl_lst eda_nil (by simp)) ?_)) ?_
          · have : (bods (.ite t ba bb)).length ≤ 2 := bods_len _
            omega
          · refine ⟨_, rfl, _, rfl, _, rfl, _, rfl, ?_⟩
            have hb2 := bods_sm (smB_mem hsm hmem) hbd
            have hb3 := bods_dp hbd
            have hb4 := dpB_mem hmem
            refine ⟨vb, y, kn, param, bd, ys, ks, rfl, tbd.ex e4, ty.ex (((e1.trans (Ex.refl H1)).trans e3).trans e4), hkn.ex (((e1.trans (Ex.refl H1)).trans e3).trans e4), by omega, hb2.2, hb2.1, fun z hz => hfit z (callsB_mem hmem (callsS_bods hbd hz)), fun H5 e5 => q _ _ e5 (.bl _)⟩
          · have : ∀ l : List (List Stm), PyData.canLayAll0 (l.map fun b => PyData.tuple (encB b)) = true := by
              intro l
              induction l with
              | nil => rfl
              | cons a r ih => simp only [List.map_cons, PyData.canLayAll0, PyData.canLay0, ih, encB_lay, Bool.and_true]
            exact this _
          · rw [← any_filter]
        · refine pst_ret (d := .bool true) ed_cb fun v2 H3 e3 t3 => ?_
          cases t3
          exact yes ((e1.trans (Ex.refl H1)).trans e3) (sets_bods hb)
        · refine pst_of fun H3 e3 => ?_
          exact hN _ _ ⟨_, _, _, _, rfl, more ((fun hh => by simpa [setsS, bods] using hh) hb)⟩ (Ex.trans (Ex.refl H1) e3)
      | call c ts =>
        obtain ⟨yc, bs, hyc, hbs, hly, hlb, hlay⟩ := hfit (c, ts) (callsB_mem hmem (by simp [callsS]))
        have tx0 := tx
        unfold encS at tx
        refine pst_whenF (b := false) ?_ rfl ?_
        · apply tk_andF
          apply tk_is
          · walk_at "et"
          · simp
        refine pst_whenT (b := true) ?_ rfl ?_
        · apply tk_is
          · walk_at "et"
          · simp
        obtain ⟨kvs, hkv, hkall⟩ := hkn.ex e1
        obtain ⟨vk, hvk, tvk⟩ := hkall c bs hbs
        have ehit : ∀ l t w g, ts[l]? = some t → yc[l]? = some w → bs[l]? = some g → hitC ys ks param c ts l = (g && (!PyData.eqv (.str w) (.str "copy") && decide (t = .par param))) := by
          intro l t w g h1 h2 h3
          simp [hitC, hbs, List.getD, hyc, h1, h2, h3]
        refine pst_forZ3 (K := K) ts yc bs encT PyData.str PyData.bool ?_ hly.symm hlb.symm (fun l σ2 H2 => ∃ u5 u6 u7 : Option V, σ2 = [some b, some (.int (param : Int)), some y, some (.ref kn), some v, u5, u6, u7, none] ∧ ∀ j, j < l → hitC ys ks param c ts j = false) ?_ ?_ ?_ ?_
        · apply eda_cons
          · walk_at "ev"
          apply eda_cons
          · have ty1 : Td K H1 y (.tuple (ys.map fun y => .tuple (y.map PyData.str))) := ty.ex e1
            refine ed_ixT (ds := ys.map fun y => .tuple (y.map PyData.str)) (ed_var rfl ty1) (i := (c : Int)) ?_ (atI_nat (by rw [List.getElem?_map, hyc] <;> rfl))
            walk_at "ev"
          apply eda_cons
          · refine ed_dgetI rfl hkv (c := (c : Int)) ?_ hvk tvk
            walk_at "ev"
          exact eda_nil
        · rintro l σ2 H2 H3 e ⟨u5, u6, u7, rfl, h⟩
          exact ⟨u5, u6, u7, rfl, h⟩
        · exact ⟨_, _, _, rfl, fun j hj => absurd hj (Nat.not_lt_zero j)⟩
        · rintro l t w g v1 v2 v3 σ2 H2 h1 h2 h3 e2 t1 t2 t3 ⟨u5, u6, u7, rfl, hpre2⟩ N2 hN2
          have hlw := hlay w (List.mem_of_getElem? h2)
          refine pst_if (K := K) (b := g && (!PyData.eqv (.str w) (.str "copy") && decide (t = .par param))) ?_ (fun hb => ?_) (fun hb => ?_)
          · refine tk_and (tk_vB (ed_var rfl t3)) fun _ => tk_and (tk_v (ed_neS (ed_var rfl t2) ed_cs hlw (by simp))) fun _ => tk_v (ed_is (ed_eqM (d := encT t) (e := .tuple [.str "par", .int (param : Int)]) (ed_var rfl t1) ?_ (encT_lay t) (encT_lay (.par param)) ?_) ?_)
            · walk_at "ev"
            · refine Nat.le_trans (Nat.min_le_right _ _) ?_
              exact Nat.le_of_ble_eq_true rfl
            · rw [eqv_par]
          · refine pst_ret (d := .bool true) ed_cb fun v4 H3 e3 t4 => ?_
            cases t4
            refine yes ((e1.trans e2).trans e3) ?_
            simp only [setsS, List.any_eq_true, List.mem_range]
            exact ⟨l, (List.getElem?_eq_some_iff.mp h1).1, by rw [ehit l t w g h1 h2 h3]; exact hb⟩
          · refine pst_of fun H3 e3 => ?_
            refine hN2 _ _ ⟨_, _, _, rfl, fun j hj => ?_⟩ e3
            rcases Nat.lt_succ_iff_lt_or_eq.mp hj with hj | hj
            · exact hpre2 j hj
            · subst hj
              rw [ehit j t w g h1 h2 h3]
              exact hb
        · rintro σ2 H2 e2 ⟨u5, u6, u7, rfl, hpre2⟩
          dsimp only
          refine Pst.go (K := K) ?_
          refine pst_if (K := K) (b := (bods (.call c ts)).any (setsB ys ks param)) ?_ (fun hb => ?_) (fun hb => ?_)
          · refine tk_is (tk_v (ed_neN (EvDL.rd (edl_lcM (xs := bods (.call c ts)) (f := fun b => .tuple (encB b)) (p := setsB ys ks param) (g := fun b => .tuple (encB b)) (ed_call (eda_cons (ed_var rfl (tx0.ex e2)) eda_nil) ⟨_, rfl, rfl⟩) rfl ?_ (fun _ => rfl) (fun bd vb H3 e3 hbd tbd => tk_vB fun H4 e4 Q q => ?_) fun bd vb H3 e3 hbd _ tbd => ed_var rfl tbd)) (edl_lst eda_nil (by simp)) ?_)) ?_
            · have : (bods (.call c ts)).length ≤ 2 := bods_len _
              omega
            · refine ⟨_, rfl, _, rfl, _, rfl, _, rfl, ?_⟩
              have hb2 := bods_sm (smB_mem hsm hmem) hbd
              have hb3 := bods_dp hbd
              have hb4 := dpB_mem hmem
              refine ⟨vb, y, kn, param, bd, ys, ks, rfl, tbd.ex e4, ty.ex (((e1.trans e2).trans e3).trans e4), hkn.ex (((e1.trans e2).trans e3).trans e4), by omega, hb2.2, hb2.1, fun z hz => hfit z (callsB_mem hmem (callsS_bods hbd hz)), fun H5 e5 => q _ _ e5 (.bl _)⟩
            · have : ∀ l : List (List Stm), PyData.canLayAll0 (l.map fun b => PyData.tuple (encB b)) = true := by
                intro l
                induction l with
                | nil => rfl
                | cons a r ih => simp only [List.map_cons, PyData.canLayAll0, PyData.canLay0, ih, encB_lay, Bool.and_true]
              exact this _
            · rw [← any_filter]
          · refine pst_ret (d := .bool true) ed_cb fun v2 H3 e3 t3 => ?_
            cases t3
            exact yes ((e1.trans e2).trans e3) (sets_bods hb)
          · refine pst_of fun H3 e3 => ?_
            exact hN _ _ ⟨_, _, _, _, rfl, more ((fun _ => by simp only [setsS, List.any_eq_false, List.mem_range]; intro j hj; simp [hpre2 j hj]) hb)⟩ (Ex.trans e2 e3)
    · rintro σ' H1 e1 ⟨u4, u5, u6, u7, rfl, hpre⟩
      refine pst_ret (d := .bool false) ed_cb fun v H2 e2 t2 => ?_
      cases t2
      have e : setsB ys ks param body = false := by
        rw [setsB_any, List.any_eq_false]
        intro s hs
        obtain ⟨j, hj⟩ := List.mem_iff_getElem?.mp hs
        have := hpre j (List.getElem?_eq_some_iff.mp hj).1 s hj
        simp [this]
      rw [← e]
      exact k _ (e1.trans e2)
end
end Hw

set_option maxRecDepth 100000
set_option maxHeartbeats 4000000
/-! SE2: may_set -/
namespace Hw
open PySem PySem.Spec PyProof.Rows L2 Evl
local macro_rules | `(tactic| walk_at "dd") => `(tactic| first | rfl | decide | (simp; done) | omega)
local macro_rules | `(tactic| walk_at "td") => `(tactic| first | assumption | exact Td.int _ | exact Td.bl _ | exact Td.str _ | exact Td.non | exact Td.tup (by assumption) (by assumption))
local macro_rules | `(tactic| walk_at "ev") => `(tactic| first
  | exact ed_ci | exact ed_cs | exact ed_cb | exact ed_cn
  | (apply ed_cg; assumption)
  | (apply ed_var; (rfl); (walk_at "td"))
  | (apply ed_ixT; (walk_at "ev"); (walk_at "ev"); (first | rfl | assumption))
  | (apply ed_rowI; (rfl); (assumption); (walk_at "ev"); (rfl))
  | (apply ed_ixL; (apply EvDL.rd; walk_at "edl"); (walk_at "ev"); (rfl))
  | (apply ed_intb; (walk_at "ev"))
  | (apply ed_len; walk_at "ev")
  | (apply ed_lenV; (apply ev_rowR; (rfl); (assumption); (walk_at "ev"); (rfl)); (assumption))
  | (apply ed_Ii; (walk_at "ev"); (walk_at "ev"); (walk_at "cc"))
  | (apply ed_isi; (walk_at "ev"); (rfl))
  | (apply ed_I0i; (walk_at "ev"); (walk_at "ev"))
  | (apply ed_I0b; (walk_at "ev"); (walk_at "ev"))
  | (apply ed_eqi; (walk_at "ev"); (walk_at "ev"))
  | (apply ed_nei; (walk_at "ev"); (walk_at "ev"))
  | (apply ed_andF; walk_at "ev")
  | (apply ed_andV; (walk_at "ev"); (intro _; walk_at "ev"))
  | (apply ed_orT; walk_at "ev")
  | (apply ed_orV; (walk_at "ev"); (intro _; walk_at "ev"))
  | (apply ed_notT; walk_at "ev")
  | (apply ed_notF; walk_at "ev")
  | (apply ed_notV; walk_at "ev")
  | (apply ed_chain; (walk_at "ev"); (walk_at "ev"); (intro _; walk_at "ev"))
  | (apply ed_eqS; (walk_at "ev"); (walk_at "ev"); (walk_at "bb"); (walk_at "bb"))
  | (apply ed_neS; (walk_at "ev"); (walk_at "ev"); (walk_at "bb"); (walk_at "bb"))
  | (apply ed_inT; (walk_at "ev"); (walk_at "ev"); (rfl); (rfl))
  | (apply ed_niT; (walk_at "ev"); (walk_at "ev"); (rfl); (rfl))
  | (apply ed_tup; (walk_at "eva"); (walk_at "bb"))
  | (apply ed_sl; (walk_at "ev"); (walk_at "evo"); (walk_at "evo"))
  | (apply ed_eqN; (apply EvDL.rd; walk_at "edl"); (walk_at "edl"); (walk_at "bb"))
  | (apply ed_neN; (apply EvDL.rd; walk_at "edl"); (walk_at "edl"); (walk_at "bb"))
  | (apply ed_ixL; (apply edr_var; (rfl); (assumption); (assumption)); (walk_at "ev"); (first | rfl | assumption))
  | (apply ed_lenL; (apply edr_var; (rfl); (assumption); (assumption)))
  | (apply ed_call; (walk_at "eva"); (walk_at "post")))
local macro_rules | `(tactic| walk_at "edl") => `(tactic| first
  | assumption
  | (apply edl_lst; (walk_at "eva"); (walk_at "bb")))
local macro_rules | `(tactic| walk_at "eva") => `(tactic| first
  | exact eda_nil
  | (apply eda_cons; (walk_at "ev"); (walk_at "eva")))
local macro_rules | `(tactic| walk_at "evo") => `(tactic| first
  | exact eok_none
  | (apply eok_some; walk_at "ev"))
local macro_rules | `(tactic| walk_at "bb") => `(tactic| first | rfl | assumption | (simp; done) | (simp; omega) | decide +kernel)
local macro_rules | `(tactic| walk_at "et") => `(tactic| first
  | exact tk_yes
  | (apply tk_andF; walk_at "et")
  | (apply tk_and; (walk_at "et"); (intro _; walk_at "et"))
  | (apply tk_orT; walk_at "et")
  | (apply tk_or; (walk_at "et"); (intro _; walk_at "et"))
  | (apply tk_notT; walk_at "et")
  | (apply tk_notF; walk_at "et")
  | (apply tk_not; walk_at "et")
  | (apply tk_v; walk_at "ev")
  | (apply tk_vB; walk_at "ev"))
local macro_rules | `(tactic| walk_at "if") => `(tactic| first
  | (apply pst_whenF; (walk_at "et"); (walk_at "bb"))
  | (apply pst_whenT; (walk_at "et"); (walk_at "bb")))
local macro_rules | `(tactic| walk_at "post") => `(tactic| first | assumption | exact ⟨_, _, rfl, rfl⟩ | exact ⟨_, _, _, _, rfl, by omega, by omega, rfl⟩ | exact ⟨_, _, _, 0, rfl, by omega, by omega, rfl⟩)
local macro_rules | `(tactic| walk_at "cc") => `(tactic| first | assumption | decide | omega | (refine ⟨?_, ?_⟩ <;> first | decide | omega) | (exact Or.inl (by constructor <;> omega)))

section
variable {K : PySem.W.Frag} {σ : L2.St} {H H' : Hp} {D : Ends} {tu tz : TS} {te : TE}
theorem w_forRev {n j : Nat} (h : EvD K te σ H (.int (n : Int))) (hn : n ≤ 100000) (Pv : Nat → L2.St → Hp → Prop) (h0 : ∀ H1, Ex H H1 → Pv 0 σ H1)
    (hs : ∀ i σ' H', i < n → Pv i σ' H' → tu { D with nx := Pv (i + 1), ct := Pv (i + 1), bk := D.nx } (σ'.set j (some (.int ((n - 1 - i : Nat) : Int)))) H') (hd : ∀ σ' H', Pv n σ' H' → D.nx σ' H') : tFor (iRevR (tRg1 te)) (gName j) tu D σ H :=
  h.iv H (Ex.refl H) _ fun H1 e => by
    refine ⟨(n : Int), rfl, by decide, by decide, by omega, by omega, ?_⟩
    have en : ((n : Int) - 0).toNat = n := by simp
    rw [en]
    refine for_rangeC Pv (h0 H1 e) (fun i σ' H' hi p => ?_) hd
    have e0 : (0 : Int) + ((((n : Nat) : Int))) - 1 + ((i : Nat) : Int) * (-1) = ((n - 1 - i : Nat) : Int) := by omega
    show tu _ (σ'.set j (some (.int ((0 : Int) + ((((n : Nat) : Int))) - 1 + ((i : Nat) : Int) * (-1))))) H'
    rw [e0]
    exact hs i σ' H' hi p
end
theorem put_len (c : List (Key × V)) (k : Key) (x : V) : (putK c k x).length ≤ c.length + 1 := by
  unfold putK
  split <;> simp
def KnL (K : PySem.W.Frag) (kn : Addr) (ks : Nat → Option (List Bool)) (n : Nat) (H : Hp) : Prop := ∃ kvs, H kn = some (.dK kvs) ∧ kvs.length ≤ n ∧ ∀ c bs, ks c = some bs → ∃ v, valV kvs (Sum.inl (c : Int)) = some v ∧ Td K H v (.tuple (bs.map PyData.bool))
theorem KnL.at_ {K : PySem.W.Frag} {kn : Addr} {ks : Nat → Option (List Bool)} {n : Nat} {H : Hp} (h : KnL K kn ks n H) : KnAt K kn ks H := by
  obtain ⟨kvs, h1, _, h3⟩ := h
  exact ⟨kvs, h1, h3⟩
/-- the ones known behind j turns -/
def knW (p : List Wk) (ys : List (List Str)) : Nat → Nat → Option (List Bool)
  | 0 => fun _ => none
  | j + 1 => fun c => if c = p.length - 1 - j then some ((List.range (shP (shapes p) c)).map fun k => setsB ys (knW p ys j) k ((p[c]?.map (·.body)).getD [])) else knW p ys j c
theorem knW_some {p : List Wk} {ys : List (List Str)} : ∀ {j c : Nat}, j ≤ p.length → p.length - j ≤ c → c < p.length → ∃ bs, knW p ys j c = some bs ∧ bs.length = shP (shapes p) c
  | 0, c, _, h1, h2 => by omega
  | j + 1, c, hj, h1, h2 => by
    by_cases e : c = p.length - 1 - j
    · refine ⟨_, by simp only [knW]; rw [if_pos e], by simp⟩
    · obtain ⟨bs, h3, h4⟩ := knW_some (j := j) (c := c) (by omega) (by omega) h2
      exact ⟨bs, by simp only [knW]; rw [if_neg e]; exact h3, h4⟩
/-- what may_set tells -/
def mayL (p : List Wk) (ys : List (List Str)) : List (List Bool) := (List.range p.length).map fun i => (knW p ys p.length i).getD []
def encBs (l : List (List Bool)) : PyData := .tuple (l.map fun bs => .tuple (bs.map PyData.bool))
def spMay (K : PySem.W.Frag) : Sp := fun vs H Q E => ∃ p ys, TdAll K H vs [encP p, encY ys] ∧ smP p ∧ smY ys ∧ (okP p = true → okY p ys = true → ∀ v H', Ex H H' → Td K H' v (encBs (mayL p ys)) → Q v H') ∧ (okP p = false → ∀ H', Ex H H' → E (.ref (He.ga K "BadProgram")) none H') ∧
  (okP p = true → okY p ys = false → ∀ H', Ex H H' → E (.ref (He.ga K "BadWays")) none H')
section
variable {P : Program} {w : World} {K : PySem.W.Frag} {mg : Str → Option Value} {base : Heap} (T : Tx K mg)
include T
theorem ok_may_set (GP : Fn_need_program T P w base (L2.CX P w) 24 (spNP K)) (GY : Fn_need_ways T P w base (L2.CX P w) 25 (spNY K)) (GS : Fn_sets T P w base CX0 7 (spSets K 6)) : Fn_may_set T P w base (L2.CX P w) 26 (spMay K) := by
  have G_need_program := GP
  have G_need_ways := GY
  have G_sets := GS
  refine T.F_may_set.ok sc_may_set (fun vs H Q E h => by obtain ⟨p, _, ht, _⟩ := h; exact ht.length) fun cdv A outer s H vs Q E hr h => ?_
  obtain ⟨p, ys, ht, hs, hy, kq, ke, kw⟩ := h
  obtain _ | ⟨t1, _ | ⟨t2, _ | _⟩⟩ := ht
  rename_i pw0 yw0
  refine ⟨_, (pss_cons (ps_expr (pe_call G_need_program (hr.mono (by omega)) (by rfl) T.g_need_program T.k_need_program T.bd_need_program .nil (passes_call (takes_of rfl rfl rfl rfl) (fun _ _ _ _ h => h)) (pa_cons (pv 0) pa_nil)))
  (pss_cons (ps_expr (pe_call G_need_ways (hr.mono (by omega)) (by rfl) T.g_need_ways T.k_need_ways T.bd_need_ways .nil (passes_call (takes_of rfl rfl rfl rfl) (fun _ _ _ _ h => h)) (pa_cons (pv 0) (pa_cons (pv 1) pa_nil))))
  (pss_cons (ps_set (i := 2) sc_may_set.nd rfl (Or.inr rfl) pe_dnewK)
  (pss_cons (ps_for (passes_of rfl) rfl (pi_revR rfl T.b_reversed (prg_1 rfl T.b_range (pe_callB (kc_len K) rfl T.b_len PySem.boot_len (pa_cons (pv 0) pa_nil)))) (pg_name (i := 3) sc_may_set.nd rfl (Or.inr rfl))
    (pss_one (ps_dput (hu_of hr) (pv 2) (pv 3) (pe_callTy (kc_tuple K) rfl T.b_tuple (by decide +kernel) (pa_cons (pe_lc (own := [("param", 4)]) (g := gName 4) (tt := tYes) rfl sc_may_set.nd (pi_range1 rfl T.b_range (pa_cons (pe_ix (kix_tup K) (pe_ix (kix_tup K) (pv 0) (pv 3) (fun _ _ => rfl)) pe_int (fun _ _ => rfl)) pa_nil)) (blkOk_by (N := ["program", "ways", "known", "at", "param"]) (sc := defScope s_may_set) (by decide +kernel)) (fun _ _ _ _ _ => (pg_name (i := 4) sc_may_set.nd rfl (Or.inl rfl))) (fun _ _ _ _ _ => pts_nil) (fun _ _ _ _ _ => (pe_call G_sets (hr.mono (by omega)) (by rfl) T.g_sets T.k_sets T.bd_sets .nil pass0 (pa_cons (pe_ix (kix_tup K) (pe_ix (kix_tup K) (pv 0) (pv 3) (fun _ _ => rfl)) pe_int (fun _ _ => rfl)) (pa_cons (pv 4) (pa_cons (pv 1) (pa_cons (pv 2) pa_nil))))))) pa_nil)) rfl)))
  (pss_one (ps_ret (pe_callTy (kc_tuple K) rfl T.b_tuple (by decide +kernel) (pa_cons (pe_lc (own := [("at", 3)]) (g := gName 3) (tt := tYes) rfl sc_may_set.nd (pi_range1 rfl T.b_range (pa_cons (pe_callB (kc_len K) rfl T.b_len PySem.boot_len (pa_cons (pv 0) pa_nil)) pa_nil)) (blkOk_by (N := ["program", "ways", "known", "at", "param"]) (sc := defScope s_may_set) (by decide +kernel)) (fun _ _ _ _ _ => (pg_name (i := 3) sc_may_set.nd rfl (Or.inl rfl))) (fun _ _ _ _ _ => pts_nil) (fun _ _ _ _ _ => (pe_dget (hu_of hr) (pv 2) (pv 3) (fun _ _ => rfl)))) pa_nil)))))))), ?_⟩
  refine Pst.go (K := K) ?_
  cases hok : okP p with
  | false =>
    intro H1 e1
    exact ⟨_, rfl, p, .cons (t1.ex e1) .nil, hs, (fun e => by rw [hok] at e; cases e), fun _ H' e => ke hok H' (e1.trans e)⟩
  | true =>
    refine pst_callNP (v := _) rfl (fun H1 e1 Q kQ => ⟨p, .cons (t1.ex e1) .nil, hs, fun _ => kQ, (fun e => by rw [hok] at e; cases e)⟩) ?_
    refine pst_of fun H1 e1 => ?_
    refine w_seq (w_drop (w_call (w_cons (w_v rfl (w_cons (w_v rfl (w_nil ⟨p, ys, .cons (t1.ex e1) (.cons (t2.ex e1) .nil), hs, hy, fun _ hy2 H2 e2 => ?_, (fun e => by rw [hok] at e; cases e), fun _ h H' e => kw hok h H' (e1.trans e)⟩)))))))
    dsimp only
    have hlen := okP_len hok
    obtain ⟨hyl, hyg⟩ := okY_get hy2
    refine w_seq (w_asg fun kn hkn => ?_)
    have e3 : Ex H (upd H2 kn (.dK [])) := (e1.trans e2).trans (Ex.new hkn)
    have hk3 : upd H2 kn (.dK []) kn = some (.dK []) := upd_same
    dsimp only
    generalize upd H2 kn (.dK []) = H3 at *
    replace t1 := t1.ex e3
    replace t2 := t2.ex e3
    have keep : ∀ {H'}, Fr [kn] H3 H' → Keep K H3 H' := fun f => f.keep fun a ha => by
      have e : a = kn := by simpa using ha
      rw [e]
      exact ⟨_, hk3, True.intro⟩
    refine w_seq (w_forRev (K := K) (n := p.length) ?_ (by omega) (fun j σ' H' => ∃ u3 : Option V, σ' = [some pw0, some yw0, some (.ref kn), u3, none] ∧ KnL K kn (knW p ys j) j H' ∧ Fr [kn] H3 H') ?_ ?_ ?_)
    · apply ed_is
      · walk_at "ev"
      · simp
    · intro H4 e4
      exact ⟨_, rfl, ⟨[], e4 _ _ hk3, Nat.le_refl _, fun c bs h => by cases h⟩, Fr.of e4⟩
    · rintro j σ' H4 hj ⟨u3, rfl, hkn4, hf⟩
      obtain ⟨at_, hat⟩ : ∃ a, a = p.length - 1 - j := ⟨_, rfl⟩
      rw [← hat]
      obtain ⟨wk, hwk⟩ : ∃ w, p[at_]? = some w := ⟨_, List.getElem?_eq_getElem (by omega)⟩
      obtain ⟨g1, g2, g3, g4⟩ := okP_get hok hwk
      have hsw := hs.2 wk (List.mem_of_getElem? hwk)
      have t14 := t1.kp (keep hf)
      have t24 := t2.kp (keep hf)
      have hpa : atI (p.map encW) (at_ : Int) = some (.tuple [.int (wk.params : Int), .int (wk.owns : Int), .tuple (encB wk.body)]) := atI_nat (by rw [List.getElem?_map, hwk] <;> rfl)
      unfold encP at t14
      dsimp only
      refine w_d (K := K) (d := .tuple (((List.range wk.params).filter fun _ => true).map fun k => .bool (setsB ys (knW p ys j) k wk.body))) (ed_tupL (EvDL.rd (edl_lcR (n := wk.params) (fun _ => true) (fun k => .bool (setsB ys (knW p ys j) k wk.body)) (eda_cons ?_ eda_nil) (by omega) (fun _ => rfl) (fun k H5 e5 hk => tk_yes) fun k H5 e5 hk _ => ?_))) fun v H5 e5 t5 => ?_
      · walk_at "ev"
      · intro H6 e6 Q q
        have t15 := t14.ex e5
        refine w_call (w_cons (w_d (K := K) (d := .tuple (encB wk.body)) ?_ fun vb H7 e7 tb => ?_))
        · refine EvD.mono e6 ?_
          walk_at "ev"
        refine w_cons (w_v rfl (w_cons (w_v rfl (w_cons (w_v rfl (w_nil ⟨vb, _, kn, k, wk.body, ys, knW p ys j, rfl, tb, t24.ex ((e5.trans e6).trans e7), hkn4.at_.ex ((e5.trans e6).trans e7), ?_, hsw.2, hsw.1, ?_, fun H8 e8 => q _ _ (e7.trans e8) (.bl _)⟩))))))
        · have := okB_dp _ _ g3
          omega
        · intro x hx
          obtain ⟨h1, h2, h3⟩ := okB_calls _ _ x g3 hx
          have h2' : x.1 < p.length := by simpa [shapes] using h2
          obtain ⟨bs, hb1, hb2⟩ := knW_some (p := p) (ys := ys) (j := j) (c := x.1) (by omega) (by omega) h2'
          obtain ⟨y, hy3⟩ : ∃ y, ys[x.1]? = some y := ⟨_, List.getElem?_eq_getElem (by omega)⟩
          exact ⟨y, bs, hy3, hb1, by rw [hyg _ _ hy3, h3], by rw [hb2, h3], (hy.2 y (List.mem_of_getElem? hy3)).2⟩
      · obtain ⟨kvs, k1, k2, k3⟩ := hkn4
        have k5 := e5 _ _ k1
        refine ⟨.ref kn, rfl, .int (at_ : Int), rfl, kn, _, rfl, DPut.k (k := Sum.inl (at_ : Int)) k5 (sz_lt (by omega)), ?_⟩
        have kk : Keep K H5 (upd H5 kn (.dK (putK kvs (Sum.inl (at_ : Int)) v))) := Keep.upd k5 True.intro
        refine ⟨_, rfl, ⟨_, upd_same, Nat.le_trans (put_len _ _ _) (by omega), fun c bs hc => ?_⟩, (hf.trans (Fr.of e5)).trans (Fr.upd (by simp))⟩
        by_cases ec : c = at_
        · simp only [knW] at hc
          rw [if_pos (by omega)] at hc
          cases hc
          subst ec
          refine ⟨v, by rw [valV_put, if_pos rfl], ?_⟩
          have e6 : ((List.range (shP (shapes p) c)).map fun k => setsB ys (knW p ys j) k ((p[c]?.map (·.body)).getD [])).map PyData.bool = (((List.range wk.params).filter fun _ => true).map fun k => PyData.bool (setsB ys (knW p ys j) k wk.body)) := by
            rw [filter_yes, List.map_map, shP_get hwk, hwk]
            rfl
          rw [e6]
          exact t5.kp kk
        · simp only [knW] at hc
          rw [if_neg (by omega)] at hc
          obtain ⟨u, h1, h2⟩ := k3 c bs hc
          refine ⟨u, ?_, (h2.ex e5).kp kk⟩
          rw [valV_put, if_neg (by intro e; cases e; exact ec rfl)]
          exact h1
    · rintro σ' H4 ⟨u3, rfl, hkn4, hf⟩
      dsimp only
      have t14 := t1.kp (keep hf)
      obtain ⟨kvs, k1, k2, k3⟩ := hkn4
      refine w_ret (w_d (K := K) (d := encBs (mayL p ys)) ?_ fun v H5 e5 t5 => ?_)
      · refine ed_is (ed_tupL (EvDL.rd (edl_lcR (n := p.length) (fun _ => true) (fun i => .tuple (((knW p ys p.length i).getD []).map PyData.bool)) (eda_cons ?_ eda_nil) (by omega) (fun _ => rfl) (fun k H5 e5 hk => tk_yes) fun i H5 e5 hi _ => ?_))) ?_
        · apply ed_is
          · walk_at "ev"
          · simp
        · obtain ⟨bs, hb1, hb2⟩ := knW_some (p := p) (ys := ys) (j := p.length) (c := i) (Nat.le_refl _) (by omega) hi
          obtain ⟨v, h1, h2⟩ := k3 i bs hb1
          refine ed_dgetI rfl (e5 _ _ k1) (c := (i : Int)) (ed_var rfl (.int _)) h1 ?_
          rw [hb1]
          exact h2.ex e5
        · rw [filter_yes]
          simp [encBs, mayL]
      · refine kq hok hy2 v H5 (fun a o h => (hf.trans (Fr.of e5)) a o (fun z => ?_) (e3 a o h)) t5
        have e : a = kn := by simpa using z
        rw [e, fresh_back (e1.trans e2) hkn] at h
        cases h
end
end Hw

set_option maxRecDepth 100000
set_option maxHeartbeats 4000000
/-! KS1: runs by ways that were changed, beside one another: things and numbers -/
namespace Hw
open PySem PySem.Spec PyProof.Rows L2 Evl
theorem ev_mx : ∀ n : Nat, (∀ t f s r s1, findF n t f s = some (r, s1) → s.mixed = true → s1.mixed = true) ∧ (∀ t f s v s1, numF n t f s = some (v, s1) → s.mixed = true → s1.mixed = true)
  | 0 => ⟨fun t f s r s1 h => by simp [findF] at h, fun t f s r s1 h => by simp [numF] at h⟩
  | n + 1 => by
    obtain ⟨ih1, ih2⟩ := ev_mx n
    have fin : ∀ {pl : Nat} {th : List Nat} {sx s1 : Sg} {v : Nat}, sx.mixed = true → (match (come pl th sx).nums[pl]? with | some v => some (v, come pl th sx) | none => none) = some (v, s1) → s1.mixed = true := by
      intro pl th sx s1 v hm h
      split at h
      · cases h
        simp [come, hm]
      · cases h
    refine ⟨fun t f s r s1 h hm => ?_, fun t f s v s1 h hm => ?_⟩
    · cases t with
      | num k => simp only [findF] at h; cases h; exact hm
      | sum a b => simp only [findF] at h; cases h; exact hm
      | own k =>
        simp only [findF] at h
        split at h
        · cases h; exact hm
        · cases h
      | cell t =>
        simp only [findF] at h
        split at h
        · rename_i v sx hx
          cases h
          exact ih2 _ _ _ _ _ hx hm
        · cases h
      | par k =>
        simp only [findF] at h
        split at h
        · cases h; exact hm
        · exact ih1 _ _ _ _ _ h hm
        · cases h
    · cases t with
      | num k => simp only [numF] at h; cases h; exact hm
      | sum a b =>
        simp only [numF] at h
        split at h
        · rename_i x sa ha
          split at h
          · rename_i y sb hb
            cases h
            exact ih2 _ _ _ _ _ hb (ih2 _ _ _ _ _ ha hm)
          · cases h
        · cases h
      | own k =>
        simp only [numF] at h
        split at h
        · rename_i pl th sx hx
          exact fin (ih1 _ _ _ _ _ hx hm) h
        · cases h
      | cell t =>
        simp only [numF] at h
        split at h
        · rename_i pl th sx hx
          exact fin (ih1 _ _ _ _ _ hx hm) h
        · cases h
      | par k =>
        simp only [numF] at h
        split at h
        · rename_i pl th sx hx
          exact fin (ih1 _ _ _ _ _ hx hm) h
        · rename_i sx hx
          split at h
          · exact ih2 _ _ _ _ _ h (ih1 _ _ _ _ _ hx hm)
          · cases h
        · cases h
theorem find_mf {n : Nat} {t : Th} {f : Fra} {s s1 : Sg} {r : Option (Nat × List Nat)} (h : findF n t f s = some (r, s1)) (hm : s1.mixed = false) : s.mixed = false := by
  cases e : s.mixed with
  | false => rfl
  | true => rw [(ev_mx n).1 _ _ _ _ _ h e] at hm; cases hm
theorem num_mf {n : Nat} {t : Th} {f : Fra} {s s1 : Sg} {v : Nat} (h : numF n t f s = some (v, s1)) (hm : s1.mixed = false) : s.mixed = false := by
  cases e : s.mixed with
  | false => rfl
  | true => rw [(ev_mx n).2 _ _ _ _ _ h e] at hm; cases hm
/-! roads beside one another -/
abbrev Rl := Nat × List Nat → Nat × List Nat → Bool → Prop
/-- a road is open -/
def Lv (s : Sg) (a : Nat × List Nat) : Prop := ∀ x ∈ s.lent, x.1 = a.1 → x.2 ∈ a.2
theorem meets_lv {s : Sg} {a : Nat × List Nat} : meets s a.1 a.2 = false ↔ Lv s a := by
  unfold meets Lv
  rw [List.any_eq_false]
  refine ⟨fun h x hx e => ?_, fun h x hx => ?_⟩
  · have := h x hx
    simp only [Bool.and_eq_true, decide_eq_true_eq, Bool.not_eq_true', decide_eq_false_iff_not, not_and, Decidable.not_not] at this
    exact this e
  · simp only [Bool.and_eq_true, decide_eq_true_eq, Bool.not_eq_true', decide_eq_false_iff_not, not_and, Decidable.not_not]
    exact h x hx
theorem come_ok {s : Sg} {pl : Nat} {th : List Nat} (h : Lv s (pl, th)) : come pl th s = s := by
  have := (meets_lv (s := s) (a := (pl, th))).mpr h
  unfold come
  dsimp only at this
  rw [this, Bool.or_false]
theorem come_lv {s : Sg} {pl : Nat} {th : List Nat} (h : (come pl th s).mixed = false) : Lv s (pl, th) ∧ come pl th s = s := by
  have h2 : (s.mixed || meets s pl th) = false := h
  rw [Bool.or_eq_false_iff] at h2
  have := (meets_lv (s := s) (a := (pl, th))).mp h2.2
  exact ⟨this, come_ok this⟩
/-- states beside one another -/
structure SR (R : Rl) (s s' : Sg) : Prop where
  mx : s.mixed = false
  mx' : s'.mixed = false
  said : s'.said = s.said
  lt3 : ∀ v ∈ s.nums, v < 3
  live : ∀ a a' fl, R a a' fl → Lv s a → Lv s' a' ∧ ∃ v, s.nums[a.1]? = some v ∧ s'.nums[a'.1]? = some v
  bij : ∀ a a' fl b b' gl, R a a' fl → R b b' gl → Lv s a → Lv s b → (a.1 = b.1 ↔ a'.1 = b'.1) ∧ (a.1 = b.1 → fl = gl)
  bd : ∀ a a' fl, R a a' fl → a.1 < s.nums.length ∧ a'.1 < s'.nums.length ∧ (∀ m ∈ a.2, m ≤ s.many) ∧ (∀ m ∈ a'.2, m ≤ s'.many)
  ids : (∀ x ∈ s.lent, x.2 ≤ s.many ∧ x.1 < s.nums.length) ∧ (∀ x ∈ s'.lent, x.2 ≤ s'.many ∧ x.1 < s'.nums.length)
def n3 : Th → Bool
  | .num n => decide (n < 3)
  | .sum a b => n3 a && n3 b
  | .cell t => n3 t
  | _ => true
theorem wfT_n3 {ps os : Nat} : ∀ t : Th, wfT ps os t = true → n3 t = true
  | .num n, h => h
  | .own _, _ => rfl
  | .par _, _ => rfl
  | .cell t, h => wfT_n3 t h
  | .sum a b, h => by
    simp only [wfT, n3, Bool.and_eq_true] at h ⊢
    exact ⟨wfT_n3 a h.1, wfT_n3 b h.2⟩
/-- a thing may be set, as the work's params may -/
def SetT (ms : List Bool) : Th → Prop
  | .par k => ms.getD k false = true
  | _ => True
mutual
inductive KFr (R : Rl) : List Bool → Fra → Fra → Prop
  | mk {ms : List Bool} {os os' : List Nat} {hs hs' : List Hd} : os.length = os'.length → (∀ (k o o' : Nat), os[k]? = some o → os'[k]? = some o' → R (o, []) (o', []) true) → hs.length = hs'.length →
      (∀ (k : Nat) (h h' : Hd), hs[k]? = some h → hs'[k]? = some h' → KHd R (ms.getD k false) h h') → KFr R ms (.mk os hs) (.mk os' hs')
inductive KHd (R : Rl) : Bool → Hd → Hd → Prop
  | road {pl pl' : Nat} {th th' : List Nat} {fl g : Bool} : R (pl, th) (pl', th') fl → (g = true → fl = true) → KHd R g (.road pl th) (.road pl' th')
  | want {ms : List Bool} {f f' : Fra} {t : Th} {g : Bool} : KFr R ms f f' → n3 t = true → (g = true → SetT ms t) → KHd R g (.want t f) (.want t f')
end
def RSub (R R' : Rl) : Prop := ∀ a a' fl, R a a' fl → R' a a' fl
mutual
theorem KFr.mono {R R' : Rl} (hR : RSub R R') : ∀ {ms : List Bool} {f f' : Fra}, KFr R ms f f' → KFr R' ms f f'
  | _, _, _, .mk h1 h2 h3 h4 => .mk h1 (fun k o o' a b => hR _ _ _ (h2 k o o' a b)) h3 fun k h h' a b => KHd.mono hR (h4 k h h' a b)
theorem KHd.mono {R R' : Rl} (hR : RSub R R') : ∀ {g : Bool} {h h' : Hd}, KHd R g h h' → KHd R' g h h'
  | _, _, _, .road h1 h2 => .road (hR _ _ _ h1) h2
  | _, _, _, .want h1 h2 h3 => .want (KFr.mono hR h1) h2 h3
end
def RdK (R : Rl) (P : Prop) : Option (Nat × List Nat) → Option (Nat × List Nat) → Prop
  | none, none => True
  | some a, some a' => ∃ fl, R a a' fl ∧ (P → fl = true)
  | _, _ => False
theorem RdK.imp {R : Rl} {P P' : Prop} (h : P' → P) : ∀ {r r' : Option (Nat × List Nat)}, RdK R P r r' → RdK R P' r r'
  | none, none, _ => True.intro
  | some _, some _, ⟨fl, h1, h2⟩ => ⟨fl, h1, fun p => h2 (h p)⟩
  | none, some _, q => q.elim
  | some _, none, q => q.elim
def ComR (R : Rl) : Prop := ∀ v, v < 3 → R (v, []) (v, []) true
theorem len_get {α : Type} {xs ys : List α} {k : Nat} {x : α} (h : xs.length = ys.length) (hx : xs[k]? = some x) : ∃ y, ys[k]? = some y :=
  ⟨_, List.getElem?_eq_getElem (by have := (List.getElem?_eq_some_iff.mp hx).1; omega)⟩
theorem ev_k {R0 R : Rl} (hsub : RSub R0 R) (hcom : ComR R0) {s s' : Sg} (S : SR R s s') : ∀ (m m' : Nat) (t : Th) (ms : List Bool) (f f' : Fra), KFr R0 ms f f' → n3 t = true →
    (∀ r s1 r' s1', findF m t f s = some (r, s1) → findF m' t f' s' = some (r', s1') → s1.mixed = false → s1 = s ∧ s1' = s' ∧ RdK R0 (SetT ms t) r r') ∧
    (∀ v s1 v' s1', numF m t f s = some (v, s1) → numF m' t f' s' = some (v', s1') → s1.mixed = false → s1 = s ∧ s1' = s' ∧ v' = v ∧ v < 3) := by
  intro m
  induction m with
  | zero => exact fun m' t ms f f' F ht => ⟨fun r s1 r' s1' h => by simp [findF] at h, fun v s1 v' s1' h => by simp [numF] at h⟩
  | succ m ih =>
    intro m' t ms f f' F ht
    cases m' with
    | zero => exact ⟨fun r s1 r' s1' _ h => by simp [findF] at h, fun v s1 v' s1' _ h => by simp [numF] at h⟩
    | succ m' =>
    -- a place's number
    have plc : ∀ {pl pl' : Nat} {th th' : List Nat} {fl : Bool} {v v' : Nat} {s2 s2' : Sg}, R0 (pl, th) (pl', th') fl → (match (come pl th s).nums[pl]? with | some v => some (v, come pl th s) | none => none) = some (v, s2) → (match (come pl' th' s').nums[pl']? with | some v => some (v, come pl' th' s') | none => none) = some (v', s2') → s2.mixed = false → s2 = s ∧ s2' = s' ∧ v' = v ∧ v < 3 := by
      intro pl pl' th th' fl v v' s2 s2' hr h1 h2 hm
      have hm2 : (come pl th s).mixed = false := by
        split at h1
        · cases h1; exact hm
        · cases h1
      obtain ⟨hl, he⟩ := come_lv hm2
      obtain ⟨hl', u, g1, g2⟩ := S.live _ _ _ (hsub _ _ _ hr) hl
      rw [he, g1] at h1
      rw [come_ok hl', g2] at h2
      cases h1
      cases h2
      exact ⟨rfl, rfl, rfl, S.lt3 _ (List.mem_of_getElem? g1)⟩
    have cm : ∀ {pl : Nat} {th : List Nat} {sx s2 : Sg} {v : Nat}, (match (come pl th sx).nums[pl]? with | some v => some (v, come pl th sx) | none => none) = some (v, s2) → s2.mixed = false → sx.mixed = false := by
      intro pl th sx s2 v h hm
      split at h
      · cases h
        have h2 : (sx.mixed || meets sx pl th) = false := hm
        rw [Bool.or_eq_false_iff] at h2
        exact h2.1
      · cases h
    cases t with
    | num k =>
      simp only [n3, decide_eq_true_eq] at ht
      refine ⟨fun r s1 r' s1' h h' hm => ?_, fun v s1 v' s1' h h' hm => ?_⟩
      · simp only [findF] at h h'
        cases h
        cases h'
        exact ⟨rfl, rfl, True.intro⟩
      · simp only [numF] at h h'
        cases h
        cases h'
        exact ⟨rfl, rfl, rfl, ht⟩
    | sum a b =>
      simp only [n3, Bool.and_eq_true] at ht
      refine ⟨fun r s1 r' s1' h h' hm => ?_, fun v s1 v' s1' h h' hm => ?_⟩
      · simp only [findF] at h h'
        cases h
        cases h'
        exact ⟨rfl, rfl, True.intro⟩
      · simp only [numF] at h h'
        split at h
        · rename_i x sa ha
          split at h
          · rename_i y sb hb
            split at h'
            · rename_i x' sa' ha'
              split at h'
              · rename_i y' sb' hb'
                cases h
                cases h'
                have hma := num_mf hb hm
                obtain ⟨e1, e2, e3, e4⟩ := (ih m' a ms f f' F ht.1).2 _ _ _ _ ha ha' hma
                subst e1
                subst e2
                obtain ⟨q1, q2, q3, q4⟩ := (ih m' b ms f f' F ht.2).2 _ _ _ _ hb hb' hm
                exact ⟨q1, q2, by rw [e3, q3], Nat.mod_lt _ (by decide)⟩
              · cases h'
            · cases h'
          · cases h
        · cases h
    | own k =>
      refine ⟨fun r s1 r' s1' h h' hm => ?_, fun v s1 v' s1' h h' hm => ?_⟩
      · simp only [findF] at h h'
        cases F with
        | mk h1 h2 h3 h4 =>
          split at h
          · rename_i o ho
            split at h'
            · rename_i o' ho'
              cases h
              cases h'
              exact ⟨rfl, rfl, true, h2 _ _ _ ho ho', fun _ => rfl⟩
            · cases h'
          · cases h
      · simp only [numF] at h h'
        split at h
        · rename_i pl th sx hx
          split at h'
          · rename_i pl' th' sx' hx'
            obtain ⟨e1, e2, fl, e3, _⟩ := (ih m' (.own k) ms f f' F rfl).1 _ _ _ _ hx hx' (cm h hm)
            subst e1
            subst e2
            exact plc e3 h h' hm
          · cases h'
        · cases h
    | cell t =>
      simp only [n3] at ht
      refine ⟨fun r s1 r' s1' h h' hm => ?_, fun v s1 v' s1' h h' hm => ?_⟩
      · simp only [findF] at h h'
        split at h
        · rename_i v sx hx
          split at h'
          · rename_i v' sx' hx'
            cases h
            cases h'
            obtain ⟨e1, e2, e3, e4⟩ := (ih m' t ms f f' F ht).2 _ _ _ _ hx hx' hm
            rw [e3]
            exact ⟨e1, e2, true, hcom v e4, fun _ => rfl⟩
          · cases h'
        · cases h
      · simp only [numF] at h h'
        split at h
        · rename_i pl th sx hx
          split at h'
          · rename_i pl' th' sx' hx'
            obtain ⟨e1, e2, fl, e3, _⟩ := (ih m' (.cell t) ms f f' F ht).1 _ _ _ _ hx hx' (cm h hm)
            subst e1
            subst e2
            exact plc e3 h h' hm
          · cases h'
        · cases h
    | par k =>
      refine ⟨fun r s1 r' s1' h h' hm => ?_, fun v s1 v' s1' h h' hm => ?_⟩
      · simp only [findF] at h h'
        cases F with
        | @mk _ os os' hs hs' h1 h2 h3 h4 =>
          cases hk : hs[k]? with
          | none => simp only [Fra.pars, hk] at h; cases h
          | some x =>
            obtain ⟨x', hk'⟩ := len_get h3 hk
            have hx := h4 k x x' hk hk'
            simp only [Fra.pars, hk] at h
            simp only [Fra.pars, hk'] at h'
            cases hx with
            | road g1 g2 =>
              dsimp only at h h'
              cases h
              cases h'
              exact ⟨rfl, rfl, _, g1, g2⟩
            | want g1 g2 g3 =>
              dsimp only at h h'
              obtain ⟨e1, e2, e3⟩ := (ih m' _ _ _ _ g1 g2).1 _ _ _ _ h h' hm
              exact ⟨e1, e2, e3.imp g3⟩
      · simp only [numF] at h h'
        have g := (ih m' (.par k) ms f f' F rfl).1
        split at h
        · rename_i pl th sx hx
          split at h'
          · rename_i pl' th' sx' hx'
            obtain ⟨e1, e2, fl, e3, _⟩ := g _ _ _ _ hx hx' (cm h hm)
            subst e1
            subst e2
            exact plc e3 h h' hm
          · rename_i sx' hx'
            obtain ⟨_, _, e3⟩ := g _ _ _ _ hx hx' (cm h hm)
            exact e3.elim
          · cases h'
        · rename_i sx hx
          cases F with
          | @mk _ os os' hs hs' h1 h2 h3 h4 =>
            cases hk : hs[k]? with
            | none => simp only [Fra.pars, hk] at h; cases h
            | some y =>
              obtain ⟨y', hk'⟩ := len_get h3 hk
              have hy := h4 k y y' hk hk'
              simp only [Fra.pars, hk] at h
              cases hy with
              | road g1 g2 => dsimp only at h; cases h
              | want g1 g2 g3 =>
                dsimp only at h
                have hmx := num_mf h hm
                split at h'
                · rename_i pl' th' sx' hx'
                  obtain ⟨_, _, e3⟩ := g _ _ _ _ hx hx' hmx
                  exact e3.elim
                · rename_i sx' hx'
                  obtain ⟨e1, e2, _⟩ := g _ _ _ _ hx hx' hmx
                  subst e1
                  subst e2
                  simp only [Fra.pars, hk'] at h'
                  exact (ih m' _ _ _ _ g1 g2).2 _ _ _ _ h h' hm
                · cases h'
        · cases h
end Hw

set_option maxRecDepth 100000
set_option maxHeartbeats 4000000
/-! KS2: things handed, beside one another -/
namespace Hw
open PySem PySem.Spec PyProof.Rows L2 Evl
theorem pre_get {xs ys : List Nat} {i v : Nat} (h : xs <+: ys) (hx : xs[i]? = some v) : ys[i]? = some v := by
  obtain ⟨z, rfl⟩ := h
  rw [List.getElem?_append_left (List.getElem?_eq_some_iff.mp hx).1]
  exact hx
theorem pre_len {xs ys : List Nat} (h : xs <+: ys) : xs.length ≤ ys.length := h.length_le
section
variable {R R0 : Rl} {s s' s1 s1' : Sg} {a a' x x' : Nat × List Nat} {fl g : Bool} {v : Nat}
theorem SR.set (S : SR R s s') (hr : R a a' fl) (hl : Lv s a) (hv : v < 3) : SR R { s with nums := s.nums.set a.1 v } { s' with nums := s'.nums.set a'.1 v } := by
  refine ⟨S.mx, S.mx', S.said, fun u hu => ?_, fun b b' gl hb hlb => ?_, fun b b' gl c c' hl2 hb hc l1 l2 => S.bij b b' gl c c' hl2 hb hc l1 l2, fun b b' gl hb => ?_, ?_⟩
  · rcases List.mem_or_eq_of_mem_set hu with h | h
    · exact S.lt3 u h
    · rw [h]; exact hv
  · obtain ⟨h1, u, h2, h3⟩ := S.live b b' gl hb hlb
    refine ⟨h1, ?_⟩
    have hb1 := S.bd a a' fl hr
    have bj := (S.bij b b' gl a a' fl hb hr hlb hl).1
    by_cases e : b.1 = a.1
    · refine ⟨v, ?_, ?_⟩
      · show (s.nums.set a.1 v)[b.1]? = some v
        rw [e, List.getElem?_set_self hb1.1]
      · show (s'.nums.set a'.1 v)[b'.1]? = some v
        rw [bj.mp e, List.getElem?_set_self hb1.2.1]
    · refine ⟨u, ?_, ?_⟩
      · show (s.nums.set a.1 v)[b.1]? = some u
        rw [List.getElem?_set_ne (Ne.symm e)]
        exact h2
      · show (s'.nums.set a'.1 v)[b'.1]? = some u
        rw [List.getElem?_set_ne (fun e2 => e (bj.mpr e2.symm))]
        exact h3
  · have := S.bd b b' gl hb
    show b.1 < (s.nums.set a.1 v).length ∧ b'.1 < (s'.nums.set a'.1 v).length ∧ _
    rw [List.length_set, List.length_set]
    exact this
  · dsimp only
    rw [List.length_set, List.length_set]
    exact S.ids
def RMore (R : Rl) (x x' : Nat × List Nat) (g : Bool) : Rl := fun a a' fl => R a a' fl ∨ (a = x ∧ a' = x' ∧ fl = g)
theorem RMore.sub : RSub R (RMore R x x' g) := fun _ _ _ h => .inl h
theorem SR.more (S : SR R s s') (mx : s1.mixed = false) (mx' : s1'.mixed = false) (said : s1'.said = s1.said) (lt3 : ∀ v ∈ s1.nums, v < 3) (pre : s.nums <+: s1.nums) (pre' : s'.nums <+: s1'.nums) (mn : s.many ≤ s1.many) (mn' : s'.many ≤ s1'.many)
    (sl : ∀ b, Lv s1 b → Lv s b) (old : ∀ b b' fl, R b b' fl → Lv s1 b → Lv s1' b') (nw : ∀ b b' fl, R b b' fl → Lv s1 b → b.1 ≠ x.1 ∧ b'.1 ≠ x'.1)
    (lx : Lv s1' x' ∧ ∃ v, s1.nums[x.1]? = some v ∧ s1'.nums[x'.1]? = some v) (bx : (∀ m ∈ x.2, m ≤ s1.many) ∧ (∀ m ∈ x'.2, m ≤ s1'.many))
    (ids : (∀ y ∈ s1.lent, y.2 ≤ s1.many ∧ y.1 < s1.nums.length) ∧ (∀ y ∈ s1'.lent, y.2 ≤ s1'.many ∧ y.1 < s1'.nums.length)) : SR (RMore R x x' g) s1 s1' := by
  have hp := pre_len pre
  have hp' := pre_len pre'
  refine ⟨mx, mx', said, lt3, ?_, ?_, ?_, ids⟩
  · rintro b b' gl (hb | ⟨rfl, rfl, rfl⟩) hl
    · obtain ⟨_, u, h2, h3⟩ := S.live b b' gl hb (sl b hl)
      exact ⟨old b b' gl hb hl, u, pre_get pre h2, pre_get pre' h3⟩
    · exact lx
  · rintro b b' gl c c' hl2 (hb | ⟨rfl, rfl, rfl⟩) (hc | ⟨rfl, rfl, rfl⟩) l1 l2
    · exact S.bij b b' gl c c' hl2 hb hc (sl _ l1) (sl _ l2)
    · obtain ⟨n1, n2⟩ := nw b b' gl hb l1
      exact ⟨⟨fun e => absurd e n1, fun e => absurd e n2⟩, fun e => absurd e n1⟩
    · obtain ⟨n1, n2⟩ := nw c c' hl2 hc l2
      exact ⟨⟨fun e => absurd e.symm n1, fun e => absurd e.symm n2⟩, fun e => absurd e.symm n1⟩
    · exact ⟨⟨fun _ => rfl, fun _ => rfl⟩, fun _ => rfl⟩
  · rintro b b' gl (hb | ⟨rfl, rfl, rfl⟩)
    · obtain ⟨h1, h2, h3, h4⟩ := S.bd b b' gl hb
      exact ⟨by omega, by omega, fun m hm => by have := h3 m hm; omega, fun m hm => by have := h4 m hm; omega⟩
    · obtain ⟨_, u, h2, h3⟩ := lx
      exact ⟨(List.getElem?_eq_some_iff.mp h2).1, (List.getElem?_eq_some_iff.mp h3).1, bx.1, bx.2⟩
/-- new places for both -/
theorem SR.fresh (S : SR R s s') (hv : v < 3) : SR (RMore R (s.nums.length, []) (s'.nums.length, []) g) { s with nums := s.nums ++ [v] } { s' with nums := s'.nums ++ [v] } := by
  refine S.more S.mx S.mx' S.said (fun u hu => ?_) ⟨[v], rfl⟩ ⟨[v], rfl⟩ (Nat.le_refl _) (Nat.le_refl _) (fun b h => h) (fun b b' fl hb hl => (S.live b b' fl hb hl).1) (fun b b' fl hb hl => ?_) ⟨fun y hy e => ?_, v, ?_, ?_⟩ ⟨by simp, by simp⟩ ⟨fun y hy => ?_, fun y hy => ?_⟩
  · rcases List.mem_append.mp hu with h | h
    · exact S.lt3 u h
    · have : u = v := by simpa using h
      omega
  · have := S.bd b b' fl hb
    exact ⟨by dsimp only; omega, by dsimp only; omega⟩
  · have := (S.ids.2 y hy).2
    dsimp only at e
    omega
  · simp
  · simp
  · have := S.ids.1 y hy
    dsimp only
    rw [List.length_append]
    exact ⟨this.1, by omega⟩
  · have := S.ids.2 y hy
    dsimp only
    rw [List.length_append]
    exact ⟨this.1, by omega⟩
end
/-- what was lent in a call: its road, what stands for it within, by either run -/
structure Ln where
  pl : Nat
  th : List Nat
  pl' : Nat
  th' : List Nat
  fl : Bool
  g : Bool
  x : Nat
  tx : List Nat
  x' : Nat
  tx' : List Nat
  id : Nat
  kA : Bool
  kB : Nat
structure HI (R0 : Rl) (s0 s0' : Sg) (L : List Ln) (R : Rl) (s s' : Sg) : Prop where
  sr : SR R s s'
  sub : RSub R0 R
  new : ∀ a a' fl, R a a' fl → R0 a a' fl ∨ (∃ e ∈ L, a = (e.x, e.tx) ∧ a' = (e.x', e.tx') ∧ fl = e.g) ∨ (s0.nums.length ≤ a.1 ∧ s0'.nums.length ≤ a'.1)
  lent : s.lent = s0.lent ++ L.map fun e => (e.pl, e.id)
  nd : L.Pairwise fun d e => d.pl ≠ e.pl
  el : ∀ e ∈ L, R0 (e.pl, e.th) (e.pl', e.th') e.fl ∧ Lv s0 (e.pl, e.th) ∧ (e.g = true → e.fl = true) ∧ R (e.x, e.tx) (e.x', e.tx') e.g ∧ Lv s (e.x, e.tx) ∧ s0.many < e.id
  fA : ∀ e ∈ L, (e.kA = false ∧ e.x = e.pl) ∨ (e.kA = true ∧ s0.nums.length ≤ e.x ∧ s.nums[e.x]? = s0.nums[e.pl]?)
  fB : ∀ e ∈ L, (e.kB = 0 ∧ e.x' = e.pl') ∨ (e.kB = 1 ∧ s0'.nums.length ≤ e.x') ∨ (e.kB = 2 ∧ s0'.nums.length ≤ e.x' ∧ e.g = false)
  pre : s0.nums <+: s.nums
  pre' : s0'.nums <+: s'.nums
  mn : s0.many ≤ s.many
  mn' : s0'.many ≤ s'.many
  said : s.said = s0.said
def bkA (L : List Ln) : List (Nat × Nat) := (L.filter fun e => e.kA).map fun e => (e.pl, e.x)
def bkB (L : List Ln) : List (Nat × Nat) := (L.filter fun e => decide (e.kB = 1)).map fun e => (e.pl', e.x')
theorem HI.nil {R0 : Rl} {s0 s0' : Sg} (S : SR R0 s0 s0') : HI R0 s0 s0' [] R0 s0 s0' :=
  ⟨S, fun _ _ _ h => h, fun _ _ _ h => .inl h, by simp, .nil, (fun e he => by cases he), (fun e he => by cases he), (fun e he => by cases he), List.prefix_refl _, List.prefix_refl _, Nat.le_refl _, Nat.le_refl _, rfl⟩
section
variable {R R0 : Rl} {s s' s0 s0' s1 s1' : Sg} {L : List Ln} {g : Bool} {v : Nat}
theorem HI.fresh (I : HI R0 s0 s0' L R s s') (hv : v < 3) : HI R0 s0 s0' L (RMore R (s.nums.length, []) (s'.nums.length, []) g) { s with nums := s.nums ++ [v] } { s' with nums := s'.nums ++ [v] } := by
  have hp := pre_len I.pre
  have hp' := pre_len I.pre'
  refine ⟨I.sr.fresh hv, fun a a' fl h => .inl (I.sub a a' fl h), ?_, I.lent, I.nd, fun e he => ?_, fun e he => ?_, I.fB, I.pre.trans ⟨[v], rfl⟩, I.pre'.trans ⟨[v], rfl⟩, I.mn, I.mn', I.said⟩
  · rintro a a' fl (h | ⟨rfl, rfl, rfl⟩)
    · exact I.new a a' fl h
    · exact .inr (.inr ⟨hp, hp'⟩)
  · obtain ⟨h1, h2, h3, h4, h5, h6⟩ := I.el e he
    exact ⟨h1, h2, h3, .inl h4, h5, h6⟩
  · rcases I.fA e he with h | ⟨h1, h2, h3⟩
    · exact .inl h
    · refine .inr ⟨h1, h2, ?_⟩
      have hb := (I.sr.bd _ _ _ (I.el e he).2.2.2.1).1
      show (s.nums ++ [v])[e.x]? = _
      rw [List.getElem?_append_left hb]
      exact h3
/-- a place is lent -/
theorem HI.lend (I : HI R0 s0 s0' L R s s') {e : Ln} (S0 : SR R0 s0 s0') (h1 : R0 (e.pl, e.th) (e.pl', e.th') e.fl) (hl : Lv s (e.pl, e.th)) (hg : e.g = true → e.fl = true) (hid : e.id = s.many + 1)
    (mx : s1.mixed = false) (mx' : s1'.mixed = false) (said : s1.said = s.said) (said' : s1'.said = s'.said) (lt3 : ∀ v ∈ s1.nums, v < 3) (lent : s1.lent = s.lent ++ [(e.pl, e.id)]) (many : s1.many = s.many + 1) (pre : s.nums <+: s1.nums) (pre' : s'.nums <+: s1'.nums) (mn' : s'.many ≤ s1'.many)
    (hA : (e.kA = false ∧ e.x = e.pl ∧ e.tx = e.th ++ [e.id]) ∨ (e.kA = true ∧ e.x = s.nums.length ∧ e.tx = [] ∧ s1.nums[e.x]? = s.nums[e.pl]?))
    (hB : (e.kB = 0 ∧ e.x' = e.pl' ∧ e.tx' = e.th' ++ [s'.many + 1] ∧ s1'.lent = s'.lent ++ [(e.pl', s'.many + 1)] ∧ s'.many + 1 ≤ s1'.many) ∨ (e.kB = 1 ∧ e.x' = s'.nums.length ∧ e.tx' = [] ∧ s1'.lent = s'.lent ++ [(e.pl', s'.many + 1)] ∧ s'.many + 1 ≤ s1'.many ∧ s1'.nums[e.x']? = s'.nums[e.pl']?) ∨ (e.kB = 2 ∧ e.x' = s'.nums.length ∧ e.tx' = [] ∧ s1'.lent = s'.lent ∧ s1'.nums[e.x']? = s'.nums[e.pl']? ∧ e.g = false)) :
    HI R0 s0 s0' (L ++ [e]) (RMore R (e.x, e.tx) (e.x', e.tx') e.g) s1 s1' := by
  have hR := I.sub _ _ _ h1
  have S := I.sr
  have hp := pre_len I.pre
  have hp' := pre_len I.pre'
  have hb0 := S0.bd _ _ _ h1
  have hbR := S.bd _ _ _ hR
  obtain ⟨hlB, u, hu, hu'⟩ := S.live _ _ _ hR hl
  dsimp only at hb0 hbR hu hu'
  have sl : ∀ b, Lv s1 b → Lv s b := fun b h y hy => h y (by rw [lent]; exact List.mem_append_left _ hy)
  have npl : ∀ b b' fl, R b b' fl → Lv s1 b → b.1 ≠ e.pl := fun b b' fl hb h e1 => by
    have := h (e.pl, e.id) (by rw [lent]; simp) e1.symm
    have := (S.bd b b' fl hb).2.2.1 _ this
    dsimp only at this
    omega
  have npl' : ∀ b b' fl, R b b' fl → Lv s1 b → b'.1 ≠ e.pl' := fun b b' fl hb h e1 => npl b b' fl hb h ((S.bij b b' fl _ _ _ hb hR (sl b h) hl).1.mpr e1)
  have hx : Lv s1 (e.x, e.tx) := by
    intro y hy ey
    rw [lent] at hy
    rcases hA with ⟨_, q1, q2⟩ | ⟨_, q1, q2, _⟩
    · rw [q2]
      dsimp only at ey ⊢
      rcases List.mem_append.mp hy with hy | hy
      · exact List.mem_append_left _ (hl y hy (by rw [ey, q1]))
      · rw [List.mem_singleton] at hy
        rw [hy]
        simp
    · dsimp only at ey
      rcases List.mem_append.mp hy with hy | hy
      · have := (S.ids.1 y hy).2
        omega
      · rw [List.mem_singleton] at hy
        rw [hy] at ey
        dsimp only at ey
        omega
  have hxv : s1.nums[e.x]? = some u := by
    rcases hA with ⟨_, q1, q2⟩ | ⟨_, q1, q2, q3⟩
    · rw [q1]; exact pre_get pre hu
    · rw [q3]; exact hu
  have hx'v : s1'.nums[e.x']? = some u := by
    rcases hB with ⟨_, q1, _⟩ | ⟨_, q1, _, _, _, q3⟩ | ⟨_, q1, _, _, q3, _⟩
    · rw [q1]; exact pre_get pre' hu'
    · rw [q3]; exact hu'
    · rw [q3]; exact hu'
  have hx' : Lv s1' (e.x', e.tx') := by
    intro y hy ey
    dsimp only at ey ⊢
    rcases hB with ⟨_, q1, q2, q4, _⟩ | ⟨_, q1, q2, q4, _⟩ | ⟨_, q1, q2, q4, _⟩
    · rw [q4] at hy
      rw [q2]
      rcases List.mem_append.mp hy with hy | hy
      · exact List.mem_append_left _ (hlB y hy (by rw [ey, q1]))
      · rw [List.mem_singleton] at hy
        rw [hy]
        simp
    · rw [q4] at hy
      rcases List.mem_append.mp hy with hy | hy
      · have := (S.ids.2 y hy).2
        omega
      · rw [List.mem_singleton] at hy
        rw [hy] at ey
        dsimp only at ey
        omega
    · rw [q4] at hy
      have := (S.ids.2 y hy).2
      omega
  have hp1 := pre_len pre
  have hp1' := pre_len pre'
  have S1 : SR (RMore R (e.x, e.tx) (e.x', e.tx') e.g) s1 s1' := by
    refine S.more mx mx' (by rw [said', said, S.said]) lt3 pre pre' (by omega) mn' sl (fun b b' fl hb h y hy ey => ?_) (fun b b' fl hb h => ⟨?_, ?_⟩) ⟨hx', u, hxv, hx'v⟩ ⟨fun m hm => ?_, fun m hm => ?_⟩ ⟨fun y hy => ?_, fun y hy => ?_⟩
    · have lb := (S.live b b' fl hb (sl b h)).1
      have n' := npl' b b' fl hb h
      rcases hB with ⟨_, _, _, q4, _⟩ | ⟨_, _, _, q4, _⟩ | ⟨_, _, _, q4, _⟩
      · rw [q4] at hy
        rcases List.mem_append.mp hy with hy | hy
        · exact lb y hy ey
        · rw [List.mem_singleton] at hy
          rw [hy] at ey
          exact absurd ey.symm n'
      · rw [q4] at hy
        rcases List.mem_append.mp hy with hy | hy
        · exact lb y hy ey
        · rw [List.mem_singleton] at hy
          rw [hy] at ey
          exact absurd ey.symm n'
      · rw [q4] at hy
        exact lb y hy ey
    · have := (S.bd b b' fl hb).1
      have := npl b b' fl hb h
      dsimp only
      rcases hA with ⟨_, q1, _⟩ | ⟨_, q1, _⟩
      · rw [q1]; exact this
      · omega
    · have := (S.bd b b' fl hb).2.1
      have := npl' b b' fl hb h
      dsimp only
      rcases hB with ⟨_, q1, _⟩ | ⟨_, q1, _⟩ | ⟨_, q1, _⟩
      · rw [q1]; exact this
      · omega
      · omega
    · dsimp only at hm
      rcases hA with ⟨_, _, q2⟩ | ⟨_, _, q2, _⟩
      · rw [q2] at hm
        rcases List.mem_append.mp hm with hm | hm
        · have := hbR.2.2.1 m hm; omega
        · rw [List.mem_singleton] at hm; omega
      · rw [q2] at hm; cases hm
    · dsimp only at hm
      rcases hB with ⟨_, _, q2, _, q5⟩ | ⟨_, _, q2, _⟩ | ⟨_, _, q2, _⟩
      · rw [q2] at hm
        rcases List.mem_append.mp hm with hm | hm
        · have := hbR.2.2.2 m hm; omega
        · rw [List.mem_singleton] at hm; omega
      · rw [q2] at hm; cases hm
      · rw [q2] at hm; cases hm
    · rw [lent] at hy
      rcases List.mem_append.mp hy with hy | hy
      · have := S.ids.1 y hy
        exact ⟨by omega, by omega⟩
      · rw [List.mem_singleton] at hy
        rw [hy]
        exact ⟨by dsimp only; omega, by dsimp only; omega⟩
    · rcases hB with ⟨_, _, _, q4, q5⟩ | ⟨_, _, _, q4, q5, _⟩ | ⟨_, _, _, q4, _⟩
      · rw [q4] at hy
        rcases List.mem_append.mp hy with hy | hy
        · have := S.ids.2 y hy
          exact ⟨by omega, by omega⟩
        · rw [List.mem_singleton] at hy
          rw [hy]
          exact ⟨by dsimp only; omega, by dsimp only; omega⟩
      · rw [q4] at hy
        rcases List.mem_append.mp hy with hy | hy
        · have := S.ids.2 y hy
          exact ⟨by omega, by omega⟩
        · rw [List.mem_singleton] at hy
          rw [hy]
          exact ⟨by dsimp only; omega, by dsimp only; omega⟩
      · rw [q4] at hy
        have := S.ids.2 y hy
        exact ⟨by omega, by omega⟩
  -- another place than those lent before
  have dis : ∀ d ∈ L, d.pl ≠ e.pl := fun d hd ed => by
    have h6 := (I.el d hd).2.2.2.2.2
    have := hl (d.pl, d.id) (by rw [I.lent]; exact List.mem_append_right _ (List.mem_map.mpr ⟨d, hd, rfl⟩)) ed
    have := hb0.2.2.1 _ this
    omega
  refine ⟨S1, fun a a' fl h => .inl (I.sub a a' fl h), ?_, ?_, ?_, ?_, ?_, ?_, I.pre.trans pre, I.pre'.trans pre', by have := I.mn; omega, by have := I.mn'; omega, by rw [said, I.said]⟩
  · rintro a a' fl (h | ⟨rfl, rfl, rfl⟩)
    · rcases I.new a a' fl h with h | ⟨d, hd, q⟩ | h
      · exact .inl h
      · exact .inr (.inl ⟨d, List.mem_append_left _ hd, q⟩)
      · exact .inr (.inr h)
    · exact .inr (.inl ⟨e, by simp, rfl, rfl, rfl⟩)
  · rw [lent, I.lent, List.map_append, List.append_assoc]
    rfl
  · rw [List.pairwise_append]
    exact ⟨I.nd, by simp, fun d hd z hz => by rw [List.mem_singleton] at hz; rw [hz]; exact dis d hd⟩
  · intro d hd
    rcases List.mem_append.mp hd with hd | hd
    · obtain ⟨h1, h2, h3, h4, h5, h6⟩ := I.el d hd
      refine ⟨h1, h2, h3, .inl h4, fun y hy ey => ?_, h6⟩
      rw [lent] at hy
      rcases List.mem_append.mp hy with hy | hy
      · exact h5 y hy ey
      · rw [List.mem_singleton] at hy
        rw [hy] at ey
        dsimp only at ey
        rcases I.fA d hd with ⟨_, q⟩ | ⟨_, q, _⟩
        · exact absurd (by rw [← q, ← ey]) (dis d hd)
        · omega
    · rw [List.mem_singleton] at hd
      rw [hd]
      refine ⟨h1, fun y hy ey => hl y (by rw [I.lent]; exact List.mem_append_left _ hy) ey, hg, .inr ⟨rfl, rfl, rfl⟩, hx, by have := I.mn; omega⟩
  · intro d hd
    rcases List.mem_append.mp hd with hd | hd
    · rcases I.fA d hd with h | ⟨h1, h2, h3⟩
      · exact .inl h
      · refine .inr ⟨h1, h2, ?_⟩
        have hb := (S.bd _ _ _ (I.el d hd).2.2.2.1).1
        obtain ⟨z, hz⟩ := pre
        rw [← hz, List.getElem?_append_left hb]
        exact h3
    · rw [List.mem_singleton] at hd
      rw [hd]
      rcases hA with ⟨q0, q1, _⟩ | ⟨q0, q1, _, q3⟩
      · exact .inl ⟨q0, q1⟩
      · refine .inr ⟨q0, by omega, ?_⟩
        obtain ⟨z, hz⟩ := I.pre
        rw [q3, ← hz, List.getElem?_append_left hb0.1]
  · intro d hd
    rcases List.mem_append.mp hd with hd | hd
    · exact I.fB d hd
    · rw [List.mem_singleton] at hd
      rw [hd]
      rcases hB with ⟨q0, q1, _⟩ | ⟨q0, q1, _⟩ | ⟨q0, q1, _, _, _, q5⟩
      · exact .inl ⟨q0, q1⟩
      · exact .inr (.inl ⟨q0, by omega⟩)
      · exact .inr (.inr ⟨q0, by omega, q5⟩)
end
end Hw

set_option maxRecDepth 100000
set_option maxHeartbeats 4000000
/-! KS3: all that is handed -/
namespace Hw
open PySem PySem.Spec PyProof.Rows L2 Evl
/-- ways that may stand for one another -/
def WW (g : Bool) (w w' : Str) : Prop := (w = "copy" ∧ w' = "copy") ∨ (w = "want" ∧ w' = "want") ∨ ((w = "place" ∨ w = "back") ∧ (w' = "place" ∨ w' = "back" ∨ (w' = "copy" ∧ g = false)))
theorem ways_k : isLent "copy" = false ∧ isLent "want" = false ∧ isLent "place" = true ∧ isLent "back" = true ∧ isW "want" "copy" = false ∧ isW "want" "want" = true ∧ isW "want" "place" = false ∧ isW "want" "back" = false ∧ isW "place" "place" = true ∧ isW "place" "back" = false := by decide +kernel
theorem freshF_some {v : Nat} {s s1 : Sg} {pl : Nat} (h : freshF v s = some (pl, s1)) : pl = s.nums.length ∧ s1 = { s with nums := s.nums ++ [v] } := by
  unfold freshF at h
  split at h
  · cases h; exact ⟨rfl, rfl⟩
  · cases h
section
variable {m : Nat} {t : Th} {f : Fra} {s s1 : Sg} {hd : Hd} {b : Option (Nat × Nat)}
theorem hand_copy (h : handF m t "copy" f s = some (hd, b, s1)) : ∃ v sx, numF m t f s = some (v, sx) ∧ hd = .road sx.nums.length [] ∧ b = none ∧ s1 = { sx with nums := sx.nums ++ [v] } := by
  unfold handF at h
  rw [if_neg (by rw [ways_k.1]; decide)] at h
  dsimp only at h
  rw [if_neg (by rw [ways_k.2.2.2.2.1]; decide)] at h
  split at h
  · cases h
  · rename_i v sx hx
    split at h
    · cases h
    · rename_i pl s3 h3
      cases h
      obtain ⟨e1, e2⟩ := freshF_some h3
      subst e1
      exact ⟨v, sx, hx, rfl, rfl, e2⟩
theorem hand_want (h : handF m t "want" f s = some (hd, b, s1)) : hd = .want t f ∧ b = none ∧ s1 = s := by
  unfold handF at h
  rw [if_neg (by rw [ways_k.2.1]; decide)] at h
  dsimp only at h
  rw [if_pos ways_k.2.2.2.2.2.1] at h
  cases h
  exact ⟨rfl, rfl, rfl⟩
theorem hand_lent {w : Str} (hw : w = "place" ∨ w = "back") (h : handF m t w f s = some (hd, b, s1)) : ∃ r sx, findF m t f s = some (r, sx) ∧
    ((r = none ∧ ∃ v sy, numF m t f sx = some (v, sy) ∧ hd = .road sy.nums.length [] ∧ b = none ∧ s1 = { sy with nums := sy.nums ++ [v] }) ∨
    ∃ pl th, r = some (pl, th) ∧ ((w = "place" ∧ hd = .road pl (th ++ [sx.many + 1]) ∧ b = none ∧ s1 = { come pl th sx with many := sx.many + 1, lent := sx.lent ++ [(pl, sx.many + 1)] }) ∨
      (w = "back" ∧ ∃ v, sx.nums[pl]? = some v ∧ hd = .road sx.nums.length [] ∧ b = some (pl, sx.nums.length) ∧ s1 = { come pl th sx with many := sx.many + 1, lent := sx.lent ++ [(pl, sx.many + 1)], nums := sx.nums ++ [v] }))) := by
  have hl : isLent w = true ∧ isW "want" w = false := by
    rcases hw with e | e <;> subst e
    · exact ⟨ways_k.2.2.1, ways_k.2.2.2.2.2.2.1⟩
    · exact ⟨ways_k.2.2.2.1, ways_k.2.2.2.2.2.2.2.1⟩
  unfold handF at h
  rw [if_pos hl.1] at h
  split at h
  · cases h
  · rename_i fd sx hx
    rw [if_neg (by rw [hl.2]; decide)] at h
    refine ⟨fd, sx, hx, ?_⟩
    split at h
    · split at h
      · cases h
      · rename_i v sy hy
        split at h
        · cases h
        · rename_i pl s3 h3
          cases h
          obtain ⟨e1, e2⟩ := freshF_some h3
          subst e1
          exact .inl ⟨rfl, v, sy, hy, rfl, rfl, e2⟩
    · rename_i pl th
      refine .inr ⟨pl, th, rfl, ?_⟩
      dsimp only at h
      split at h
      · rcases hw with e | e
        · subst e
          rw [if_pos ways_k.2.2.2.2.2.2.2.2.1] at h
          split at h
          · cases h
            exact .inl ⟨rfl, rfl, rfl, rfl⟩
          · cases h
        · subst e
          rw [if_neg (by rw [ways_k.2.2.2.2.2.2.2.2.2]; decide)] at h
          split at h
          · cases h
          · rename_i v hv
            split at h
            · cases h
            · rename_i o s4 h4
              cases h
              obtain ⟨e1, e2⟩ := freshF_some h4
              subst e1
              exact .inr ⟨rfl, v, hv, rfl, rfl, e2⟩
      · cases h
end
/-- a place that is found by one run, its number by the other -/
theorem num_found {R0 R : Rl} (hsub : RSub R0 R) (hcom : ComR R0) {s s' : Sg} (S : SR R s s') {m m' : Nat} {t : Th} {ms : List Bool} {f f' : Fra} (F : KFr R0 ms f f') (ht : n3 t = true) {a : Nat × List Nat} {s1 : Sg} {v' : Nat} {s1' : Sg}
    (h : findF m t f s = some (some a, s1)) (h' : numF m' t f' s' = some (v', s1')) (hm : s1.mixed = false) (hl : Lv s a) : s1 = s ∧ s1' = s' ∧ ∃ a' fl, R0 a a' fl ∧ (SetT ms t → fl = true) ∧ s'.nums[a'.1]? = some v' := by
  cases m' with
  | zero => simp [numF] at h'
  | succ m' =>
  have E := fun r' sx' (hx : findF m' t f' s' = some (r', sx')) => (ev_k hsub hcom S m m' t ms f f' F ht).1 _ _ _ _ h hx hm
  have plc : ∀ {pl' : Nat} {th' : List Nat} {sx' : Sg}, findF m' t f' s' = some (some (pl', th'), sx') → (match (come pl' th' sx').nums[pl']? with | some v => some (v, come pl' th' sx') | none => none) = some (v', s1') → s1 = s ∧ s1' = s' ∧ ∃ a' fl, R0 a a' fl ∧ (SetT ms t → fl = true) ∧ s'.nums[a'.1]? = some v' := by
    intro pl' th' sx' hx h2
    obtain ⟨e1, e2, fl, e3, e4⟩ := E _ _ hx
    subst e2
    obtain ⟨hl', u, g1, g2⟩ := S.live _ _ _ (hsub _ _ _ e3) hl
    rw [come_ok hl'] at h2
    dsimp only at g2
    rw [g2] at h2
    cases h2
    exact ⟨e1, rfl, _, fl, e3, e4, g2⟩
  cases t with
  | num k =>
    cases m with
    | zero => simp [findF] at h
    | succ m => simp only [findF] at h; cases h
  | sum x y =>
    cases m with
    | zero => simp [findF] at h
    | succ m => simp only [findF] at h; cases h
  | own k =>
    simp only [numF] at h'
    split at h'
    · rename_i pl' th' sx' hx'
      exact plc hx' h'
    · cases h'
  | cell t =>
    simp only [numF] at h'
    split at h'
    · rename_i pl' th' sx' hx'
      exact plc hx' h'
    · cases h'
  | par k =>
    simp only [numF] at h'
    split at h'
    · rename_i pl' th' sx' hx'
      exact plc hx' h'
    · rename_i sx' hx'
      obtain ⟨_, _, e3⟩ := E _ _ hx'
      exact e3.elim
    · cases h'
section
variable {R0 R : Rl} {s s' s0 s0' s1 s1' : Sg} {L : List Ln}
theorem hand_fresh (I : HI R0 s0 s0' L R s s') {v : Nat} (hv : v < 3) (g : Bool) : ∃ L1 R1, HI R0 s0 s0' (L ++ L1) R1 { s with nums := s.nums ++ [v] } { s' with nums := s'.nums ++ [v] } ∧ RSub R R1 ∧ KHd R1 g (.road s.nums.length []) (.road s'.nums.length []) ∧ [] = bkA L1 ∧ [] = bkB L1 :=
  ⟨[], _, by rw [List.append_nil]; exact I.fresh (g := g) hv, RMore.sub, .road (.inr ⟨rfl, rfl, rfl⟩) (fun h => h), rfl, rfl⟩
theorem hand_k (hcom : ComR R0) (S0 : SR R0 s0 s0') (I : HI R0 s0 s0' L R s s') {ms : List Bool} {f f' : Fra} (F : KFr R0 ms f f') {t : Th} (ht : n3 t = true) {g : Bool} {w w' : Str} (hw : WW g w w') (hg : g = true → w ≠ "copy" → SetT ms t) {m : Nat} {hd hd' : Hd} {b b' : Option (Nat × Nat)}
    (h : handF m t w f s = some (hd, b, s1)) (h' : handF m t w' f' s' = some (hd', b', s1')) (hm : s1.mixed = false) : ∃ L1 R1, HI R0 s0 s0' (L ++ L1) R1 s1 s1' ∧ RSub R R1 ∧ KHd R1 g hd hd' ∧ b.toList = bkA L1 ∧ b'.toList = bkB L1 := by
  have E := fun m' => ev_k I.sub hcom I.sr m m' t ms f f' F ht
  rcases hw with ⟨rfl, rfl⟩ | ⟨rfl, rfl⟩ | ⟨hw, hw'⟩
  · obtain ⟨v, sx, h1, rfl, rfl, rfl⟩ := hand_copy h
    obtain ⟨v', sx', h1', rfl, rfl, rfl⟩ := hand_copy h'
    obtain ⟨e1, e2, e3, e4⟩ := (E m).2 _ _ _ _ h1 h1' hm
    subst e1
    subst e2
    subst e3
    exact hand_fresh I e4 g
  · obtain ⟨rfl, rfl, rfl⟩ := hand_want h
    obtain ⟨rfl, rfl, rfl⟩ := hand_want h'
    exact ⟨[], R, by rw [List.append_nil]; exact I, fun _ _ _ h => h, .want (F.mono I.sub) ht (fun e => hg e (by decide +kernel)), rfl, rfl⟩
  · have hnc : w ≠ "copy" := by rcases hw with e | e <;> subst e <;> decide +kernel
    obtain ⟨r, sx, h1, h2⟩ := hand_lent hw h
    rcases h2 with ⟨rfl, v, sy, h2, rfl, rfl, rfl⟩ | ⟨pl, th, rfl, h2⟩
    · -- no place: a copy by both
      have hmy : sy.mixed = false := hm
      have hmx := num_mf h2 hmy
      rcases hw' with hw' | hw' | ⟨rfl, hgf⟩
      all_goals first
        | (have hwp : w' = "place" ∨ w' = "back" := by first | exact .inl hw' | exact .inr hw'
           obtain ⟨r', sx', h1', h2'⟩ := hand_lent hwp h'
           obtain ⟨e1, e2, e3⟩ := (E m).1 _ _ _ _ h1 h1' hmx
           subst e1
           subst e2
           rcases h2' with ⟨rfl, v', sy', h2', rfl, rfl, rfl⟩ | ⟨pl', th', rfl, _⟩
           · obtain ⟨q1, q2, q3, q4⟩ := (E m).2 _ _ _ _ h2 h2' hmy
             subst q1
             subst q2
             subst q3
             exact hand_fresh I q4 g
           · exact e3.elim)
        | (obtain ⟨v', sx', h1', rfl, rfl, rfl⟩ := hand_copy h'
           have e1 : sx = s := by
             have hl := findF_lent h1
             have := find_mf h1 hmx
             obtain ⟨a1, a2, a3, a4, a5⟩ := sx
             obtain ⟨b1, b2, b3, b4, b5⟩ := s
             simp only at hl hmx this
             simp only [Sg.mk.injEq]
             exact ⟨hl.2.1, hl.2.2.1, hl.1, hl.2.2.2, hmx.trans this.symm⟩
           subst e1
           obtain ⟨q1, q2, q3, q4⟩ := (E m).2 _ _ _ _ h2 h1' hmy
           subst q1
           subst q2
           subst q3
           exact hand_fresh I q4 g)
    · -- a place
      have hmc : (come pl th sx).mixed = false := by
        rcases h2 with ⟨_, _, _, e⟩ | ⟨_, v, _, _, _, e⟩ <;> (rw [e] at hm; exact hm)
      have hmx : sx.mixed = false := by
        have h3 : (sx.mixed || meets sx pl th) = false := hmc
        rw [Bool.or_eq_false_iff] at h3
        exact h3.1
      obtain ⟨hlv, hce⟩ := come_lv hmc
      -- one more that is lent
      have key : ∀ {pl' : Nat} {th' : List Nat} {fl : Bool} (kB : Nat) (x' : Nat) (tx' : List Nat), sx = s → R0 (pl, th) (pl', th') fl → (SetT ms t → fl = true) → s1'.mixed = false → s1'.said = s'.said → s'.nums <+: s1'.nums → s'.many ≤ s1'.many → hd' = .road x' tx' → b'.toList = (if kB = 1 then [(pl', x')] else []) →
          ((kB = 0 ∧ x' = pl' ∧ tx' = th' ++ [s'.many + 1] ∧ s1'.lent = s'.lent ++ [(pl', s'.many + 1)] ∧ s'.many + 1 ≤ s1'.many) ∨ (kB = 1 ∧ x' = s'.nums.length ∧ tx' = [] ∧ s1'.lent = s'.lent ++ [(pl', s'.many + 1)] ∧ s'.many + 1 ≤ s1'.many ∧ s1'.nums[x']? = s'.nums[pl']?) ∨ (kB = 2 ∧ x' = s'.nums.length ∧ tx' = [] ∧ s1'.lent = s'.lent ∧ s1'.nums[x']? = s'.nums[pl']? ∧ g = false)) →
          ∃ L1 R1, HI R0 s0 s0' (L ++ L1) R1 s1 s1' ∧ RSub R R1 ∧ KHd R1 g hd hd' ∧ b.toList = bkA L1 ∧ b'.toList = bkB L1 := by
        intro pl' th' fl kB x' tx' es hR hfl mx' said' pre' mn' ehd' eb' hB
        subst es
        rw [hce] at h2
        have hgf : g = true → fl = true := fun e => hfl (hg e hnc)
        rcases h2 with ⟨_, rfl, rfl, rfl⟩ | ⟨_, v, hv, rfl, rfl, rfl⟩
        · refine ⟨[⟨pl, th, pl', th', fl, g, pl, th ++ [sx.many + 1], x', tx', sx.many + 1, false, kB⟩], _, I.lend (e := ⟨pl, th, pl', th', fl, g, pl, th ++ [sx.many + 1], x', tx', sx.many + 1, false, kB⟩) S0 hR hlv hgf rfl hmx mx' rfl said' I.sr.lt3 rfl rfl (List.prefix_refl _) pre' mn' (.inl ⟨rfl, rfl, rfl⟩) hB, RMore.sub, ?_, rfl, ?_⟩
          · rw [ehd']
            exact .road (.inr ⟨rfl, rfl, rfl⟩) (fun h => h)
          · rw [eb']
            by_cases e : kB = 1 <;> simp [bkB, e]
        · refine ⟨[⟨pl, th, pl', th', fl, g, sx.nums.length, [], x', tx', sx.many + 1, true, kB⟩], _, I.lend (e := ⟨pl, th, pl', th', fl, g, sx.nums.length, [], x', tx', sx.many + 1, true, kB⟩) S0 hR hlv hgf rfl hmx mx' rfl said' (fun u hu => ?_) rfl rfl ⟨[v], rfl⟩ pre' mn' (.inr ⟨rfl, rfl, rfl, ?_⟩) hB, RMore.sub, ?_, rfl, ?_⟩
          · rcases List.mem_append.mp hu with hu | hu
            · exact I.sr.lt3 u hu
            · rw [List.mem_singleton] at hu
              rw [hu]
              exact I.sr.lt3 v (List.mem_of_getElem? hv)
          · dsimp only
            rw [hv]
            simp
          · rw [ehd']
            exact .road (.inr ⟨rfl, rfl, rfl⟩) (fun h => h)
          · rw [eb']
            by_cases e : kB = 1 <;> simp [bkB, e]
      rcases hw' with hw' | hw' | ⟨rfl, hgf⟩
      · subst hw'
        obtain ⟨r', sx', h1', h2'⟩ := hand_lent (.inl rfl) h'
        obtain ⟨e1, e2, e3⟩ := (E m).1 _ _ _ _ h1 h1' hmx
        subst e2
        rcases h2' with ⟨rfl, _⟩ | ⟨pl', th', rfl, h2'⟩
        · exact e3.elim
        obtain ⟨fl, hR, hfl⟩ := e3
        have hl' := (I.sr.live _ _ _ (I.sub _ _ _ hR) (e1 ▸ hlv)).1
        rw [come_ok hl'] at h2'
        rcases h2' with ⟨_, rfl, rfl, rfl⟩ | ⟨ew, _⟩
        · exact key 0 pl' (th' ++ [sx'.many + 1]) e1 hR hfl I.sr.mx' rfl (List.prefix_refl _) (Nat.le_succ _) rfl rfl (.inl ⟨rfl, rfl, rfl, rfl, Nat.le_refl _⟩)
        · exact absurd ew (by decide +kernel)
      · subst hw'
        obtain ⟨r', sx', h1', h2'⟩ := hand_lent (.inr rfl) h'
        obtain ⟨e1, e2, e3⟩ := (E m).1 _ _ _ _ h1 h1' hmx
        subst e2
        rcases h2' with ⟨rfl, _⟩ | ⟨pl', th', rfl, h2'⟩
        · exact e3.elim
        obtain ⟨fl, hR, hfl⟩ := e3
        have hl' := (I.sr.live _ _ _ (I.sub _ _ _ hR) (e1 ▸ hlv)).1
        rw [come_ok hl'] at h2'
        rcases h2' with ⟨ew, _⟩ | ⟨_, v', hv', rfl, rfl, rfl⟩
        · exact absurd ew (by decide +kernel)
        · exact key 1 sx'.nums.length [] e1 hR hfl I.sr.mx' rfl ⟨[v'], rfl⟩ (Nat.le_succ _) rfl rfl (.inr (.inl ⟨rfl, rfl, rfl, rfl, Nat.le_refl _, by dsimp only; rw [hv']; simp⟩))
      · obtain ⟨v', sx', h1', rfl, rfl, rfl⟩ := hand_copy h'
        have e1 : sx = s := by
          have hl := findF_lent h1
          have := find_mf h1 hmx
          obtain ⟨a1, a2, a3, a4, a5⟩ := sx
          obtain ⟨b1, b2, b3, b4, b5⟩ := s
          simp only at hl hmx this
          simp only [Sg.mk.injEq]
          exact ⟨hl.2.1, hl.2.2.1, hl.1, hl.2.2.2, hmx.trans this.symm⟩
        obtain ⟨_, e2, ⟨pl', th'⟩, fl, hR, hfl, hv'⟩ := num_found I.sub hcom I.sr F ht h1 h1' hmx (e1 ▸ hlv)
        subst e2
        exact key 2 sx'.nums.length [] e1 hR hfl I.sr.mx' rfl ⟨[v'], rfl⟩ (Nat.le_refl _) rfl rfl (.inr (.inr ⟨rfl, rfl, rfl, rfl, by dsimp only at hv' ⊢; rw [hv']; simp, hgf⟩))
theorem hand_mx {m : Nat} {t : Th} {w : Str} {f : Fra} {hd : Hd} {b : Option (Nat × Nat)} (h : handF m t w f s = some (hd, b, s1)) (hm : s1.mixed = false) : s.mixed = false := by
  cases e : s.mixed with
  | false => rfl
  | true =>
    have : s1.mixed = true := by
      unfold handF at h
      split at h
      · cases h
      · rename_i fd sx hx
        have hmx : sx.mixed = true := by
          split at hx
          · exact (ev_mx m).1 _ _ _ _ _ hx e
          · cases hx; exact e
        split at h
        · cases h; exact hmx
        · split at h
          · split at h
            · cases h
            · rename_i v sy hy
              have hmy := (ev_mx m).2 _ _ _ _ _ hy hmx
              split at h
              · cases h
              · rename_i pl s3 h3
                cases h
                rw [(freshF_some h3).2]
                exact hmy
          · rename_i pl th
            dsimp only at h
            split at h
            · split at h
              · split at h
                · cases h
                  simp [come, hmx]
                · cases h
              · split at h
                · cases h
                · split at h
                  · cases h
                  · rename_i o s4 h4
                    cases h
                    rw [(freshF_some h4).2]
                    simp [come, hmx]
            · cases h
    rw [this] at hm
    cases hm
theorem handAll_mx {m : Nat} {f : Fra} : ∀ {ts : List Th} {ws : List Str} {s s1 : Sg} {hs : List Hd} {bs : List (Option (Nat × Nat))}, handAll m ts ws f s = some (hs, bs, s1) → s1.mixed = false → s.mixed = false
  | [], _, s, s1, hs, bs, h, hm => by simp only [handAll] at h; cases h; exact hm
  | t :: ts, [], s, s1, hs, bs, h, hm => by simp [handAll] at h
  | t :: ts, w :: ws, s, s1, hs, bs, h, hm => by
    simp only [handAll] at h
    split at h
    · cases h
    · rename_i a b sx hx
      split at h
      · cases h
      · rename_i a2 b2 sy hy
        cases h
        exact hand_mx hx (handAll_mx hy hm)
theorem handAll_k (hcom : ComR R0) (S0 : SR R0 s0 s0') {ms : List Bool} {f f' : Fra} (F : KFr R0 ms f f') {m : Nat} : ∀ (ts : List Th) (ws ws' : List Str) (gs : List Bool) (L : List Ln) (R : Rl) (s s' s1 s1' : Sg) (hs hs' : List Hd) (bs bs' : List (Option (Nat × Nat))), HI R0 s0 s0' L R s s' → (∀ t ∈ ts, n3 t = true) →
    (∀ (k : Nat) (w w' : Str), ws[k]? = some w → ws'[k]? = some w' → WW (gs.getD k false) w w') → (∀ (k : Nat) (t : Th) (w : Str), ts[k]? = some t → ws[k]? = some w → gs.getD k false = true → w ≠ "copy" → SetT ms t) →
    handAll m ts ws f s = some (hs, bs, s1) → handAll m ts ws' f' s' = some (hs', bs', s1') → s1.mixed = false →
    ∃ L1 R1, HI R0 s0 s0' (L ++ L1) R1 s1 s1' ∧ RSub R R1 ∧ hs.length = hs'.length ∧ (∀ (k : Nat) (h h' : Hd), hs[k]? = some h → hs'[k]? = some h' → KHd R1 (gs.getD k false) h h') ∧ bs.filterMap id = bkA L1 ∧ bs'.filterMap id = bkB L1
  | [], ws, ws', gs, L, R, s, s', s1, s1', hs, hs', bs, bs', I, _, _, _, h, h', hm => by
    simp only [handAll] at h h'
    cases h
    cases h'
    exact ⟨[], R, by rw [List.append_nil]; exact I, fun _ _ _ h => h, rfl, fun k h h' e => by simp at e, rfl, rfl⟩
  | t :: ts, [], ws', gs, L, R, s, s', s1, s1', hs, hs', bs, bs', I, _, _, _, h, h', hm => by simp [handAll] at h
  | t :: ts, w :: ws, [], gs, L, R, s, s', s1, s1', hs, hs', bs, bs', I, _, _, _, h, h', hm => by simp [handAll] at h'
  | t :: ts, w :: ws, w' :: ws', gs, L, R, s, s', s1, s1', hs, hs', bs, bs', I, hn, hww, hgs, h, h', hm => by
    simp only [handAll] at h h'
    split at h
    · cases h
    · rename_i hd b sx hx
      split at h
      · cases h
      · rename_i hr br sy hy
        cases h
        split at h'
        · cases h'
        · rename_i hd' b' sx' hx'
          split at h'
          · cases h'
          · rename_i hr' br' sy' hy'
            cases h'
            obtain ⟨L1, R1, I1, q1, q2, q3, q4⟩ := hand_k hcom S0 I F (hn t List.mem_cons_self) (hww 0 w w' rfl rfl) (fun e1 e2 => hgs 0 t w rfl rfl e1 e2) hx hx' (handAll_mx hy hm)
            obtain ⟨L2, R2, I2, p1, p2, p3, p4, p5⟩ := handAll_k hcom S0 F ts ws ws' (gs.drop 1) (L ++ L1) R1 sx sx' s1 s1' hr hr' br br' I1 (fun t ht => hn t (List.mem_cons_of_mem _ ht)) (fun k a a' ha ha' => by
              have := hww (k + 1) a a' (by simpa using ha) (by simpa using ha')
              simpa [List.getD, List.getElem?_drop, Nat.add_comm] using this) (fun k t a ht ha hgk => hgs (k + 1) t a (by simpa using ht) (by simpa using ha) (by simpa [List.getD, List.getElem?_drop, Nat.add_comm] using hgk)) hy hy' hm
            refine ⟨L1 ++ L2, R2, by rw [← List.append_assoc]; exact I2, fun a a' fl h => p1 _ _ _ (q1 _ _ _ h), by simp [p2], fun k a a' ha ha' => ?_, ?_, ?_⟩
            · cases k with
              | zero =>
                simp at ha ha'
                subst ha
                subst ha'
                exact q2.mono p1
              | succ k =>
                have := p3 k a a' (by simpa using ha) (by simpa using ha')
                simpa [List.getD, List.getElem?_drop, Nat.add_comm] using this
            · have e : bkA (L1 ++ L2) = bkA L1 ++ bkA L2 := by simp [bkA]
              rw [e, ← q3, ← p4]
              cases b <;> rfl
            · have e : bkB (L1 ++ L2) = bkB L1 ++ bkB L2 := by simp [bkB]
              rw [e, ← q4, ← p5]
              cases b' <;> rfl
end
end Hw

set_option maxRecDepth 100000
set_option maxHeartbeats 4000000
/-! KS4: calls, steps, whole runs by ways that were changed -/
namespace Hw
open PySem PySem.Spec PyProof.Rows L2 Evl
theorem backF_val : ∀ (bs : List (Option (Nat × Nat))) (ns nsF : List Nat), backF bs ns = some nsF → nsF.length = ns.length ∧ ((∀ v ∈ ns, v < 3) → ∀ v ∈ nsF, v < 3) ∧ (∀ q, (∀ x ∈ bs.filterMap id, x.1 ≠ q) → nsF[q]? = ns[q]?) ∧
    ((bs.filterMap id).Pairwise (fun x y => x.1 ≠ y.1) → (∀ x ∈ bs.filterMap id, ∀ y ∈ bs.filterMap id, x.2 ≠ y.1) → ∀ x ∈ bs.filterMap id, nsF[x.1]? = ns[x.2]?)
  | [], ns, nsF, h => by
    simp only [backF] at h
    cases h
    exact ⟨rfl, fun h => h, fun q _ => rfl, fun _ _ x hx => by simp at hx⟩
  | none :: r, ns, nsF, h => by
    simp only [backF] at h
    exact backF_val r ns nsF h
  | some (pl, o) :: r, ns, nsF, h => by
    simp only [backF] at h
    split at h
    · cases h
    · rename_i v hv
      split at h
      · rename_i hlt
        obtain ⟨h1, h2, h3, h4⟩ := backF_val r _ _ h
        rw [List.length_set] at h1
        have e : (some (pl, o) :: r).filterMap id = (pl, o) :: r.filterMap id := rfl
        rw [e]
        refine ⟨h1, fun hn => h2 fun u hu => ?_, fun q hq => ?_, fun hp hd x hx => ?_⟩
        · rcases List.mem_or_eq_of_mem_set hu with hu | hu
          · exact hn u hu
          · rw [hu]; exact hn v (List.mem_of_getElem? hv)
        · rw [h3 q fun x hx => hq x (List.mem_cons_of_mem _ hx), List.getElem?_set_ne (hq (pl, o) List.mem_cons_self)]
        · rw [List.pairwise_cons] at hp
          rcases List.mem_cons.mp hx with hx | hx
          · subst hx
            dsimp only
            rw [h3 pl fun x hx => Ne.symm (hp.1 x hx), List.getElem?_set_self hlt, hv]
          · rw [h4 hp.2 (fun x hx y hy => hd x (List.mem_cons_of_mem _ hx) y (List.mem_cons_of_mem _ hy)) x hx]
            exact List.getElem?_set_ne (Ne.symm (hd x (List.mem_cons_of_mem _ hx) (pl, o) List.mem_cons_self))
      · cases h
theorem pw_inj : ∀ {L : List Ln} {d e : Ln}, (L.Pairwise fun d e => d.pl ≠ e.pl) → d ∈ L → e ∈ L → d.pl = e.pl → d = e
  | [], _, _, _, h, _, _ => by cases h
  | a :: r, d, e, hp, hd, he, eq => by
    rw [List.pairwise_cons] at hp
    rcases List.mem_cons.mp hd with h1 | h1 <;> rcases List.mem_cons.mp he with h2 | h2
    · rw [h1, h2]
    · subst h1; exact absurd eq (hp.1 e h2)
    · subst h2; exact absurd eq.symm (hp.1 d h1)
    · exact pw_inj hp.2 h1 h2 eq
/-- what holds behind steps -/
structure Po (R : Rl) (s s' s1 s1' : Sg) : Prop where
  sr : SR R s1 s1'
  lent : s1.lent = s.lent
  lent' : s1'.lent = s'.lent
  ln : s.nums.length ≤ s1.nums.length
  ln' : s'.nums.length ≤ s1'.nums.length
  mn : s.many ≤ s1.many
  mn' : s'.many ≤ s1'.many
  ro : ∀ a a', R a a' false → Lv s a → s1.nums[a.1]? = s.nums[a.1]?
  fr : ∀ z, z < s'.nums.length → (∀ b b' fl, R b b' fl → Lv s b → b'.1 ≠ z) → s1'.nums[z]? = s'.nums[z]?
theorem lv_eq {s s1 : Sg} (h : s1.lent = s.lent) {a : Nat × List Nat} : Lv s1 a ↔ Lv s a := by
  unfold Lv
  rw [h]
theorem Po.refl {R : Rl} {s s' : Sg} (S : SR R s s') : Po R s s' s s' := ⟨S, rfl, rfl, Nat.le_refl _, Nat.le_refl _, Nat.le_refl _, Nat.le_refl _, fun _ _ _ _ => rfl, fun _ _ _ => rfl⟩
theorem Po.trans {R : Rl} {s s' s1 s1' s2 s2' : Sg} (A : Po R s s' s1 s1') (B : Po R s1 s1' s2 s2') : Po R s s' s2 s2' :=
  ⟨B.sr, B.lent.trans A.lent, B.lent'.trans A.lent', Nat.le_trans A.ln B.ln, Nat.le_trans A.ln' B.ln', Nat.le_trans A.mn B.mn, Nat.le_trans A.mn' B.mn',
    fun a a' h hl => (B.ro a a' h ((lv_eq A.lent).mpr hl)).trans (A.ro a a' h hl),
    fun z hz h => (B.fr z (Nat.lt_of_lt_of_le hz A.ln') fun b b' fl hb hl => h b b' fl hb ((lv_eq A.lent).mp hl)).trans (A.fr z hz h)⟩
section
variable {R0 R R2 : Rl} {s s' s0 s0' s1 s1' s2 s2' s3 s3' : Sg} {L : List Ln}
theorem own_k : ∀ (k : Nat) (R : Rl) (s s' s1 s1' : Sg) (os os' : List Nat), HI R0 s0 s0' L R s s' → ownF k s = some (os, s1) → ownF k s' = some (os', s1') →
    ∃ R1, HI R0 s0 s0' L R1 s1 s1' ∧ RSub R R1 ∧ os.length = os'.length ∧ ∀ (j o o' : Nat), os[j]? = some o → os'[j]? = some o' → R1 (o, []) (o', []) true
  | 0, R, s, s', s1, s1', os, os', I, h, h' => by
    simp only [ownF] at h h'
    cases h
    cases h'
    exact ⟨R, I, fun _ _ _ h => h, rfl, fun j o o' h => by simp at h⟩
  | k + 1, R, s, s', s1, s1', os, os', I, h, h' => by
    simp only [ownF] at h h'
    split at h
    · cases h
    · rename_i xs sx hx
      split at h
      · cases h
      · rename_i o sy hy
        cases h
        split at h'
        · cases h'
        · rename_i xs' sx' hx'
          split at h'
          · cases h'
          · rename_i o' sy' hy'
            cases h'
            obtain ⟨R1, I1, q1, q2, q3⟩ := own_k k R s s' sx sx' xs xs' I hx hx'
            obtain ⟨e1, e2⟩ := freshF_some hy
            obtain ⟨e1', e2'⟩ := freshF_some hy'
            subst e1 e2 e1' e2'
            refine ⟨_, I1.fresh (g := true) (by decide), fun a a' fl h => .inl (q1 a a' fl h), by simp [q2], fun j a a' ha ha' => ?_⟩
            by_cases hj : j < xs.length
            · rw [List.getElem?_append_left hj] at ha
              rw [List.getElem?_append_left (by omega)] at ha'
              exact .inl (q3 j a a' ha ha')
            · have hjl := (List.getElem?_eq_some_iff.mp ha).1
              rw [List.length_append, List.length_singleton] at hjl
              have : j = xs.length := by omega
              subst this
              rw [List.getElem?_append_right (Nat.le_refl _)] at ha
              rw [q2, List.getElem?_append_right (Nat.le_refl _)] at ha'
              simp at ha ha'
              subst ha ha'
              exact .inr ⟨rfl, rfl, rfl⟩
theorem ownF_mx : ∀ {k : Nat} {s s1 : Sg} {os : List Nat}, ownF k s = some (os, s1) → s1.mixed = s.mixed
  | 0, s, s1, os, h => by simp only [ownF] at h; cases h; rfl
  | k + 1, s, s1, os, h => by
    simp only [ownF] at h
    split at h
    · cases h
    · rename_i xs sx hx
      split at h
      · cases h
      · rename_i o sy hy
        cases h
        rw [(freshF_some hy).2]
        exact ownF_mx (s1 := sx) hx
/-- behind a call -/
theorem back_k (S : SR R s s') (I : HI R s s' L R2 s2 s2') (P : Po R2 s2 s2' s3 s3') {bs bs' : List (Option (Nat × Nat))} {ns ns' : List Nat} (hA : bs.filterMap id = bkA L) (hB : bs'.filterMap id = bkB L) (hb : backF bs s3.nums = some ns) (hb' : backF bs' s3'.nums = some ns') :
    Po R s s' { s3 with lent := s.lent, nums := ns } { s3' with lent := s'.lent, nums := ns' } := by
  obtain ⟨l1, lt1, o1, v1⟩ := backF_val _ _ _ hb
  obtain ⟨l2, lt2, o2, v2⟩ := backF_val _ _ _ hb'
  rw [hA] at o1 v1
  rw [hB] at o2 v2
  have hp := pre_len I.pre
  have hp' := pre_len I.pre'
  have bp : ∀ e ∈ L, e.pl < s.nums.length ∧ e.pl' < s'.nums.length := fun e he => by
    have := S.bd _ _ _ (I.el e he).1
    exact ⟨this.1, this.2.1⟩
  have inj' : ∀ d ∈ L, ∀ e ∈ L, d.pl' = e.pl' → d = e := fun d hd e he h => by
    obtain ⟨d1, d2, _⟩ := I.el d hd
    obtain ⟨e1, e2, _⟩ := I.el e he
    exact pw_inj I.nd hd he ((S.bij _ _ _ _ _ _ d1 e1 d2 e2).1.mpr h)
  -- the first run's numbers
  have memA : ∀ x ∈ bkA L, ∃ e ∈ L, e.kA = true ∧ x = (e.pl, e.x) := fun x hx => by
    unfold bkA at hx
    obtain ⟨e, he, rfl⟩ := List.mem_map.mp hx
    rw [List.mem_filter] at he
    exact ⟨e, he.1, he.2, rfl⟩
  have memB : ∀ x ∈ bkB L, ∃ e ∈ L, e.kB = 1 ∧ x = (e.pl', e.x') := fun x hx => by
    unfold bkB at hx
    obtain ⟨e, he, rfl⟩ := List.mem_map.mp hx
    rw [List.mem_filter] at he
    exact ⟨e, he.1, by simpa using he.2, rfl⟩
  have a_out : ∀ q, (∀ e ∈ L, e.pl ≠ q) → ns[q]? = s3.nums[q]? := fun q hq => o1 q fun x hx => by
    obtain ⟨e, he, _, rfl⟩ := memA x hx
    exact hq e he
  have b_out : ∀ q, (∀ e ∈ L, e.kB = 1 → e.pl' ≠ q) → ns'[q]? = s3'.nums[q]? := fun q hq => o2 q fun x hx => by
    obtain ⟨e, he, hk, rfl⟩ := memB x hx
    exact hq e he hk
  have pwA : (bkA L).Pairwise fun x y => x.1 ≠ y.1 := by
    unfold bkA
    rw [List.pairwise_map]
    exact List.Pairwise.imp (fun h => h) (I.nd.filter _)
  have pwB : (bkB L).Pairwise fun x y => x.1 ≠ y.1 := by
    unfold bkB
    rw [List.pairwise_map]
    refine List.Pairwise.filter _ (List.Pairwise.imp_of_mem (fun {d e} hd he h => ?_) I.nd)
    exact fun e1 => h (by rw [inj' d hd e he e1])
  have a_in : ∀ e ∈ L, ns[e.pl]? = s3.nums[e.x]? := fun e he => by
    rcases I.fA e he with ⟨k0, k1⟩ | ⟨k0, k1, _⟩
    · rw [k1]
      refine o1 _ fun x hx => ?_
      obtain ⟨d, hd, hk, rfl⟩ := memA x hx
      intro h
      have := pw_inj I.nd hd he h
      rw [this, k0] at hk
      cases hk
    · refine v1 pwA (fun x hx y hy => ?_) (e.pl, e.x) ?_
      · obtain ⟨d, hd, hk, rfl⟩ := memA x hx
        obtain ⟨d2, hd2, hk2, rfl⟩ := memA y hy
        have := (bp d2 hd2).1
        rcases I.fA d hd with ⟨z, _⟩ | ⟨_, z, _⟩
        · rw [hk] at z; cases z
        · dsimp only
          omega
      · unfold bkA
        exact List.mem_map.mpr ⟨e, List.mem_filter.mpr ⟨he, k0⟩, rfl⟩
  have b_in1 : ∀ e ∈ L, e.kB ≠ 2 → ns'[e.pl']? = s3'.nums[e.x']? := fun e he hn2 => by
    rcases I.fB e he with ⟨k0, k1⟩ | ⟨k0, k1⟩ | ⟨k0, _⟩
    · rw [k1]
      refine b_out _ fun d hd hk h => ?_
      rw [inj' d hd e he h, k0] at hk
      cases hk
    · refine v2 pwB (fun x hx y hy => ?_) (e.pl', e.x') ?_
      · obtain ⟨d, hd, hk, rfl⟩ := memB x hx
        obtain ⟨d2, hd2, hk2, rfl⟩ := memB y hy
        have := (bp d2 hd2).2
        rcases I.fB d hd with ⟨z, _⟩ | ⟨_, z⟩ | ⟨z, _⟩
        · omega
        · dsimp only; omega
        · omega
      · unfold bkB
        exact List.mem_map.mpr ⟨e, List.mem_filter.mpr ⟨he, by simpa using k0⟩, rfl⟩
    · exact absurd k0 hn2
  have lv0 : ∀ b, Lv s2 b → Lv s b := fun b h y hy => h y (by rw [I.lent]; exact List.mem_append_left _ hy)
  -- what is not lent stays open
  have lv2 : ∀ a, Lv s a → (∀ e ∈ L, e.pl ≠ a.1) → Lv s2 a := fun a h hn y hy ey => by
    rw [I.lent] at hy
    rcases List.mem_append.mp hy with hy | hy
    · exact h y hy ey
    · obtain ⟨e, he, rfl⟩ := List.mem_map.mp hy
      exact absurd ey (hn e he)
  have sx : ∀ e ∈ L, s2.nums[e.x]? = s.nums[e.pl]? := fun e he => by
    rcases I.fA e he with ⟨_, k1⟩ | ⟨_, _, k2⟩
    · obtain ⟨z, hz⟩ := I.pre
      rw [k1, ← hz, List.getElem?_append_left (bp e he).1]
    · exact k2
  -- a place of the second run that no open road comes to
  have frz : ∀ z, z < s'.nums.length → (∀ b b' fl, R b b' fl → Lv s2 b → b'.1 ≠ z) → (∀ d ∈ L, d.kB = 0 → d.pl' ≠ z) → s3'.nums[z]? = s'.nums[z]? := fun z hz h0 h1 => by
    obtain ⟨u, hu⟩ := I.pre'
    rw [P.fr z (by omega) ?_, ← hu, List.getElem?_append_left hz]
    intro b b' fl hb hlb
    rcases I.new b b' fl hb with h | ⟨d, hd, rfl, rfl, rfl⟩ | ⟨_, h⟩
    · exact h0 b b' fl h hlb
    · dsimp only
      rcases I.fB d hd with ⟨k0, k1⟩ | ⟨_, k1⟩ | ⟨_, k1, _⟩
      · rw [k1]; exact h1 d hd k0
      · omega
      · omega
    · omega
  have S3 := P.sr
  -- the numbers behind the call
  have val : ∀ a a' fl, R a a' fl → Lv s a → (∃ v, ns[a.1]? = some v ∧ ns'[a'.1]? = some v) ∧ (fl = false → ns[a.1]? = s.nums[a.1]?) := fun a a' fl hR hl => by
    by_cases hex : ∃ e ∈ L, e.pl = a.1
    · obtain ⟨e, he, ee⟩ := hex
      obtain ⟨e1, e2, e3, e4, e5, e6⟩ := I.el e he
      have bj := S.bij _ _ _ _ _ _ e1 hR e2 hl
      have epl' : e.pl' = a'.1 := bj.1.mp ee
      have efl : e.fl = fl := bj.2 ee
      obtain ⟨_, u, u1, u2⟩ := S3.live _ _ _ e4 ((lv_eq P.lent).mpr e5)
      dsimp only at u1 u2
      have hns : ns[a.1]? = some u := by rw [← ee, a_in e he, u1]
      have hro : e.g = false → s3.nums[e.x]? = s.nums[e.pl]? := fun hg => by
        have := P.ro (e.x, e.tx) (e.x', e.tx') (hg ▸ e4) e5
        rw [← sx e he]
        exact this
      refine ⟨⟨u, hns, ?_⟩, fun hfl => ?_⟩
      · rw [← epl']
        by_cases hk2 : e.kB = 2
        · obtain ⟨_, k1, k2⟩ : e.kB = 2 ∧ s'.nums.length ≤ e.x' ∧ e.g = false := by
            rcases I.fB e he with ⟨z, _⟩ | ⟨z, _⟩ | z
            · omega
            · omega
            · exact z
          rw [b_out e.pl' fun d hd hk h => by rw [inj' d hd e he h] at hk; omega]
          rw [frz e.pl' (bp e he).2 (fun b b' gl hb hlb h => ?_) (fun d hd hk h => by rw [inj' d hd e he h] at hk; omega)]
          · obtain ⟨_, w, w1, w2⟩ := S.live _ _ _ e1 e2
            have := hro k2
            dsimp only at w1 w2
            rw [u1, w1] at this
            rw [w2, ← this]
          · have hb1 := (S.bij _ _ _ _ _ _ hb e1 (lv0 b hlb) e2).1.mpr h
            have := hlb (e.pl, e.id) (by rw [I.lent]; exact List.mem_append_right _ (List.mem_map.mpr ⟨e, he, rfl⟩)) hb1.symm
            have := (S.bd _ _ _ hb).2.2.1 _ this
            dsimp only at this
            omega
        · rw [b_in1 e he hk2, u2]
      · have hg : e.g = false := by
          cases hg : e.g with
          | false => rfl
          | true => rw [efl, hfl] at e3; exact absurd (e3 hg) (by decide)
        rw [hns, ← ee, ← hro hg, u1]
    · have hn : ∀ e ∈ L, e.pl ≠ a.1 := fun e he h => hex ⟨e, he, h⟩
      have hl2 := lv2 a hl hn
      have hn' : ∀ e ∈ L, e.pl' ≠ a'.1 := fun e he h => hn e he ((S.bij _ _ _ _ _ _ (I.el e he).1 hR (I.el e he).2.1 hl).1.mpr h)
      obtain ⟨_, u, u1, u2⟩ := S3.live a a' fl (I.sub _ _ _ hR) ((lv_eq P.lent).mpr hl2)
      refine ⟨⟨u, by rw [a_out _ hn, u1], by rw [b_out _ fun e he _ => hn' e he, u2]⟩, fun hfl => ?_⟩
      subst hfl
      obtain ⟨z, hz⟩ := I.pre
      rw [a_out _ hn, P.ro a a' (I.sub _ _ _ hR) hl2, ← hz, List.getElem?_append_left (S.bd _ _ _ hR).1]
  have q1 := P.ln
  have q2 := P.ln'
  have q3 := P.mn
  have q4 := P.mn'
  have q5 := I.mn
  have q6 := I.mn'
  refine ⟨⟨S3.mx, S3.mx', S3.said, lt1 S3.lt3, fun a a' fl hR hl => ⟨(S.live a a' fl hR hl).1, (val a a' fl hR hl).1⟩, fun a a' fl b b' gl h1 h2 h3 h4 => S.bij a a' fl b b' gl h1 h2 h3 h4, fun a a' fl hR => ?_, ⟨fun y hy => ?_, fun y hy => ?_⟩⟩, rfl, rfl, ?_, ?_, ?_, ?_, fun a a' hR hl => (val a a' false hR hl).2 rfl, fun z hz h => ?_⟩
  · obtain ⟨b1, b2, b3, b4⟩ := S.bd a a' fl hR
    exact ⟨by dsimp only; omega, by dsimp only; omega, fun m hm => by have := b3 m hm; dsimp only; omega, fun m hm => by have := b4 m hm; dsimp only; omega⟩
  · have := S.ids.1 y hy
    exact ⟨by dsimp only; omega, by dsimp only; omega⟩
  · have := S.ids.2 y hy
    exact ⟨by dsimp only; omega, by dsimp only; omega⟩
  · dsimp only; omega
  · dsimp only; omega
  · dsimp only; omega
  · dsimp only; omega
  · have hz' : ∀ e ∈ L, e.pl' ≠ z := fun e he => h _ _ _ (I.el e he).1 (I.el e he).2.1
    show ns'[z]? = _
    rw [b_out z fun e he _ => hz' e he]
    exact frz z hz (fun b b' fl hb hlb => h b b' fl hb (lv0 b hlb)) fun d hd _ => hz' d hd
end
end Hw

set_option maxRecDepth 100000
set_option maxHeartbeats 4000000
/-! KS5: steps and whole runs by ways that were changed -/
namespace Hw
open PySem PySem.Spec PyProof.Rows L2 Evl
mutual
/-- a step may set a param -/
def HitS (ys : List (List Str)) (ks : Nat → List Bool) (k : Nat) : Stm → Prop
  | .set p _ => p = .par k
  | .say _ => False
  | .ite _ a b => HitB ys ks k a ∨ HitB ys ks k b
  | .call c ts => ∃ (i : Nat) (ws : List Str) (w : Str), ts[i]? = some (.par k) ∧ ys[c]? = some ws ∧ ws[i]? = some w ∧ (ks c).getD i false = true ∧ w ≠ "copy"
def HitB (ys : List (List Str)) (ks : Nat → List Bool) (k : Nat) : List Stm → Prop
  | [] => False
  | x :: r => HitS ys ks k x ∨ HitB ys ks k r
end
theorem hitB_mem {ys : List (List Str)} {ks : Nat → List Bool} {k : Nat} : ∀ {b : List Stm} {x : Stm}, x ∈ b → HitS ys ks k x → HitB ys ks k b
  | a :: r, x, hx, h => by
    rcases List.mem_cons.mp hx with e | e
    · subst e; exact .inl h
    · exact .inr (hitB_mem e h)
theorem okB_mem {sh : List (Nat × Nat)} {i w : Nat} : ∀ (b : List Stm) {x : Stm}, okB sh i b w = true → x ∈ b → okS sh i x w = true
  | a :: r, x, h, hx => by
    simp only [okB, Bool.and_eq_true] at h
    rcases List.mem_cons.mp hx with e | e
    · subst e; exact h.1
    · exact okB_mem r h.2 e
structure KW (p : List Wk) (ys ys' : List (List Str)) (ks : Nat → List Bool) : Prop where
  ww : ∀ (c : Nat) (ws ws' : List Str), ys[c]? = some ws → ys'[c]? = some ws' → ∀ (k : Nat) (w w' : Str), ws[k]? = some w → ws'[k]? = some w' → WW ((ks c).getD k false) w w'
  may : ∀ (c : Nat) (wk : Wk), p[c]? = some wk → ∀ k, HitB ys ks k wk.body → (ks c).getD k false = true
  ok : ∀ (c : Nat) (wk : Wk), p[c]? = some wk → okB (shapes p) c wk.body 0 = true
theorem goF_mx {st : Stm → Sg → Option Sg} : ∀ {b : List Stm} {s s1 : Sg}, (∀ x ∈ b, ∀ s s1, st x s = some s1 → s1.mixed = false → s.mixed = false) → goF st b s = some s1 → s1.mixed = false → s.mixed = false
  | [], s, s1, _, h, hm => by simp only [goF] at h; cases h; exact hm
  | x :: r, s, s1, hst, h, hm => by
    simp only [goF] at h
    split at h
    · cases h
    · rename_i sx hx
      exact hst x List.mem_cons_self s sx hx (goF_mx (fun y hy => hst y (List.mem_cons_of_mem _ hy)) h hm)
theorem step_mx {p : List Wk} {ys : List (List Str)} {m : Nat} : ∀ (n : Nat) (f : Fra) (x : Stm) (s s1 : Sg), stepF p ys m n f x s = some s1 → s1.mixed = false → s.mixed = false
  | 0, f, x, s, s1, h, _ => by simp [stepF] at h
  | n + 1, f, .set pt t, s, s1, h, hm => by
    simp only [stepF] at h
    split at h
    · cases h
    · rename_i v sa ha
      split at h
      · cases h
      · rename_i sb hb
        cases h
        exact num_mf ha (find_mf hb hm)
      · rename_i pl th sb hb
        split at h
        · cases h
          have h3 : (sb.mixed || meets sb pl th) = false := hm
          rw [Bool.or_eq_false_iff] at h3
          exact num_mf ha (find_mf hb h3.1)
        · cases h
  | n + 1, f, .say t, s, s1, h, hm => by
    simp only [stepF] at h
    split at h
    · cases h
    · rename_i v sa ha
      split at h
      · cases h
        exact num_mf ha hm
      · cases h
  | n + 1, f, .ite t a b, s, s1, h, hm => by
    simp only [stepF] at h
    split at h
    · cases h
    · rename_i v sa ha
      exact num_mf ha (goF_mx (fun x _ s s1 h hm => step_mx n f x s s1 h hm) h hm)
  | n + 1, f, .call c ts, s, s1, h, hm => by
    simp only [stepF] at h
    split at h
    · split at h
      · cases h
      · rename_i hs bs sa ha
        split at h
        · cases h
        · rename_i os sb hb
          split at h
          · cases h
          · rename_i sc hc
            split at h
            · cases h
            · cases h
              have := goF_mx (fun x _ s s1 h hm => step_mx n _ x s s1 h hm) hc hm
              rw [ownF_mx hb] at this
              exact handAll_mx ha this
    · cases h
section
variable {p : List Wk} {ys ys' : List (List Str)} {ks : Nat → List Bool} {m : Nat}
theorem go_k {n : Nat} {f f' : Fra} {R : Rl} : ∀ (b : List Stm) (s s' s1 s1' : Sg), (∀ x ∈ b, ∀ s s' s1 s1', SR R s s' → stepF p ys m n f x s = some s1 → stepF p ys' m n f' x s' = some s1' → s1.mixed = false → Po R s s' s1 s1') →
    SR R s s' → goF (stepF p ys m n f) b s = some s1 → goF (stepF p ys' m n f') b s' = some s1' → s1.mixed = false → Po R s s' s1 s1'
  | [], s, s', s1, s1', _, S, h, h', hm => by
    simp only [goF] at h h'
    cases h
    cases h'
    exact Po.refl S
  | x :: r, s, s', s1, s1', hst, S, h, h', hm => by
    simp only [goF] at h h'
    split at h
    · cases h
    · rename_i sx hx
      split at h'
      · cases h'
      · rename_i sx' hx'
        have hmx := goF_mx (fun y _ s s1 h hm => step_mx n f y s s1 h hm) h hm
        have A := hst x List.mem_cons_self s s' sx sx' S hx hx' hmx
        exact A.trans (go_k r sx sx' s1 s1' (fun y hy => hst y (List.mem_cons_of_mem _ hy)) A.sr h h' hm)
theorem step_k (W : KW p ys ys' ks) : ∀ (n : Nat) (x : Stm) (i w : Nat) (ms : List Bool) (f f' : Fra) (R : Rl) (s s' s1 s1' : Sg), okS (shapes p) i x w = true → (∀ k, HitS ys ks k x → ms.getD k false = true) → KFr R ms f f' → ComR R → SR R s s' →
    stepF p ys m n f x s = some s1 → stepF p ys' m n f' x s' = some s1' → s1.mixed = false → Po R s s' s1 s1'
  | 0, x, i, w, ms, f, f', R, s, s', s1, s1', _, _, _, _, _, h, _, _ => by simp [stepF] at h
  | n + 1, .set pt t, i, w, ms, f, f', R, s, s', s1, s1', hok, hhit, F, hcom, S, h, h', hm => by
    simp only [okS, Bool.and_eq_true, decide_eq_true_eq] at hok
    have n1 := wfT_n3 _ (okT_wf _ _ hok.2.1).1
    have n2 := wfT_n3 _ (okT_wf _ _ hok.2.2.2).1
    have hset : SetT ms pt := by
      cases pt with
      | par k => exact hhit k rfl
      | _ => exact True.intro
    simp only [stepF] at h h'
    split at h
    · cases h
    · rename_i v sa ha
      split at h'
      · cases h'
      · rename_i v' sa' ha'
        have hma : sa.mixed = false := by
          split at h
          · cases h
          · rename_i sb hb
            cases h
            exact find_mf hb hm
          · rename_i pl th sb hb
            split at h
            · cases h
              have h3 : (sb.mixed || meets sb pl th) = false := hm
              rw [Bool.or_eq_false_iff] at h3
              exact find_mf hb h3.1
            · cases h
        obtain ⟨e1, e2, e3, e4⟩ := (ev_k (fun _ _ _ h => h) hcom S m m t ms f f' F n2).2 _ _ _ _ ha ha' hma
        subst e1 e2 e3
        have E := (ev_k (fun _ _ _ h => h) hcom S m m pt ms f f' F n1).1
        split at h
        · cases h
        · rename_i sb hb
          cases h
          split at h'
          · cases h'
          · rename_i sb' hb'
            cases h'
            obtain ⟨q1, q2, _⟩ := E _ _ _ _ hb hb' hm
            subst q1 q2
            exact Po.refl S
          · rename_i pl' th' sb' hb'
            exact (E _ _ _ _ hb hb' hm).2.2.elim
        · rename_i pl th sb hb
          split at h
          · rename_i hlt
            cases h
            have hmc : (come pl th sb).mixed = false := hm
            have hmb : sb.mixed = false := by
              have h3 : (sb.mixed || meets sb pl th) = false := hm
              rw [Bool.or_eq_false_iff] at h3
              exact h3.1
            obtain ⟨hlv, hce⟩ := come_lv hmc
            split at h'
            · cases h'
            · rename_i sb' hb'
              exact (E _ _ _ _ hb hb' hmb).2.2.elim
            · rename_i pl' th' sb' hb'
              obtain ⟨q1, q2, fl, q3, q4⟩ := E _ _ _ _ hb hb' hmb
              subst q1 q2
              have hlv' := (S.live _ _ _ q3 hlv).1
              rw [come_ok hlv'] at h'
              rw [hce]
              split at h'
              · cases h'
                have hfl := q4 hset
                subst hfl
                refine ⟨S.set q3 hlv e4, rfl, rfl, by simp, by simp, Nat.le_refl _, Nat.le_refl _, fun b b' hb hl => ?_, fun z hz hz2 => ?_⟩
                · refine List.getElem?_set_ne fun e => ?_
                  have := (S.bij _ _ _ _ _ _ q3 hb hlv hl).2 e
                  cases this
                · exact List.getElem?_set_ne (hz2 _ _ _ q3 hlv)
              · cases h'
          · cases h
  | n + 1, .say t, i, w, ms, f, f', R, s, s', s1, s1', hok, hhit, F, hcom, S, h, h', hm => by
    simp only [okS, Bool.and_eq_true, decide_eq_true_eq] at hok
    have n2 := wfT_n3 _ (okT_wf _ _ hok.2).1
    simp only [stepF] at h h'
    split at h
    · cases h
    · rename_i v sa ha
      split at h'
      · cases h'
      · rename_i v' sa' ha'
        split at h
        · cases h
          split at h'
          · cases h'
            obtain ⟨e1, e2, e3, e4⟩ := (ev_k (fun _ _ _ h => h) hcom S m m t ms f f' F n2).2 _ _ _ _ ha ha' hm
            subst e1 e2 e3
            exact ⟨⟨S.mx, S.mx', by show sa'.said ++ _ = sa.said ++ _; rw [S.said], S.lt3, S.live, S.bij, S.bd, S.ids⟩, rfl, rfl, Nat.le_refl _, Nat.le_refl _, Nat.le_refl _, Nat.le_refl _, fun _ _ _ _ => rfl, fun _ _ _ => rfl⟩
          · cases h'
        · cases h
  | n + 1, .ite t a b, i, w, ms, f, f', R, s, s', s1, s1', hok, hhit, F, hcom, S, h, h', hm => by
    simp only [okS, Bool.and_eq_true, decide_eq_true_eq] at hok
    have n2 := wfT_n3 _ (okT_wf _ _ hok.2.1).1
    simp only [stepF] at h h'
    split at h
    · cases h
    · rename_i v sa ha
      split at h'
      · cases h'
      · rename_i v' sa' ha'
        have hma := goF_mx (fun x _ s s1 h hm => step_mx n f x s s1 h hm) h hm
        obtain ⟨e1, e2, e3, e4⟩ := (ev_k (fun _ _ _ h => h) hcom S m m t ms f f' F n2).2 _ _ _ _ ha ha' hma
        subst e1 e2 e3
        refine go_k _ _ _ _ _ (fun x hx s s' s1 s1' S h h' hm => ?_) S h h' hm
        have hb : okS (shapes p) i x (w + 1) = true ∧ ∀ k, HitS ys ks k x → ms.getD k false = true := by
          split at hx
          · exact ⟨okB_mem a hok.2.2.1 hx, fun k hk => hhit k (.inl (hitB_mem hx hk))⟩
          · exact ⟨okB_mem b hok.2.2.2 hx, fun k hk => hhit k (.inr (hitB_mem hx hk))⟩
        exact step_k W n x i (w + 1) ms f f' R s s' s1 s1' hb.1 hb.2 F hcom S h h' hm
  | n + 1, .call c ts, i, w, ms, f, f', R, s, s', s1, s1', hok, hhit, F, hcom, S, h, h', hm => by
    simp only [okS, Bool.and_eq_true, decide_eq_true_eq, List.all_eq_true] at hok
    simp only [stepF] at h h'
    split at h
    · rename_i wk ws hwk hws
      split at h
      · cases h
      · rename_i hs bs sa ha
        split at h
        · cases h
        · rename_i os sb hb
          split at h
          · cases h
          · rename_i sc hc
            split at h
            · cases h
            · rename_i ns hbk
              cases h
              split at h'
              · rename_i wk' ws' hwk' hws'
                rw [hwk] at hwk'
                cases hwk'
                split at h'
                · cases h'
                · rename_i hs' bs' sa' ha'
                  split at h'
                  · cases h'
                  · rename_i os' sb' hb'
                    split at h'
                    · cases h'
                    · rename_i sc' hc'
                      split at h'
                      · cases h'
                      · rename_i ns' hbk'
                        cases h'
                        have hmc : sc.mixed = false := hm
                        have hmb := goF_mx (fun x _ s s1 h hm => step_mx n _ x s s1 h hm) hc hmc
                        have hma : sa.mixed = false := by rw [← ownF_mx hb]; exact hmb
                        obtain ⟨L1, R1, I1, q1, q2, q3, q4, q5⟩ := handAll_k hcom S F ts ws ws' (ks c) [] R s s' sa sa' hs hs' bs bs' (HI.nil S) (fun t ht => wfT_n3 _ (okT_wf _ _ (hok.2.2.2.2 t ht)).1) (W.ww c ws ws' hws hws') (fun k t w' hk hw hg hnc => by
                          cases t with
                          | par j => exact hhit j ⟨k, ws, w', hk, hws, hw, hg, hnc⟩
                          | _ => exact True.intro) ha ha' hma
                        rw [List.nil_append] at I1
                        obtain ⟨R2, I2, p1, p2, p3⟩ := own_k wk.owns R1 sa sa' sb sb' os os' I1 hb hb'
                        have hcom2 : ComR R2 := fun v hv => p1 _ _ _ (q1 _ _ _ (hcom v hv))
                        have F2 : KFr R2 (ks c) (.mk os hs) (.mk os' hs') := .mk p2 p3 q2 fun k x x' hx hx' => (q3 k x x' hx hx').mono p1
                        have hbody := W.ok c wk hwk
                        have P := go_k wk.body sb sb' sc sc' (fun x hx s s' s1 s1' S h h' hm => step_k W n x c 0 (ks c) _ _ R2 s s' s1 s1' (okB_mem _ hbody hx) (fun k hk => W.may c wk hwk k (hitB_mem hx hk)) F2 hcom2 S h h' hm) I2.sr hc hc' hmc
                        exact back_k S I2 P q4 q5 hbk hbk'
              · cases h'
    · cases h
/-- whole runs -/
theorem run_k (W : KW p ys ys' ks) {n : Nat} {c : List Nat} {s1 s1' : Sg} (h3 : c.length = 3) (hlt : ∀ v ∈ c, v < 3) (h : runF p ys m n c = some s1) (h' : runF p ys' m n c = some s1') (hm : s1.mixed = false) : s1'.said = s1.said ∧ s1'.nums.take 3 = s1.nums.take 3 ∧ s1'.mixed = false := by
  let R0 : Rl := fun a a' fl => ∃ v, v < 3 ∧ a = (v, []) ∧ a' = (v, []) ∧ fl = true
  have hcom : ComR R0 := fun v hv => ⟨v, hv, rfl, rfl, rfl⟩
  have S0 : SR R0 ⟨c, [], [], 0, false⟩ ⟨c, [], [], 0, false⟩ := by
    refine ⟨rfl, rfl, rfl, hlt, ?_, ?_, ?_, ⟨(fun y hy => nomatch hy), (fun y hy => nomatch hy)⟩⟩
    · rintro a a' fl ⟨v, hv, rfl, rfl, rfl⟩ hl
      have hvl : v < c.length := by omega
      exact ⟨(fun y hy => nomatch hy), c[v], List.getElem?_eq_getElem hvl, List.getElem?_eq_getElem hvl⟩
    · rintro a a' fl b b' gl ⟨v, hv, rfl, rfl, rfl⟩ ⟨u, hu, rfl, rfl, rfl⟩ _ _
      exact ⟨Iff.rfl, fun _ => rfl⟩
    · rintro a a' fl ⟨v, hv, rfl, rfl, rfl⟩
      exact ⟨by dsimp only; omega, by dsimp only; omega, by simp, by simp⟩
  unfold runF at h h'
  split at h
  · cases h
  · rename_i wk hwk
    split at h
    · cases h
    · rename_i os s hs
      rw [hwk] at h'
      dsimp only at h'
      split at h'
      · cases h'
      · rename_i os' s' hs'
        obtain ⟨R1, I1, p1, p2, p3⟩ := own_k wk.owns R0 _ _ s s' os os' (HI.nil S0) hs hs'
        have hcom1 : ComR R1 := fun v hv => p1 _ _ _ (hcom v hv)
        have F : KFr R1 (ks 0) (.mk os []) (.mk os' []) := .mk p2 p3 rfl fun k x x' hx => by simp at hx
        have hbody := W.ok 0 wk hwk
        have P := go_k wk.body s s' s1 s1' (fun x hx s s' s1 s1' S h h' hm => step_k W n x 0 0 (ks 0) _ _ R1 s s' s1 s1' (okB_mem _ hbody hx) (fun k hk => W.may 0 wk hwk k (hitB_mem hx hk)) F hcom1 S h h' hm) I1.sr h h' hm
        have hlent : s1.lent = [] := by rw [P.lent, I1.lent]; rfl
        refine ⟨P.sr.said, ?_, P.sr.mx'⟩
        refine List.ext_getElem? fun j => ?_
        rw [List.getElem?_take, List.getElem?_take]
        split
        · rename_i hj
          obtain ⟨_, v, v1, v2⟩ := P.sr.live _ _ _ (hcom1 j hj) (fun y hy => by rw [hlent] at hy; cases hy)
          dsimp only at v1 v2
          rw [v1, v2]
        · rfl
end
end Hw

set_option maxRecDepth 100000
set_option maxHeartbeats 4000000
/-! KS6: what may_set tells, as flags; ways that were changed -/
namespace Hw
open PySem PySem.Spec PyProof.Rows L2 Evl
theorem knW_stab {p : List Wk} {ys : List (List Str)} {c : Nat} : ∀ {j d : Nat}, p.length - j ≤ c → c < p.length → j + d ≤ p.length → knW p ys (j + d) c = knW p ys j c
  | j, 0, _, _, _ => rfl
  | j, d + 1, h1, h2, h3 => by
    show (if c = p.length - 1 - (j + d) then _ else knW p ys (j + d) c) = _
    rw [if_neg (by omega)]
    exact knW_stab h1 h2 (by omega)
theorem knW_row {p : List Wk} {ys : List (List Str)} {a : Nat} {w : Wk} (ha : p[a]? = some w) : knW p ys p.length a = some ((List.range w.params).map fun k => setsB ys (knW p ys (p.length - 1 - a)) k w.body) := by
  have hl : a < p.length := (List.getElem?_eq_some_iff.mp ha).1
  have e : p.length = (p.length - 1 - a + 1) + a := by omega
  have h := knW_stab (p := p) (ys := ys) (c := a) (j := p.length - 1 - a + 1) (d := a) (by omega) hl (by omega)
  rw [← e] at h
  rw [h]
  show (if a = p.length - 1 - (p.length - 1 - a) then _ else _) = _
  rw [if_pos (by omega)]
  have : shP (shapes p) a = w.params := by simp [shP, shapes, List.getD, ha]
  rw [this, ha]
  rfl
/-- the flags -/
def ksM (p : List Wk) (ys : List (List Str)) (c : Nat) : List Bool := (knW p ys p.length c).getD []
theorem okT_par {ps os k j : Nat} (h : okT ps os (.par k) j = true) : k < ps := by
  have := (okT_wf _ _ h).1
  simpa [wfT] using this
mutual
theorem hitS_sets {p : List Wk} {ys : List (List Str)} {a : Nat} (hl : a < p.length) {k : Nat} : ∀ (x : Stm) (w : Nat), okS (shapes p) a x w = true → HitS ys (ksM p ys) k x → k < shP (shapes p) a ∧ setsS ys (knW p ys (p.length - 1 - a)) k x = true
  | .set pt t, w, h, hh => by
    simp only [okS, Bool.and_eq_true, decide_eq_true_eq] at h
    simp only [HitS] at hh
    subst hh
    exact ⟨okT_par h.2.1, by simp [setsS]⟩
  | .say t, w, h, hh => hh.elim
  | .ite t b c, w, h, hh => by
    simp only [okS, Bool.and_eq_true, decide_eq_true_eq] at h
    simp only [setsS, Bool.or_eq_true]
    rcases hh with hh | hh
    · have := hitB_sets hl b (w + 1) h.2.2.1 hh
      exact ⟨this.1, .inl this.2⟩
    · have := hitB_sets hl c (w + 1) h.2.2.2 hh
      exact ⟨this.1, .inr this.2⟩
  | .call c ts, w, h, hh => by
    simp only [okS, Bool.and_eq_true, decide_eq_true_eq, List.all_eq_true] at h
    obtain ⟨i, ws, w', h1, h2, h3, h4, h5⟩ := hh
    have hc : c < p.length := by simpa [shapes] using h.2.1
    refine ⟨okT_par (h.2.2.2.2 _ (List.mem_of_getElem? h1)), ?_⟩
    have e : knW p ys p.length c = knW p ys (p.length - 1 - a) c := by
      have := knW_stab (p := p) (ys := ys) (c := c) (j := p.length - 1 - a) (d := a + 1) (by omega) hc (by omega)
      rw [← this]
      congr 1
      omega
    simp only [setsS, List.any_eq_true, List.mem_range]
    refine ⟨i, (List.getElem?_eq_some_iff.mp h1).1, ?_⟩
    have h4' : ((knW p ys (p.length - 1 - a) c).getD []).getD i false = true := by
      rw [← e]; exact h4
    simp only [hitC, h4', Bool.true_and]
    have g1 : (ys.getD c []).getD i "copy" = w' := by simp [List.getD, h2, h3]
    have g2 : ts.getD i (.num 0) = .par k := by simp [List.getD, h1]
    rw [g1, g2]
    simp [PyData.eqv, h5]
theorem hitB_sets {p : List Wk} {ys : List (List Str)} {a : Nat} (hl : a < p.length) {k : Nat} : ∀ (b : List Stm) (w : Nat), okB (shapes p) a b w = true → HitB ys (ksM p ys) k b → k < shP (shapes p) a ∧ setsB ys (knW p ys (p.length - 1 - a)) k b = true
  | [], w, h, hh => hh.elim
  | x :: r, w, h, hh => by
    simp only [okB, Bool.and_eq_true] at h
    simp only [setsB, Bool.or_eq_true]
    rcases hh with hh | hh
    · have := hitS_sets hl x w h.1 hh
      exact ⟨this.1, .inl this.2⟩
    · have := hitB_sets hl r w h.2 hh
      exact ⟨this.1, .inr this.2⟩
end
/-- one way, changed -/
def ChW (g : Bool) (w w' : Str) : Prop := w' = w ∨ ((w = "place" ∨ w = "back") ∧ (w' = "place" ∨ w' = "back" ∨ (w' = "copy" ∧ g = false)))
def ChY (p : List Wk) (ys ys' : List (List Str)) : Prop := ys'.length = ys.length ∧ ∀ (c : Nat) (ws ws' : List Str), ys[c]? = some ws → ys'[c]? = some ws' → ws'.length = ws.length ∧ ∀ (k : Nat) (w w' : Str), ws[k]? = some w → ws'[k]? = some w' → ChW ((ksM p ys c).getD k false) w w'
theorem kw_of {p : List Wk} {ys ys' : List (List Str)} (hok : okP p = true) (hw : ∀ ws ∈ ys, ∀ w ∈ ws, w ∈ (["copy", "place", "back", "want"] : List Str)) (h : ChY p ys ys') : KW p ys ys' (ksM p ys) := by
  refine ⟨fun c ws ws' h1 h2 k w w' h3 h4 => ?_, fun c wk hc k hk => ?_, fun c wk hc => (okP_get hok hc).2.2.1⟩
  · have hm := hw ws (List.mem_of_getElem? h1) w (List.mem_of_getElem? h3)
    rcases (h.2 c ws ws' h1 h2).2 k w w' h3 h4 with e | e
    · subst e
      simp only [List.mem_cons, List.not_mem_nil, or_false] at hm
      rcases hm with e | e | e | e
      · exact .inl ⟨e, e⟩
      · exact .inr (.inr ⟨.inl e, .inl e⟩)
      · exact .inr (.inr ⟨.inr e, .inr (.inl e)⟩)
      · exact .inr (.inl ⟨e, e⟩)
    · exact .inr (.inr e)
  · have hl : c < p.length := (List.getElem?_eq_some_iff.mp hc).1
    have g := hitB_sets hl wk.body 0 (okP_get hok hc).2.2.1 hk
    have e : shP (shapes p) c = wk.params := by simp [shP, shapes, List.getD, hc]
    have hkp : k < wk.params := by rw [← e]; exact g.1
    unfold ksM
    rw [knW_row hc]
    simp [List.getD, hkp, g.2]
/-- ways changed where that may be: all comes out alike -/
theorem changed_k {p : List Wk} {ys ys' : List (List Str)} (R : PrA p ys) (R' : PrA p ys') (hw : ∀ ws ∈ ys, ∀ w ∈ ws, w ∈ (["copy", "place", "back", "want"] : List Str)) (h : ChY p ys ys') (hm : mixD p ys = .none) :
    (∀ c ∈ allCells, outN p ys' c = outN p ys c) ∧ partD p ys ys' = .none ∧ mixD p ys' = .none := by
  have W := kw_of R.r.ok hw h
  have key : ∀ c ∈ allCells, outN p ys' c = outN p ys c ∧ (runS p ys' c).mixed = false := fun c hc => by
    have hmx := (firstD_eq_none.mp hm) c hc
    obtain ⟨h1, h2, h3⟩ := run_k W (cells_ok c hc).1 (cells_ok c hc).2 (runS_ok R hc).1 (runS_ok R' hc).1 hmx
    exact ⟨by unfold outN; rw [h1, h2], h3⟩
  refine ⟨fun c hc => (key c hc).1, firstD_eq_none.mpr fun c hc => ?_, firstD_eq_none.mpr fun c hc => (key c hc).2⟩
  rw [difB_ne, (key c hc).1]
  simp
end Hw

set_option maxRecDepth 100000
set_option maxHeartbeats 4000000
/-! LA07: the law -/
namespace Hw
open PySem PySem.Spec PyProof.Rows L2 Evl
local macro_rules | `(tactic| walk_at "dd") => `(tactic| first | rfl | decide | (simp; done) | omega)
local macro_rules | `(tactic| walk_at "td") => `(tactic| first | assumption | exact Td.int _ | exact Td.bl _ | exact Td.str _ | exact Td.non | exact Td.tup (by assumption) (by assumption))
local macro_rules | `(tactic| walk_at "ev") => `(tactic| first
  | exact ed_ci | exact ed_cs | exact ed_cb | exact ed_cn
  | (apply ed_cg; assumption)
  | (apply ed_var; (rfl); (walk_at "td"))
  | (apply ed_ixT; (walk_at "ev"); (walk_at "ev"); (first | rfl | assumption))
  | (apply ed_rowI; (rfl); (assumption); (walk_at "ev"); (rfl))
  | (apply ed_ixL; (apply EvDL.rd; walk_at "edl"); (walk_at "ev"); (rfl))
  | (apply ed_intb; (walk_at "ev"))
  | (apply ed_len; walk_at "ev")
  | (apply ed_lenV; (apply ev_rowR; (rfl); (assumption); (walk_at "ev"); (rfl)); (assumption))
  | (apply ed_Ii; (walk_at "ev"); (walk_at "ev"); (walk_at "cc"))
  | (apply ed_isi; (walk_at "ev"); (rfl))
  | (apply ed_I0i; (walk_at "ev"); (walk_at "ev"))
  | (apply ed_I0b; (walk_at "ev"); (walk_at "ev"))
  | (apply ed_eqi; (walk_at "ev"); (walk_at "ev"))
  | (apply ed_nei; (walk_at "ev"); (walk_at "ev"))
  | (apply ed_andF; walk_at "ev")
  | (apply ed_andV; (walk_at "ev"); (intro _; walk_at "ev"))
  | (apply ed_orT; walk_at "ev")
  | (apply ed_orV; (walk_at "ev"); (intro _; walk_at "ev"))
  | (apply ed_notT; walk_at "ev")
  | (apply ed_notF; walk_at "ev")
  | (apply ed_notV; walk_at "ev")
  | (apply ed_chain; (walk_at "ev"); (walk_at "ev"); (intro _; walk_at "ev"))
  | (apply ed_eqS; (walk_at "ev"); (walk_at "ev"); (walk_at "bb"); (walk_at "bb"))
  | (apply ed_neS; (walk_at "ev"); (walk_at "ev"); (walk_at "bb"); (walk_at "bb"))
  | (apply ed_inT; (walk_at "ev"); (walk_at "ev"); (rfl); (rfl))
  | (apply ed_niT; (walk_at "ev"); (walk_at "ev"); (rfl); (rfl))
  | (apply ed_tup; (walk_at "eva"); (walk_at "bb"))
  | (apply ed_sl; (walk_at "ev"); (walk_at "evo"); (walk_at "evo"))
  | (apply ed_eqN; (apply EvDL.rd; walk_at "edl"); (walk_at "edl"); (walk_at "bb"))
  | (apply ed_neN; (apply EvDL.rd; walk_at "edl"); (walk_at "edl"); (walk_at "bb"))
  | (apply ed_ixL; (apply edr_var; (rfl); (assumption); (assumption)); (walk_at "ev"); (first | rfl | assumption))
  | (apply ed_lenL; (apply edr_var; (rfl); (assumption); (assumption)))
  | (apply ed_call; (walk_at "eva"); (walk_at "post")))
local macro_rules | `(tactic| walk_at "edl") => `(tactic| first
  | assumption
  | (apply edl_lst; (walk_at "eva"); (walk_at "bb")))
local macro_rules | `(tactic| walk_at "eva") => `(tactic| first
  | exact eda_nil
  | (apply eda_cons; (walk_at "ev"); (walk_at "eva")))
local macro_rules | `(tactic| walk_at "evo") => `(tactic| first
  | exact eok_none
  | (apply eok_some; walk_at "ev"))
local macro_rules | `(tactic| walk_at "bb") => `(tactic| first | rfl | assumption | (simp; done) | (simp; omega) | decide +kernel)
local macro_rules | `(tactic| walk_at "et") => `(tactic| first
  | exact tk_yes
  | (apply tk_andF; walk_at "et")
  | (apply tk_and; (walk_at "et"); (intro _; walk_at "et"))
  | (apply tk_orT; walk_at "et")
  | (apply tk_or; (walk_at "et"); (intro _; walk_at "et"))
  | (apply tk_notT; walk_at "et")
  | (apply tk_notF; walk_at "et")
  | (apply tk_not; walk_at "et")
  | (apply tk_v; walk_at "ev")
  | (apply tk_vB; walk_at "ev"))
local macro_rules | `(tactic| walk_at "if") => `(tactic| first
  | (apply pst_whenF; (walk_at "et"); (walk_at "bb"))
  | (apply pst_whenT; (walk_at "et"); (walk_at "bb")))
local macro_rules | `(tactic| walk_at "post") => `(tactic| first | assumption | exact ⟨_, _, rfl, rfl⟩ | exact ⟨_, _, _, _, rfl, by omega, by omega, rfl⟩ | exact ⟨_, _, _, 0, rfl, by omega, by omega, rfl⟩)
local macro_rules | `(tactic| walk_at "cc") => `(tactic| first | assumption | decide | omega | (refine ⟨?_, ?_⟩ <;> first | decide | omega) | (exact Or.inl (by constructor <;> omega)))

abbrev W4k : List Str := ["copy", "place", "back", "want"]
def spCh (K : PySem.W.Frag) : Sp := fun vs H Q _ => ∃ (r s : Addr) (ns : List Int) (pw yw mw : V) (p : List Wk) (ys : List (List Str)), vs = [.ref r, pw, yw, mw] ∧ RowAt K s ns H r ∧ ns.length ≤ 63 ∧ Td K H pw (encP p) ∧ Td K H yw (encY ys) ∧ Td K H mw (encBs (mayL p ys)) ∧ okP p = true ∧ okY p ys = true ∧ smY ys ∧ (∀ y ∈ ys, ∀ z ∈ y, z ∈ W4k) ∧
  ∀ ys' x H', ChY p ys ys' → (∀ y ∈ ys', ∀ z ∈ y, z ∈ W4k) → Fr [r] H H' → RowAt K s ns H' r → Td K H' x (encY ys') → Q x H'
theorem isLent_or {w : Str} (h : isLent w = true) : w = "place" ∨ w = "back" := by
  simp only [isLent, List.any_cons, List.any_nil, Bool.or_false, Bool.or_eq_true, PyData.eqv, decide_eq_true_eq, beq_iff_eq] at h
  rcases h with h | h
  · exact .inl h.symm
  · exact .inr h.symm
theorem isW_eq {z w : Str} (h : isW z w = true) : w = z := by
  simpa [isW, PyData.eqv] using h
theorem ksM_get {p : List Wk} {ys : List (List Str)} {i k : Nat} {ws : List Str} {w : Str} (hoy : okY p ys = true) (hi : ys[i]? = some ws) (hk : ws[k]? = some w) : (mayL p ys)[i]? = some (ksM p ys i) ∧ (ksM p ys i)[k]? = some ((ksM p ys i).getD k false) := by
  have g := okY_get hoy
  have hil : i < p.length := by have := (List.getElem?_eq_some_iff.mp hi).1; omega
  have hpi : p[i]? = some p[i] := List.getElem?_eq_getElem hil
  have hlen := g.2 i ws hi
  have hkl := (List.getElem?_eq_some_iff.mp hk).1
  refine ⟨?_, ?_⟩
  · unfold mayL ksM
    rw [List.getElem?_map, List.getElem?_range hil]
    rfl
  · have e : (ksM p ys i).length = shP (shapes p) i := by
      unfold ksM
      rw [knW_row hpi]
      have : shP (shapes p) i = p[i].params := by simp [shP, shapes, List.getD, hpi]
      simp [this]
    have hkl2 : k < (ksM p ys i).length := by omega
    rw [List.getElem?_eq_getElem hkl2]
    simp [List.getD, hkl2]
theorem firstD_td {K : PySem.W.Frag} {H : Hp} {v : V} {f : List Nat → Bool} (h : Td K H v (firstD f)) : (firstD f = .none → v = .non) ∧ (firstD f ≠ .none → v ≠ .non) := by
  refine ⟨fun e => ?_, fun e e2 => ?_⟩
  · rw [e] at h
    cases h
    rfl
  · subst e2
    generalize firstD f = d at *
    cases h
    exact e rfl
section
variable {K : PySem.W.Frag} {σ : L2.St} {H H' : Hp} {D : Ends} {t u : TT} {te : TE}
theorem w_or {Q : Bool → Hp → Prop} (h : t σ H fun c H1 => if c = true then Q true H1 else u σ H1 Q) : tOr t u σ H Q := h
theorem w_notN {Q : VK} (h : te σ H fun x H1 => Q (.bl (!decide (x = .non))) H1) : tNotN te σ H Q := h
theorem w_isN {Q : VK} (h : te σ H fun x H1 => Q (.bl (decide (x = .non))) H1) : tIsN te σ H Q := h
theorem outD_depth3 (p : List Wk) (ys : List (List Str)) (c : List Nat) : (outD p ys c).depth ≤ 20 := by
  have h : ∀ ns : List Nat, PyData.depthAll (nD ns) ≤ 0 := fun ns => by
    induction ns with
    | nil => simp [nD, PyData.depthAll]
    | cons a r ih =>
      have : nD (a :: r) = .int (a : Int) :: nD r := rfl
      rw [this]
      simp only [PyData.depthAll, PyData.depth]
      omega
  have h1 := h (runS p ys c).said
  have h2 := h ((runS p ys c).nums.take 3)
  simp only [outD, PyData.depth, PyData.depthAll]
  omega
end
section
variable {P : Program} {w : World} {K : PySem.W.Frag} {mg : Str → Option Value} {base : Heap} (T : Tx K mg)
include T
theorem ok_changed (GT : Fn__law_taken T P w base CX0 1 (spTaken K)) : Fn__law_changed T P w base CX0 2 (spCh K) := by
  have G__law_taken := GT
  refine T.F__law_changed.ok sc__law_changed (fun vs H Q E h => by obtain ⟨_, _, _, _, _, _, _, _, rfl, _⟩ := h; rfl) fun cdv A outer s0 H vs Q E hr h => ?_
  obtain ⟨r, s, ns, pw, yw, mw, p, ys, rfl, R, hn, tp, ty, tm, hok, hoy, hsy, hw4, k⟩ := h
  refine ⟨_, (pss_cons (ps_set (i := 4) sc__law_changed.nd rfl (Or.inl rfl) (pe_lst pa_nil))
  (pss_cons (ps_for (passes_of rfl) rfl (pi_range1 rfl T.b_range (pa_cons (pe_callB (kc_len K) rfl T.b_len PySem.boot_len (pa_cons (pv 1) pa_nil)) pa_nil)) (pg_name (i := 5) sc__law_changed.nd rfl (Or.inl rfl))
    (pss_cons (ps_set (i := 6) sc__law_changed.nd rfl (Or.inl rfl) (pe_lst pa_nil))
    (pss_cons (ps_for (passes_of rfl) rfl (pi_range1 rfl T.b_range (pa_cons (pe_callB (kc_len K) rfl T.b_len PySem.boot_len (pa_cons (pe_ix (kix_tup K) (pv 2) (pv 5) (fun _ _ => rfl)) pa_nil)) pa_nil)) (pg_name (i := 7) sc__law_changed.nd rfl (Or.inl rfl))
      (pss_cons (ps_set (i := 8) sc__law_changed.nd rfl (Or.inl rfl) (pe_ix (kix_tup K) (pe_ix (kix_tup K) (pv 2) (pv 5) (fun _ _ => rfl)) (pv 7) (fun _ _ => rfl)))
      (pss_cons (ps_if (PW.pt (pw_and (pt_cmpR (kop_in K) (pv 8) (pe_tup (pa_cons pe_str (pa_cons pe_str pa_nil))) rfl) (pw_and1 (pt_cmpR op_eq (pe_call G__law_taken (hr.mono (by omega)) (by rfl) T.g__law_taken T.k__law_taken T.bd__law_taken .nil pass0 (pa_cons (pv 0) (pa_cons pe_int pa_nil))) pe_int (nomark _)))))
        (pss_cons (ps_set (i := 8) sc__law_changed.nd rfl (Or.inl rfl) (pe_ix (kix_list K) (pe_lst (pa_cons pe_str (pa_cons pe_str pa_nil))) (pe_callTy kc_int rfl T.b_int (by decide +kernel) (pa_cons (pe_cmpR (kop_eq K hr.units) (pv 8) pe_str (nomark _)) pa_nil)) (fun _ _ => rfl)))
        (pss_one (ps_if (PW.pt (pw_and (pt_not (pt_val (pe_ix (kix_tup K) (pe_ix (kix_tup K) (pv 3) (pv 5) (fun _ _ => rfl)) (pv 7) (fun _ _ => rfl)))) (pw_and1 (pt_cmpR op_eq (pe_call G__law_taken (hr.mono (by omega)) (by rfl) T.g__law_taken T.k__law_taken T.bd__law_taken .nil pass0 (pa_cons (pv 0) (pa_cons pe_int pa_nil))) pe_int (nomark _)))))
          (pss_one (ps_set (i := 8) sc__law_changed.nd rfl (Or.inl rfl) pe_str))
          pss_nil)))
        pss_nil)
      (pss_one (ps_expr (pe_bm PySem.F.plainAttrs_list PySem.F.slot_list_append PySem.F.type_list_append mt_append (pv 6) (pa_cons (pv 8) pa_nil)))))))
    (pss_one (ps_expr (pe_bm PySem.F.plainAttrs_list PySem.F.slot_list_append PySem.F.type_list_append mt_append (pv 4) (pa_cons (pe_callTy (kc_tuple K) rfl T.b_tuple (by decide +kernel) (pa_cons (pv 6) pa_nil)) pa_nil)))))))
  (pss_one (ps_ret (pe_callTy (kc_tuple K) rfl T.b_tuple (by decide +kernel) (pa_cons (pv 4) pa_nil)))))), ?_⟩
  have hl := okP_len hok
  have hyl := (okY_get hoy).1
  refine w_seq (w_asg (w_lst (w_nil ⟨Nat.zero_le _, fun fl hfl => ?_⟩)))
  have offf := R.off hfl
  have e1 : Ex H (upd H fl (.lst [])) := Ex.new hfl
  have R1 := R.ex e1
  have hf1 : upd H fl (.lst []) fl = some (.lst []) := upd_same
  have tp1 := tp.ex e1
  have ty1 : Td K (upd H fl (.lst [])) yw (.tuple (ys.map fun y => .tuple (y.map PyData.str))) := ty.ex e1
  have tm1 : Td K (upd H fl (.lst [])) mw (.tuple ((mayL p ys).map fun bs => .tuple (bs.map PyData.bool))) := tm.ex e1
  dsimp only
  generalize upd H fl (.lst []) = H1 at *
  refine w_seq (w_forR (K := K) (n := p.length) (eda_cons (ed_is (ed_len (ds := p.map encW) (ed_var rfl tp1)) (by rw [List.length_map])) eda_nil) (by omega) (fun i σ' H' => ∃ (u5 u6 u7 u8 : Option V) (yn : List (List Str)) (xs : List V), σ' = [some (.ref r), some pw, some yw, some mw, some (.ref fl), u5, u6, u7, u8] ∧ H' fl = some (.lst xs) ∧ TdAll K H' xs (yn.map fun y => .tuple (y.map PyData.str)) ∧ yn.length = i ∧ (∀ (c : Nat) (ws ws' : List Str), ys[c]? = some ws → yn[c]? = some ws' → ws'.length = ws.length ∧ ∀ (k : Nat) (w w' : Str), ws[k]? = some w → ws'[k]? = some w' → ChW ((ksM p ys c).getD k false) w w') ∧ (∀ y ∈ yn, ∀ z ∈ y, z ∈ W4k) ∧ Fr [fl, r] H1 H' ∧ RowAt K s ns H' r) ?_ ?_ ?_)
  · intro H2 e2
    exact ⟨_, _, _, _, [], [], rfl, e2 _ _ hf1, .nil, rfl, (fun c ws ws' _ h => by simp at h), (fun y hy => by cases hy), Fr.of e2, R1.ex e2⟩
  · rintro i σ' H2 hi ⟨u5, u6, u7, u8, yn, xs, rfl, hx2, tx2, hyn, hch, h4, f2, R2⟩
    have kp2 : Keep K H1 H2 := f2.keep fun a ha => by
      simp only [List.mem_cons, List.not_mem_nil, or_false] at ha
      rcases ha with e | e <;> subst e
      · exact ⟨_, hf1, True.intro⟩
      · exact R1.mu
    dsimp only
    refine w_seq (w_asg (w_lst (w_nil ⟨Nat.zero_le _, fun sl hsl => ?_⟩)))
    have offs := R2.off hsl
    have hfs : fl ≠ sl := fun e => by rw [e, hsl] at hx2; cases hx2
    have e3 : Ex H2 (upd H2 sl (.lst [])) := Ex.new hsl
    have R3 := R2.ex e3
    have hs3 : upd H2 sl (.lst []) sl = some (.lst []) := upd_same
    have hx3 := e3 _ _ hx2
    have tx3 := tx2.ex e3
    have ty3 := (ty1.kp kp2).ex e3
    have tm3 := (tm1.kp kp2).ex e3
    have f3 : Fr [fl, r] H1 (upd H2 sl (.lst [])) := f2.trans (Fr.of e3)
    dsimp only
    generalize upd H2 sl (.lst []) = H3 at *
    have hwi : ys[i]? = some (ys[i]'(by omega)) := List.getElem?_eq_getElem _
    generalize ys[i]'(by omega) = ws at hwi
    have hwl := (hsy.2 ws (List.mem_of_getElem? hwi)).1
    refine w_seq (w_forR (K := K) (n := ws.length) (eda_cons (ed_is (ed_len (ds := ws.map PyData.str) (ed_ixT (i := (i : Int)) (ds := ys.map fun y => .tuple (y.map PyData.str)) (d := .tuple (ws.map PyData.str)) (ed_var rfl ty3) (ed_var rfl (.int _)) (atI_nat (by rw [List.getElem?_map, hwi]; rfl)))) (by rw [List.length_map])) eda_nil) (by omega) (fun j σ' H' => ∃ (u7 u8 : Option V) (yl : List Str), σ' = [some (.ref r), some pw, some yw, some mw, some (.ref fl), some (.int (i : Int)), some (.ref sl), u7, u8] ∧ H' sl = some (.lst (yl.map V.str)) ∧ yl.length = j ∧ (∀ (k : Nat) (w w' : Str), ws[k]? = some w → yl[k]? = some w' → ChW ((ksM p ys i).getD k false) w w') ∧ (∀ z ∈ yl, z ∈ W4k) ∧ Fr [sl, r] H3 H' ∧ RowAt K s ns H' r) ?_ ?_ ?_)
    · intro H4 e4
      exact ⟨_, _, [], rfl, e4 _ _ hs3, rfl, (fun k w w' _ h => by simp at h), (fun z hz => by cases hz), Fr.of e4, R3.ex e4⟩
    · rintro j σ' H4 hj ⟨u7, u8, yl, rfl, hx4, hyl4, hc4, h44, f4, R4⟩
      have k34 : Keep K H3 H4 := f4.keep fun a ha => by
        simp only [List.mem_cons, List.not_mem_nil, or_false] at ha
        rcases ha with e | e <;> subst e
        · exact ⟨_, hs3, True.intro⟩
        · exact R3.mu
      have ty4 := ty3.kp k34
      have tm4 := tm3.kp k34
      have hwj : ws[j]? = some ws[j] := List.getElem?_eq_getElem hj
      generalize ws[j] = w at hwj
      obtain ⟨hm1, hm2⟩ := ksM_get hoy hwi hwj
      have hww := hw4 ws (List.mem_of_getElem? hwi) w (List.mem_of_getElem? hwj)
      have hlay := (hsy.2 ws (List.mem_of_getElem? hwi)).2 w (List.mem_of_getElem? hwj)
      dsimp only
      refine w_seq (w_asg (w_d (K := K) (d := .str w) (ed_ixT (i := (j : Int)) (ds := ws.map PyData.str) (ed_ixT (i := (i : Int)) (ds := ys.map fun y => .tuple (y.map PyData.str)) (d := .tuple (ws.map PyData.str)) (ed_var rfl ty4) (ed_var rfl (.int _)) (atI_nat (by rw [List.getElem?_map, hwi]; rfl))) (ed_var rfl (.int _)) (atI_nat (by rw [List.getElem?_map, hwj]; rfl))) fun v H5 e5 tv => ?_))
      cases tv
      have R5 := R4.ex e5
      have tm5 := tm4.ex e5
      have hx5 := e5 _ _ hx4
      dsimp only
      refine seq_cut (fun σ' H' => ∃ w2 : Str, σ' = [some (.ref r), some pw, some yw, some mw, some (.ref fl), some (.int (i : Int)), some (.ref sl), some (.int (j : Int)), some (.str w2)] ∧ ChW ((ksM p ys i).getD j false) w w2 ∧ w2 ∈ W4k ∧ Fr [r] H5 H' ∧ RowAt K s ns H' r) ?_ ?_
      · rintro σ' H6 ⟨w2, rfl, hcw, hw2, f6, R6⟩
        have hx6 := f6 _ _ (by simpa using offs.1) hx5
        refine w_app rfl hx6 (w_v rfl ⟨yl.map V.str, hx6, by rw [List.length_map]; exact sz_lt (by omega), _, _, yl ++ [w2], rfl, by rw [upd_same, List.map_append]; rfl, by simp [hyl4], fun k a a' ha ha' => ?_, fun z hz => ?_, ?_, R6.updo offs⟩)
        · by_cases hk : k < yl.length
          · rw [List.getElem?_append_left hk] at ha'
            exact hc4 k a a' ha ha'
          · have hkl := (List.getElem?_eq_some_iff.mp ha').1
            rw [List.length_append, List.length_singleton] at hkl
            have : k = j := by omega
            subst this
            rw [List.getElem?_append_right (by omega), hyl4] at ha'
            simp at ha'
            subst ha'
            rw [hwj] at ha
            cases ha
            exact hcw
        · rcases List.mem_append.mp hz with hz | hz
          · exact h44 z hz
          · rw [List.mem_singleton] at hz
            rw [hz]
            exact hw2
        · exact ((f4.trans (Fr.of e5)).trans (f6.sub (by simp))).trans (Fr.upd (by simp))
      · intro N hN
        dsimp only
        refine w_ifs (w_and (w_t (K := K) (b := isLent w) (tk_v (ed_is (ed_inT (es := [.str "place", .str "back"]) (ed_var rfl (.str _)) (ed_tup (eda_cons ed_cs (eda_cons ed_cs eda_nil)) (by simp)) rfl rfl) (by simp [isLent]))) fun H6 e6 => ?_))
        have R6 := R5.ex e6
        cases hb : isLent w with
        | false => exact ifF rfl (ifF rfl (w_next (hN _ _ ⟨w, rfl, .inl rfl, hww, Fr.of e6, R6⟩)))
        | true =>
          have hpb := isLent_or hb
          refine ifT rfl (w_test (w_op (w_taken rfl R6 hn (m := 2) ed_ci (by decide) (by decide) fun kk H7 hkk f7 R7 => w_c ⟨rfl, _, rfl, ?_⟩)))
          by_cases hk1 : decide (V.int (kk : Int) = V.int 1) = true
          · rw [if_pos hk1]
            have f57 : Fr [r] H5 H7 := (Fr.of e6).trans f7
            refine w_seq (w_asg (w_d (K := K) (d := .str (if isW "place" w then "back" else "place")) (ed_ixL (ds := [.str "place", .str "back"]) (i := if isW "place" w then 1 else 0) (EvDL.rd (edl_lst (eda_cons ed_cs (eda_cons ed_cs eda_nil)) (by decide))) (ed_intb (b := isW "place" w) (ed_is (ed_eqS (ed_var rfl (.str _)) ed_cs hlay (by decide +kernel)) rfl)) (by cases isW "place" w <;> rfl)) fun v H8 e8 tv => ?_))
            cases tv
            have R8 := R7.ex e8
            have tm8 := (((tm5.ex e6).kp (R6.keep f7))).ex e8
            have hc8 : ChW ((ksM p ys i).getD j false) w (if isW "place" w = true then "back" else "place") := by
              refine .inr ⟨hpb, ?_⟩
              cases isW "place" w
              · exact .inl rfl
              · exact .inr (.inl rfl)
            have hm8 : (if isW "place" w = true then ("back" : Str) else "place") ∈ W4k := by
              cases isW "place" w <;> simp
            dsimp only
            refine w_ifs (w_and (w_t (K := K) (b := !((ksM p ys i).getD j false)) (tk_not (tk_vB (ed_ixT (i := (j : Int)) (ds := (ksM p ys i).map PyData.bool) (ed_ixT (i := (i : Int)) (ds := (mayL p ys).map fun bs => .tuple (bs.map PyData.bool)) (d := .tuple ((ksM p ys i).map PyData.bool)) (ed_var rfl tm8) (ed_var rfl (.int _)) (atI_nat (by rw [List.getElem?_map, hm1]; rfl))) (ed_var rfl (.int _)) (atI_nat (by rw [List.getElem?_map, hm2]; rfl))))) fun H9 e9 => ?_))
            have R9 := R8.ex e9
            have f59 : Fr [r] H5 H9 := (f57.trans (Fr.of e8)).trans (Fr.of e9)
            cases hg : (ksM p ys i).getD j false with
            | true => exact ifF rfl (ifF rfl (w_next (hN _ _ ⟨_, rfl, hc8, hm8, f59, R9⟩)))
            | false =>
              refine ifT rfl (w_test (w_op (w_taken rfl R9 hn (m := 2) ed_ci (by decide) (by decide) fun k2 H10 hk2 f10 R10 => w_c ⟨rfl, _, rfl, ?_⟩)))
              by_cases hk3 : decide (V.int (k2 : Int) = V.int 1) = true
              · rw [if_pos hk3]
                exact w_asg (w_c (hN _ _ ⟨"copy", rfl, .inr ⟨hpb, .inr (.inr ⟨rfl, hg⟩)⟩, by simp, f59.trans f10, R10⟩))
              · rw [if_neg hk3]
                exact w_next (hN _ _ ⟨_, rfl, hc8, hm8, f59.trans f10, R10⟩)
          · rw [if_neg hk1]
            exact w_next (hN _ _ ⟨w, rfl, .inl rfl, hww, (Fr.of e6).trans f7, R7⟩)
    · rintro σ' H4 ⟨u7, u8, yl, rfl, hx4, hyl4, hc4, h44, f4, R4⟩
      have k34 : Keep K H3 H4 := f4.keep fun a ha => by
        simp only [List.mem_cons, List.not_mem_nil, or_false] at ha
        rcases ha with e | e <;> subst e
        · exact ⟨_, hs3, True.intro⟩
        · exact R3.mu
      have hxf := f4 _ _ (by simp only [List.mem_cons, List.not_mem_nil, or_false, not_or]; exact ⟨hfs, offf.1⟩) hx3
      have tx4 := tx3.kp k34
      have htl := tx4.length
      rw [List.length_map] at htl
      dsimp only
      refine w_app rfl hxf (w_tupl (w_v rfl (tupl_go hx4 fun l hl2 => ?_)))
      have e5 : Ex H4 (upd H4 l (.tup (yl.map V.str))) := Ex.new hl2
      have t5 : Td K (upd H4 l (.tup (yl.map V.str))) (.ref l) (.tuple (yl.map PyData.str)) := by
        refine .tup (SqT.of upd_same) ?_
        have g : ∀ (H : Hp) (y : List Str), TdAll K H (y.map V.str) (y.map PyData.str) := by
          intro H y
          induction y with
          | nil => exact .nil
          | cons a b ih => exact .cons (.str _) ih
        exact g _ yl
      have hx5 := e5 _ _ hxf
      have tx5 := tx4.ex e5
      have R5 := R4.ex e5
      have f5 : Fr [sl, r] H3 (upd H4 l (.tup (yl.map V.str))) := f4.trans (Fr.of e5)
      dsimp only
      generalize upd H4 l (.tup (yl.map V.str)) = H5 at *
      have kq : Keep K H5 (upd H5 fl (.lst (xs ++ [.ref l]))) := Keep.upd hx5 True.intro
      have f15 : Fr [r] H2 H5 := Fr.fresh ((Fr.of e3 : Fr [sl, r] H2 H3).trans f5) hsl
      refine ⟨xs, hx5, sz_lt (by omega), _, _, _, _, yn ++ [yl], xs ++ [.ref l], rfl, upd_same, ?_, by simp [hyn], fun c a a' ha ha' => ?_, fun y hy => ?_, ?_, R5.updo offf⟩
      · rw [List.map_append]
        exact (tx5.kp kq).snoc (t5.kp kq)
      · by_cases hc : c < yn.length
        · rw [List.getElem?_append_left hc] at ha'
          exact hch c a a' ha ha'
        · have hcl := (List.getElem?_eq_some_iff.mp ha').1
          rw [List.length_append, List.length_singleton] at hcl
          have : c = i := by omega
          subst this
          rw [List.getElem?_append_right (by omega), hyn] at ha'
          simp at ha'
          subst ha'
          rw [hwi] at ha
          cases ha
          exact ⟨hyl4, hc4⟩
      · rcases List.mem_append.mp hy with hy | hy
        · exact h4 y hy
        · rw [List.mem_singleton] at hy
          rw [hy]
          exact h44
      · exact (f2.trans (f15.sub (by simp))).trans (Fr.upd (by simp))
  · rintro σ' H2 ⟨u5, u6, u7, u8, yn, xs, rfl, hx2, tx2, hyn, hch, h4, f2, R2⟩
    dsimp only
    exact w_ret (w_tupl (w_v rfl (tupl_go hx2 fun l hl2 => k yn _ _ ⟨by omega, hch⟩ h4 ((Fr.fresh ((Fr.of e1 : Fr [fl, r] H H1).trans f2) hfl).trans (Fr.of (Ex.new hl2))) (R2.ex (Ex.new hl2)) (td_new hl2 tx2))))
theorem ok_law (GT : Fn__law_taken T P w base CX0 1 (spTaken K)) (GP : Fn__law_program T P w base CX0 12 (spProg K)) (GW : Fn__law_ways T P w base CX0 2 (spWays K)) (GC : Fn__law_cells T P w base CX0 1 (spCells K)) (GO : Fn__law_out T P w base CX0 106 (spOutA K)) (GX : Fn_mixed T P w base (L2.CX P w) 131 (spMixed K)) (GPt : Fn_parted T P w base (L2.CX P w) 132 (spParted K)) (GM : Fn_may_set T P w base (L2.CX P w) 26 (spMay K)) (GCh : Fn__law_changed T P w base CX0 2 (spCh K)) : Fn_law T P w base CX0 133 (spLaw K) := by
  have G__law_taken := GT
  have G__law_program := GP
  have G__law_ways := GW
  have G__law_cells := GC
  have G__law_out := GO
  have G_mixed := GX
  have G_parted := GPt
  have G_may_set := GM
  have G__law_changed := GCh
  refine T.F_law.ok sc_law (fun vs H Q E h => by obtain ⟨s, ns, rfl, _⟩ := h; rfl) fun cdv A outer s0 H vs Q E hr h => ?_
  obtain ⟨s, ns, rfl, hS, hn, kq⟩ := h
  refine ⟨_, (pss_cons (ps_set (i := 1) sc_law.nd rfl (Or.inl rfl) (pe_lst (pa_cons (pv 0) (pa_cons pe_int (pa_cons pe_int (pa_cons pe_int pa_nil))))))
  (pss_cons (ps_for (passes_of rfl) rfl (pi_range1 rfl T.b_range (pa_cons pe_int pa_nil)) (pg_name (i := 2) sc_law.nd rfl (Or.inl rfl))
    (pss_cons (ps_set (i := 3) sc_law.nd rfl (Or.inl rfl) (pe_call G__law_program (hr.mono (by omega)) (by rfl) T.g__law_program T.k__law_program T.bd__law_program .nil pass0 (pa_cons (pv 1) (pa_cons pe_int pa_nil))))
    (pss_cons (ps_set (i := 4) sc_law.nd rfl (Or.inl rfl) (pe_call G__law_ways (hr.mono (by omega)) (by rfl) T.g__law_ways T.k__law_ways T.bd__law_ways .nil pass0 (pa_cons (pv 1) (pa_cons (pv 3) (pa_cons (pe_ix (kix_list K) (pe_lst (pa_cons (pe_lst (pa_cons pe_str (pa_cons pe_str pa_nil))) (pa_cons (pe_lst (pa_cons pe_str (pa_cons pe_str (pa_cons pe_str (pa_cons pe_str pa_nil))))) pa_nil))) (pe_call G__law_taken (hr.mono (by omega)) (by rfl) T.g__law_taken T.k__law_taken T.bd__law_taken .nil pass0 (pa_cons (pv 1) (pa_cons pe_int pa_nil))) (fun _ _ => rfl)) pa_nil)))))
    (pss_one (ps_if (pt_cmp (pc_isN (pe_call G_mixed (hr.mono (by omega)) (by rfl) T.g_mixed T.k_mixed T.bd_mixed .nil passL (pa_cons (pv 3) (pa_cons (pv 4) pa_nil)))) rfl)
      (pss_cons (ps_set (i := 5) sc_law.nd rfl (Or.inl rfl) (pe_call G__law_changed (hr.mono (by omega)) (by rfl) T.g__law_changed T.k__law_changed T.bd__law_changed .nil pass0 (pa_cons (pv 1) (pa_cons (pv 3) (pa_cons (pv 4) (pa_cons (pe_call G_may_set (hr.mono (by omega)) (by rfl) T.g_may_set T.k_may_set T.bd_may_set .nil passL (pa_cons (pv 3) (pa_cons (pv 4) pa_nil))) pa_nil))))))
      (pss_cons (ps_if (PW.pt (pw_or (pt_cmp (pc_notN (pe_call G_parted (hr.mono (by omega)) (by rfl) T.g_parted T.k_parted T.bd_parted .nil passL (pa_cons (pv 3) (pa_cons (pv 4) (pa_cons (pv 5) pa_nil))))) rfl) (pw_or1 (pt_cmp (pc_notN (pe_call G_mixed (hr.mono (by omega)) (by rfl) T.g_mixed T.k_mixed T.bd_mixed .nil passL (pa_cons (pv 3) (pa_cons (pv 5) pa_nil)))) rfl))))
        (pss_one (ps_ret pe_bl))
        pss_nil)
      (pss_one (ps_for (passes_of rfl) rfl (kpi_list K (pe_call0 G__law_cells (hr.mono (by omega)) (by rfl) T.g__law_cells T.k__law_cells T.bd__law_cells .nil pass0)) (pg_name (i := 6) sc_law.nd rfl (Or.inl rfl))
        (pss_one (ps_if (pt_cmpR (kop_ne K hr.units) (pe_call G__law_out (hr.mono (by omega)) (by rfl) T.g__law_out T.k__law_out T.bd__law_out .nil pass0 (pa_cons (pv 3) (pa_cons (pv 4) (pa_cons (pv 6) pa_nil)))) (pe_call G__law_out (hr.mono (by omega)) (by rfl) T.g__law_out T.k__law_out T.bd__law_out .nil pass0 (pa_cons (pv 3) (pa_cons (pv 5) (pa_cons (pv 6) pa_nil)))) (nomark _))
          (pss_one (ps_ret pe_bl))
          pss_nil))))))
      pss_nil)))))
  (pss_one (ps_ret pe_bl)))), ?_⟩
  refine w_seq (w_asg (w_lst (w_cons (w_v rfl (w_cons (w_c (w_cons (w_c (w_cons (w_c (w_nil ⟨by show 4 ≤ sizeLine; decide, fun r hr0 => ?_⟩)))))))))))
  have R1 : RowAt K s ns (upd H r (.lst [.ref s, .int 0, .int 0, .int 0])) r := ⟨0, 0, 0, upd_same, ex_l (Ex.new hr0) hS, by decide, by decide, by decide, by decide⟩
  dsimp only
  generalize upd H r (.lst [.ref s, .int 0, .int 0, .int 0]) = H1 at *
  refine w_seq (w_forR (K := K) (n := 4) ?_ (by decide) (fun i σ' H' => ∃ u2 u3 u4 u5 u6 : Option V, σ' = [some (.ref s), some (.ref r), u2, u3, u4, u5, u6] ∧ RowAt K s ns H' r) ?_ ?_ ?_)
  · exact eda_cons ed_ci eda_nil
  · intro H2 e2
    exact ⟨_, _, _, _, _, rfl, R1.ex e2⟩
  · rintro tn σ' H2 htn ⟨u2, u3, u4, u5, u6, rfl, R2⟩
    dsimp only
    refine w_seq (w_asg (w_call (w_cons (w_v rfl (w_cons (w_c (w_nil ⟨r, s, ns, 5, rfl, R2, hn, by decide, fun p vp H3 gp f3 R3 tp3 => ?_⟩)))))))
    have hok := goP_ok gp (by omega)
    have hl := okP_len hok
    have hpar : ∀ w ∈ p, w.params ≤ 1000 := fun w hw => by
      obtain ⟨i, hi⟩ := List.mem_iff_getElem?.mp hw
      have := (okP_get hok hi).1
      omega
    dsimp only
    refine w_seq (w_asg (w_call (w_cons (w_v rfl (w_cons (w_v rfl (w_cons (w_op (w_lst (w_cons (w_lst (w_cons (w_c (w_cons (w_c (w_nil ⟨by show 2 ≤ sizeLine; decide, fun l1 hl1 => ?_⟩))))))))))))))))
    refine w_cons (w_lst (w_cons (w_c (w_cons (w_c (w_cons (w_c (w_cons (w_c (w_nil ⟨by show 4 ≤ sizeLine; decide, fun l2 hl2 => w_nil ⟨by show 2 ≤ sizeLine; decide, fun lo hlo => ?_⟩⟩))))))))))
    have ea : Ex H3 (upd H3 l1 (.lst [.str "place", .str "back"])) := Ex.new hl1
    have eb : Ex (upd H3 l1 (.lst [.str "place", .str "back"])) (upd (upd H3 l1 (.lst [.str "place", .str "back"])) l2 (.lst [.str "place", .str "back", .str "copy", .str "want"])) := Ex.new hl2
    have ec : Ex (upd (upd H3 l1 (.lst [.str "place", .str "back"])) l2 (.lst [.str "place", .str "back", .str "copy", .str "want"])) (upd (upd (upd H3 l1 (.lst [.str "place", .str "back"])) l2 (.lst [.str "place", .str "back", .str "copy", .str "want"])) lo (.lst [.ref l1, .ref l2])) := Ex.new hlo
    have o1 := ec _ _ (eb _ _ (upd_same (H := H3) (a := l1)))
    have o2 := ec _ _ (upd_same (a := l2))
    have o3 : upd (upd (upd H3 l1 (.lst [.str "place", .str "back"])) l2 (.lst [.str "place", .str "back", .str "copy", .str "want"])) lo (.lst [.ref l1, .ref l2]) lo = some (.lst [.ref l1, .ref l2]) := upd_same
    have n1 := (R3.off hl1).1
    have n2 := ((R3.ex ea).off hl2).1
    have n3 := (((R3.ex ea).ex eb).off hlo).1
    have e34 := (ea.trans eb).trans ec
    generalize upd (upd (upd H3 l1 (.lst [.str "place", .str "back"])) l2 (.lst [.str "place", .str "back", .str "copy", .str "want"])) lo (.lst [.ref l1, .ref l2]) = H4 at *
    have R4 := R3.ex e34
    refine w_taken rfl R4 hn (m := 2) ed_ci (by decide) (by decide) fun kk H5 hkk f5 R5 => ?_
    obtain ⟨so, sm, hat, hso, hne, hsub, hs0, hs1⟩ : ∃ (so : Addr) (sm : List Str), atI [V.ref l1, .ref l2] (kk : Int) = some (.ref so) ∧ H5 so = some (.lst (sm.map V.str)) ∧ so ≠ r ∧ (∀ z ∈ sm, z ∈ W4k) ∧ 0 < sm.length ∧ sm.length ≤ 1000 := by
      rcases (by omega : kk = 0 ∨ kk = 1) with e | e <;> subst e
      · exact ⟨l1, ["place", "back"], rfl, f5 _ _ (by simpa using n1) o1, n1, fun z hz => by simp only [List.mem_cons, List.not_mem_nil, or_false] at hz ⊢; rcases hz with e | e <;> simp [e], by decide, by decide⟩
      · exact ⟨l2, ["place", "back", "copy", "want"], rfl, f5 _ _ (by simpa using n2) o2, n2, fun z hz => by simp only [List.mem_cons, List.not_mem_nil, or_false] at hz ⊢; rcases hz with e | e | e | e <;> simp [e], by decide, by decide⟩
    have tp5 := (tp3.ex e34).kp (R4.keep f5)
    refine ⟨lo, _, (kk : Int), _, rfl, rfl, SqL.of (f5 _ _ (by simpa using n3) o3), hat, w_nil ⟨r, s, so, ns, vp, p, sm, rfl, R5, hn, tp5, hso, hne, hs0, hs1, by omega, hpar, fun ys vy H6 gy f6 R6 ty6 => ?_⟩⟩
    have PA := prA_go gp (by omega) gy hsub
    have tp6 := tp5.kp (R5.keep f6)
    have hw4 : ∀ y ∈ ys, ∀ z ∈ y, z ∈ W4k := fun y hy z hz => by
      obtain ⟨i, hi⟩ := List.mem_iff_getElem?.mp hy
      exact hsub z ((gy.2 i y hi).2 z hz)
    dsimp only
    refine w_ifs (w_test (w_isN (w_d (K := K) (ed_mixed PA (eda_cons (ed_var rfl tp6) (eda_cons (ed_var rfl ty6) eda_nil))) fun mv H7 e7 tmv => ⟨_, rfl, ?_⟩)))
    have R7 := R6.ex e7
    have tp7 := tp6.ex e7
    have ty7 := ty6.ex e7
    by_cases hmix : mixD p ys = .none
    · refine ifT (decide_eq_true ((firstD_td tmv).1 hmix)) ?_
      refine w_seq (w_asg (w_call (w_cons (w_v rfl (w_cons (w_v rfl (w_cons (w_v rfl (w_cons (w_call (w_cons (w_v rfl (w_cons (w_v rfl (w_nil ⟨p, ys, .cons tp7 (.cons ty7 .nil), PA.sm, PA.sy, (fun _ _ mw H8 e8 tmw => ?_), (fun e => by rw [hok] at e; cases e), fun _ e => by rw [PA.r.oy] at e; cases e⟩)))))))))))))))
      refine w_nil ⟨r, s, ns, vp, vy, mw, p, ys, rfl, R7.ex e8, hn, tp7.ex e8, ty7.ex e8, tmw, hok, PA.r.oy, PA.sy, hw4, fun ys' vo H9 hch h4' f9 R9 to9 => ?_⟩
      have f79 : Fr [r] H7 H9 := (Fr.of e8).trans f9
      have tp9 := tp7.kp (R7.keep f79)
      have ty9 := ty7.kp (R7.keep f79)
      have gy' : goY p W4k ys' := by
        refine ⟨hch.1.trans gy.1, fun i y hy => ?_⟩
        have hil : i < ys.length := by have := (List.getElem?_eq_some_iff.mp hy).1; have := hch.1; omega
        have hyi : ys[i]? = some ys[i] := List.getElem?_eq_getElem hil
        exact ⟨((hch.2 i _ y hyi hy).1).trans (gy.2 i _ hyi).1, h4' y (List.mem_of_getElem? hy)⟩
      have PB := prA_go gp (by omega) gy' fun z hz => hz
      obtain ⟨c1, c2, c3⟩ := changed_k PA PB hw4 hch hmix
      dsimp only
      refine w_seq (w_ifs (w_or (w_test (w_notN (w_d (K := K) (ed_parted PA PB (eda_cons (ed_var rfl tp9) (eda_cons (ed_var rfl ty9) (eda_cons (ed_var rfl to9) eda_nil)))) fun v1 H10 e10 t1 => ⟨_, rfl, ?_⟩)))))
      rw [c2] at t1
      cases t1
      refine ifF (by decide) (w_test (w_notN (w_d (K := K) (ed_mixed PB (eda_cons (ed_var rfl (tp9.ex e10)) (eda_cons (ed_var rfl (to9.ex e10)) eda_nil))) fun v2 H11 e11 t2 => ⟨_, rfl, ?_⟩)))
      rw [c3] at t2
      cases t2
      refine ifF (by decide) (w_next ?_)
      have e911 := e10.trans e11
      have tp11 := tp9.ex e911
      have ty11 := ty9.ex e911
      have to11 := to9.ex e911
      have R11 := R9.ex e911
      dsimp only
      refine w_forLd (K := K) (ds := cellsD) (fun H1 e Q q => w_call (w_nil ⟨rfl, fun p xs H' hp e' h1 h2 => q p xs H' e' (SqL.of h1) h2⟩)) (fun Hz i σ' H' => ∃ u6 : Option V, σ' = [some (.ref s), some (.ref r), some (.int (tn : Int)), some vp, some vy, some vo, u6] ∧ Ex H11 H' ∧ Ex Hz H') ?_ ?_ ?_ ?_
      · intro Hz ez
        exact ⟨_, rfl, ez, Ex.refl _⟩
      · rintro Hz i σ' H' ⟨u6, rfl, e, e2⟩
        exact e2
      · rintro Hz i d v σ' H14 hd ez tv ⟨u6, rfl, e14, ez14⟩
        unfold cellsD at hd
        rw [List.getElem?_map] at hd
        obtain ⟨c, hc, rfl⟩ := Option.map_eq_some_iff.mp hd
        have hca := List.mem_of_getElem? hc
        dsimp only
        refine w_ifs (w_test (w_op (w_call (w_cons (w_v rfl (w_cons (w_v rfl (w_cons (w_v rfl (w_nil ⟨vp, vy, v, p, ys, c, rfl, tp11.ex e14, ty11.ex e14, tv, PA, hca, fun q sl tw H15 hq hsl e15 g1 g2 g3 => ?_⟩))))))))))
        have d1 : Tl K H15 (.ref q) (outD p ys c) := outD_tl g1 g2 g3
        refine w_call (w_cons (w_v rfl (w_cons (w_v rfl (w_cons (w_v rfl (w_nil ⟨vp, vo, v, p, ys', c, rfl, (tp11.ex e14).ex e15, (to11.ex e14).ex e15, tv.ex e15, PB, hca, fun q2 sl2 tw2 H16 hq2 hsl2 e16 k1 k2 k3 => ?_⟩)))))))
        have d2 : Tl K H16 (.ref q2) (outD p ys' c) := outD_tl k1 k2 k3
        refine ⟨outD p ys c, outD p ys' c, (Tl.ex e16 _ d1).dp, d2.dp, outD_lay _ _ _, outD_lay _ _ _, by have := outD_depth3 p ys c; omega, _, rfl, ?_⟩
        rw [eqv_outD, c1 c hca]
        exact ifF (by simp) (w_next ⟨_, rfl, (e14.trans e15).trans e16, (ez14.trans e15).trans e16⟩)
      · rintro Hz σ' H14 ez ⟨u6, rfl, e14, ez14⟩
        exact ⟨_, _, _, _, _, rfl, R11.ex e14⟩
    · refine ifF (decide_eq_false ((firstD_td tmv).2 hmix)) (w_next ⟨_, _, _, _, _, rfl, R7⟩)
  · rintro σ' H2 ⟨u2, u3, u4, u5, u6, rfl, R2⟩
    dsimp only
    exact w_ret (w_c (kq H2))
/-- all of it -/
theorem law_ok : Fn_law T P w base CX0 133 (spLaw K) := by
  have gT := ok_taken (P := P) (w := w) (base := base) T
  have gNP := ok_np (P := P) (w := w) (base := base) T
  have gNY := ok_ny (P := P) (w := w) (base := base) T
  have gBs := ok_bodies_of (P := P) (w := w) (base := base) (k := 0) T
  exact ok_law T gT (ok_gen T gT) (ok_ways T gT) (ok_cells T) (ok_loutA T) (ok_mixed T gNP gNY (ok_all_cells T) (ok_runIU T)) (ok_parted T gNP gNY (ok_all_cells T) (ok_outA T)) (ok_may_set T gNP gNY (ok_sets T gBs 6)) (ok_changed T gT)
end
end Hw

set_option maxRecDepth 100000
set_option maxHeartbeats 0
namespace Hw
open PySem PySem.Spec PyProof.Rows L2
def dd_is_number : He.DefD := ⟨("is_number", none), "is_number", "is_number", defArgs s_is_number, defBody s_is_number, defScope s_is_number, [], []⟩
def dd_is_thing : He.DefD := ⟨("is_thing", none), "is_thing", "is_thing", defArgs s_is_thing, defBody s_is_thing, defScope s_is_thing, [], []⟩
def dd_is_call : He.DefD := ⟨("is_call", none), "is_call", "is_call", defArgs s_is_call, defBody s_is_call, defScope s_is_call, [], []⟩
def dd_is_step : He.DefD := ⟨("is_step", none), "is_step", "is_step", defArgs s_is_step, defBody s_is_step, defScope s_is_step, [], []⟩
def dd_is_body : He.DefD := ⟨("is_body", none), "is_body", "is_body", defArgs s_is_body, defBody s_is_body, defScope s_is_body, [], []⟩
def dd_bodies_of : He.DefD := ⟨("bodies_of", none), "bodies_of", "bodies_of", defArgs s_bodies_of, defBody s_bodies_of, defScope s_bodies_of, [], []⟩
def dd_count : He.DefD := ⟨("count", none), "count", "count", defArgs s_count, defBody s_count, defScope s_count, [], []⟩
def dd_is_work : He.DefD := ⟨("is_work", none), "is_work", "is_work", defArgs s_is_work, defBody s_is_work, defScope s_is_work, [], []⟩
def dd_need_program : He.DefD := ⟨("need_program", none), "need_program", "need_program", defArgs s_need_program, defBody s_need_program, defScope s_need_program, [], []⟩
def dd_need_ways : He.DefD := ⟨("need_ways", none), "need_ways", "need_ways", defArgs s_need_ways, defBody s_need_ways, defScope s_need_ways, [], []⟩
def dd_Frame___init__ : He.DefD := ⟨("Frame", some "__init__"), "__init__", "Frame.__init__", defArgs s_Frame___init__, defBody s_Frame___init__, defScope s_Frame___init__, [], []⟩
def dd_Lent___init__ : He.DefD := ⟨("Lent", some "__init__"), "__init__", "Lent.__init__", defArgs s_Lent___init__, defBody s_Lent___init__, defScope s_Lent___init__, [], []⟩
def dd_Run___init__ : He.DefD := ⟨("Run", some "__init__"), "__init__", "Run.__init__", defArgs s_Run___init__, defBody s_Run___init__, defScope s_Run___init__, [], []⟩
def dd_Run_fresh : He.DefD := ⟨("Run", some "fresh"), "fresh", "Run.fresh", defArgs s_Run_fresh, defBody s_Run_fresh, defScope s_Run_fresh, [], []⟩
def dd_Run_come : He.DefD := ⟨("Run", some "come"), "come", "Run.come", defArgs s_Run_come, defBody s_Run_come, defScope s_Run_come, [], []⟩
def dd_Run_find : He.DefD := ⟨("Run", some "find"), "find", "Run.find", defArgs s_Run_find, defBody s_Run_find, defScope s_Run_find, [], []⟩
def dd_Run_number : He.DefD := ⟨("Run", some "number"), "number", "Run.number", defArgs s_Run_number, defBody s_Run_number, defScope s_Run_number, [], []⟩
def dd_Run_do : He.DefD := ⟨("Run", some "do"), "do", "Run.do", defArgs s_Run_do, defBody s_Run_do, defScope s_Run_do, [], []⟩
def dd_Run_steps : He.DefD := ⟨("Run", some "steps"), "steps", "Run.steps", defArgs s_Run_steps, defBody s_Run_steps, defScope s_Run_steps, [], []⟩
def dd_Run_put : He.DefD := ⟨("Run", some "put"), "put", "Run.put", defArgs s_Run_put, defBody s_Run_put, defScope s_Run_put, [], []⟩
def dd_Run_call : He.DefD := ⟨("Run", some "call"), "call", "Run.call", defArgs s_Run_call, defBody s_Run_call, defScope s_Run_call, [], []⟩
def dd_out_of : He.DefD := ⟨("out_of", none), "out_of", "out_of", defArgs s_out_of, defBody s_out_of, defScope s_out_of, [], []⟩
def dd_all_cells : He.DefD := ⟨("all_cells", none), "all_cells", "all_cells", defArgs s_all_cells, defBody s_all_cells, defScope s_all_cells, [], []⟩
def dd_parted : He.DefD := ⟨("parted", none), "parted", "parted", defArgs s_parted, defBody s_parted, defScope s_parted, [], []⟩
def dd_mixed : He.DefD := ⟨("mixed", none), "mixed", "mixed", defArgs s_mixed, defBody s_mixed, defScope s_mixed, [], []⟩
def dd_sets : He.DefD := ⟨("sets", none), "sets", "sets", defArgs s_sets, defBody s_sets, defScope s_sets, [], []⟩
def dd_may_set : He.DefD := ⟨("may_set", none), "may_set", "may_set", defArgs s_may_set, defBody s_may_set, defScope s_may_set, [], []⟩
def dd__law_taken : He.DefD := ⟨("_law_taken", none), "_law_taken", "_law_taken", defArgs s__law_taken, defBody s__law_taken, defScope s__law_taken, [], []⟩
def dd__law_alike : He.DefD := ⟨("_law_alike", none), "_law_alike", "_law_alike", defArgs s__law_alike, defBody s__law_alike, defScope s__law_alike, [], []⟩
def dd__law_thing : He.DefD := ⟨("_law_thing", none), "_law_thing", "_law_thing", defArgs s__law_thing, defBody s__law_thing, defScope s__law_thing, [], []⟩
def dd__law_place : He.DefD := ⟨("_law_place", none), "_law_place", "_law_place", defArgs s__law_place, defBody s__law_place, defScope s__law_place, [], []⟩
def dd__law_step : He.DefD := ⟨("_law_step", none), "_law_step", "_law_step", defArgs s__law_step, defBody s__law_step, defScope s__law_step, [], []⟩
def dd__law_body : He.DefD := ⟨("_law_body", none), "_law_body", "_law_body", defArgs s__law_body, defBody s__law_body, defScope s__law_body, [], []⟩
def dd__law_program : He.DefD := ⟨("_law_program", none), "_law_program", "_law_program", defArgs s__law_program, defBody s__law_program, defScope s__law_program, [], []⟩
def dd__law_ways : He.DefD := ⟨("_law_ways", none), "_law_ways", "_law_ways", defArgs s__law_ways, defBody s__law_ways, defScope s__law_ways, [], []⟩
def dd__law_cells : He.DefD := ⟨("_law_cells", none), "_law_cells", "_law_cells", defArgs s__law_cells, defBody s__law_cells, defScope s__law_cells, [], []⟩
def dd__law_begun : He.DefD := ⟨("_law_begun", none), "_law_begun", "_law_begun", defArgs s__law_begun, defBody s__law_begun, defScope s__law_begun, [], []⟩
def dd__law_new : He.DefD := ⟨("_law_new", none), "_law_new", "_law_new", defArgs s__law_new, defBody s__law_new, defScope s__law_new, [], []⟩
def dd__law_meets : He.DefD := ⟨("_law_meets", none), "_law_meets", "_law_meets", defArgs s__law_meets, defBody s__law_meets, defScope s__law_meets, [], []⟩
def dd__law_road : He.DefD := ⟨("_law_road", none), "_law_road", "_law_road", defArgs s__law_road, defBody s__law_road, defScope s__law_road, [], []⟩
def dd__law_worth : He.DefD := ⟨("_law_worth", none), "_law_worth", "_law_worth", defArgs s__law_worth, defBody s__law_worth, defScope s__law_worth, [], []⟩
def dd__law_handed : He.DefD := ⟨("_law_handed", none), "_law_handed", "_law_handed", defArgs s__law_handed, defBody s__law_handed, defScope s__law_handed, [], []⟩
def dd__law_does : He.DefD := ⟨("_law_does", none), "_law_does", "_law_does", defArgs s__law_does, defBody s__law_does, defScope s__law_does, [], []⟩
def dd__law_goes : He.DefD := ⟨("_law_goes", none), "_law_goes", "_law_goes", defArgs s__law_goes, defBody s__law_goes, defScope s__law_goes, [], []⟩
def dd__law_ran : He.DefD := ⟨("_law_ran", none), "_law_ran", "_law_ran", defArgs s__law_ran, defBody s__law_ran, defScope s__law_ran, [], []⟩
def dd__law_out : He.DefD := ⟨("_law_out", none), "_law_out", "_law_out", defArgs s__law_out, defBody s__law_out, defScope s__law_out, [], []⟩
def dd__law_changed : He.DefD := ⟨("_law_changed", none), "_law_changed", "_law_changed", defArgs s__law_changed, defBody s__law_changed, defScope s__law_changed, [], []⟩
def dd_law : He.DefD := ⟨("law", none), "law", "law", defArgs s_law, defBody s_law, defScope s_law, [], []⟩
def fns : List He.DefD := [dd_is_number, dd_is_thing, dd_is_call, dd_is_step, dd_is_body, dd_bodies_of, dd_count, dd_is_work, dd_need_program, dd_need_ways, dd_Frame___init__, dd_Lent___init__, dd_Run___init__, dd_Run_fresh, dd_Run_come, dd_Run_find, dd_Run_number, dd_Run_do, dd_Run_steps, dd_Run_put, dd_Run_call, dd_out_of, dd_all_cells, dd_parted, dd_mixed, dd_sets, dd_may_set, dd__law_taken, dd__law_alike, dd__law_thing, dd__law_place, dd__law_step, dd__law_body, dd__law_program, dd__law_ways, dd__law_cells, dd__law_begun, dd__law_new, dd__law_meets, dd__law_road, dd__law_worth, dd__law_handed, dd__law_does, dd__law_goes, dd__law_ran, dd__law_out, dd__law_changed, dd_law]
def fas : List He.Fa := [.glo "is_number", .glo "is_thing", .glo "is_call", .glo "is_step", .glo "is_body", .glo "bodies_of", .glo "count", .glo "is_work", .glo "need_program", .glo "need_ways", .glo "out_of", .glo "all_cells", .glo "parted", .glo "mixed", .glo "sets", .glo "may_set", .glo "_law_taken", .glo "_law_alike", .glo "_law_thing", .glo "_law_place", .glo "_law_step", .glo "_law_body", .glo "_law_program", .glo "_law_ways", .glo "_law_cells", .glo "_law_begun", .glo "_law_new", .glo "_law_meets", .glo "_law_road", .glo "_law_worth", .glo "_law_handed", .glo "_law_does", .glo "_law_goes", .glo "_law_ran", .glo "_law_out", .glo "_law_changed", .glo "law", .glo "HandError", .keep "HandError", .glo "BadProgram", .keep "BadProgram", .glo "BadWays", .keep "BadWays", .glo "Frame", .keep "Frame", .cls "Frame", .mkr "Frame", .noat "Frame" "owns", .noat "Frame" "pars", .glo "Lent", .keep "Lent", .cls "Lent", .mkr "Lent", .noat "Lent" "place", .noat "Lent" "through", .noat "Lent" "thing", .noat "Lent" "frame", .glo "Run", .keep "Run", .cls "Run", .mkr "Run", .noat "Run" "program", .noat "Run" "ways", .noat "Run" "numbers", .noat "Run" "said", .noat "Run" "lent", .noat "Run" "many", .noat "Run" "mixed", .noat "Run" "owns", .meth "Run" "fresh", .meth "Run" "come", .meth "Run" "find", .meth "Run" "number", .meth "Run" "do", .meth "Run" "steps", .meth "Run" "put", .meth "Run" "call", .free "ValueError", .free "bool", .free "int", .free "isinstance", .free "len", .free "list", .free "range", .free "reversed", .free "str", .free "sum", .free "tuple", .free "zip", .int "NUMBERS" 3, .int "MOST_WORKS" 4, .int "MOST_PARAMS" 3, .int "MOST_OWNS" 99, .int "MOST_STEPS" 100, .int "MOST_WITHIN" 4, .glo "PLACES", .glo "WAYS", .int "COMMON" 3]
def exs : List (PySem.W.Frag → Bool) := [fun K => PySem.W.excIn K (He.ga K "HandError") [.type "ValueError", .type "Exception", .type "BaseException", .type "object"] "ValueError.__new__", fun K => decide (PySem.W.subIn K (.ref (He.ga K "HandError")) (.type "BaseException") = some true), fun K => decide (PySem.W.typeIn K (.ref (He.ga K "HandError")) = some (.type "type")), fun K => decide (PySem.W.exmOne K (.ref (He.ga K "HandError")) (.ref (He.ga K "HandError")) = some true), fun K => decide (PySem.W.exmOne K (.ref (He.ga K "HandError")) (.ref (He.ga K "BadProgram")) = some false), fun K => decide (PySem.W.exmOne K (.ref (He.ga K "HandError")) (.ref (He.ga K "BadWays")) = some false), fun K => PySem.W.excIn K (He.ga K "BadProgram") [.type "ValueError", .type "Exception", .type "BaseException", .type "object"] "ValueError.__new__", fun K => decide (PySem.W.subIn K (.ref (He.ga K "BadProgram")) (.type "BaseException") = some true), fun K => decide (PySem.W.typeIn K (.ref (He.ga K "BadProgram")) = some (.type "type")), fun K => decide (PySem.W.exmOne K (.ref (He.ga K "BadProgram")) (.ref (He.ga K "HandError")) = some true), fun K => decide (PySem.W.exmOne K (.ref (He.ga K "BadProgram")) (.ref (He.ga K "BadProgram")) = some true), fun K => decide (PySem.W.exmOne K (.ref (He.ga K "BadProgram")) (.ref (He.ga K "BadWays")) = some false), fun K => PySem.W.excIn K (He.ga K "BadWays") [.type "ValueError", .type "Exception", .type "BaseException", .type "object"] "ValueError.__new__", fun K => decide (PySem.W.subIn K (.ref (He.ga K "BadWays")) (.type "BaseException") = some true), fun K => decide (PySem.W.typeIn K (.ref (He.ga K "BadWays")) = some (.type "type")), fun K => decide (PySem.W.exmOne K (.ref (He.ga K "BadWays")) (.ref (He.ga K "HandError")) = some true), fun K => decide (PySem.W.exmOne K (.ref (He.ga K "BadWays")) (.ref (He.ga K "BadProgram")) = some false), fun K => decide (PySem.W.exmOne K (.ref (He.ga K "BadWays")) (.ref (He.ga K "BadWays")) = some true), fun K => He.tupB K "PLACES" [.str "cell", .str "own", .str "par"], fun K => He.tupB K "WAYS" [.str "back", .str "copy", .str "place", .str "want"]]
def exB (K : PySem.W.Frag) : Bool := exs.all fun f => f K
theorem exs_at {K : PySem.W.Frag} (e : exB K = true) (i : Nat) {f : PySem.W.Frag → Bool} (h : exs[i]? = some f) : f K = true := List.all_eq_true.mp e f (List.mem_of_getElem? h)
abbrev R : PySem.W.OpenRow := PySem.W.OpenLaw.row PySem.Challenge.rw_handways_k07_whole_ways_that_may_be_chan
abbrev hk : PySem.W.Hook := He.hookX 4 fas fns [] [] exB
def ob (s : PySem.W.SharedT) : He.AlX := He.obsX 4 fas fns [] [] exB (HandSHeadRun.getT s)
theorem ob_eq (s : PySem.W.SharedT) : ob s = hk.obs s.abs := He.obsX_eq (HandSHeadRun.getT_eq s)
def loose0 : List Str := [("HandError" : Str), ("BadProgram" : Str), ("BadWays" : Str), ("NUMBERS" : Str), ("MOST_WORKS" : Str), ("MOST_PARAMS" : Str), ("MOST_OWNS" : Str), ("MOST_STEPS" : Str), ("MOST_WITHIN" : Str), ("PLACES" : Str), ("WAYS" : Str), ("is_number" : Str)]
def loose1 : List Str := [("is_thing" : Str), ("is_call" : Str), ("is_step" : Str), ("is_body" : Str), ("bodies_of" : Str), ("count" : Str), ("is_work" : Str), ("need_program" : Str), ("need_ways" : Str), ("COMMON" : Str), ("Frame" : Str), ("Lent" : Str)]
def loose2 : List Str := [("Run" : Str), ("out_of" : Str), ("all_cells" : Str), ("parted" : Str), ("mixed" : Str), ("sets" : Str), ("may_set" : Str), ("_law_taken" : Str), ("_law_alike" : Str), ("_law_thing" : Str), ("_law_place" : Str), ("_law_step" : Str)]
def loose3 : List Str := [("_law_body" : Str), ("_law_program" : Str), ("_law_ways" : Str), ("_law_cells" : Str), ("_law_begun" : Str), ("_law_new" : Str), ("_law_meets" : Str), ("_law_road" : Str), ("_law_worth" : Str), ("_law_handed" : Str), ("_law_does" : Str), ("_law_goes" : Str)]
def loose4 : List Str := [("_law_ran" : Str), ("_law_out" : Str), ("_law_changed" : Str)]
def loose : List Str := loose0 ++ loose1 ++ loose2 ++ loose3 ++ loose4
theorem run (w : World) : HandSHeadRun.RunEq R (PySem.W.view R.prog [57]) hk ob 8000 loose w := by
  intro os
  kernel_rfl
theorem tx_of {w : World} {K : PySem.W.Frag} {h : Heap} {mg : Str → Option Value} (X : K.In h) (G : h.Ns mainGlobals mg) (y : He.SaysX fas fns [] [] exB w h K) : Tx K mg := by
  have c := y.t.d
  have e := y.more
  refine ⟨?f0, ?f1, ?f2, ?f3, ?f4, ?f5, ?f6, ?f7, ?f8, ?f9, ?f10, ?f11, ?f12, ?f13, ?f14, ?f15, ?f16, ?f17, ?f18, ?f19, ?f20, ?f21, ?f22, ?f23, ?f24, ?f25, ?f26, ?f27, ?f28, ?f29, ?f30, ?f31, ?f32, ?f33, ?f34, ?f35, ?f36, ?f37, ?f38, ?f39, ?f40, ?f41, ?f42, ?f43, ?f44, ?f45, ?f46, ?f47, ?f48, ?f49, ?f50, ?f51, ?f52, ?f53, ?f54, ?f55, ?f56, ?f57, ?f58, ?f59, ?f60, ?f61, ?f62, ?f63, ?f64, ?f65, ?f66, ?f67, ?f68, ?f69, ?f70, ?f71, ?f72, ?f73, ?f74, ?f75, ?f76, ?f77, ?f78, ?f79, ?f80, ?f81, ?f82, ?f83, ?f84, ?f85, ?f86, ?f87, ?f88, ?f89, ?f90, ?f91, ?f92, ?f93, ?f94, ?f95, ?f96, ?f97, ?f98, ?f99, ?f100, ?f101, ?f102, ?f103, ?f104, ?f105, ?f106, ?f107, ?f108, ?f109, ?f110, ?f111, ?f112, ?f113, ?f114, ?f115, ?f116, ?f117, ?d0, ?d1, ?d2, ?d3, ?d4, ?d5, ?d6, ?d7, ?d8, ?d9, ?d10, ?d11, ?d12, ?d13, ?d14, ?d15, ?d16, ?d17, ?d18, ?d19, ?d20, ?d21, ?d22, ?d23, ?d24, ?d25, ?d26, ?d27, ?d28, ?d29, ?d30, ?d31, ?d32, ?d33, ?d34, ?d35, ?d36, ?d37, ?d38, ?d39, ?d40, ?d41, ?d42, ?d43, ?d44, ?d45, ?d46, ?d47⟩
  case f0 => exact He.glo_ok X G (c.fact 0 (by rfl))
  case f1 => exact He.glo_ok X G (c.fact 1 (by rfl))
  case f2 => exact He.glo_ok X G (c.fact 2 (by rfl))
  case f3 => exact He.glo_ok X G (c.fact 3 (by rfl))
  case f4 => exact He.glo_ok X G (c.fact 4 (by rfl))
  case f5 => exact He.glo_ok X G (c.fact 5 (by rfl))
  case f6 => exact He.glo_ok X G (c.fact 6 (by rfl))
  case f7 => exact He.glo_ok X G (c.fact 7 (by rfl))
  case f8 => exact He.glo_ok X G (c.fact 8 (by rfl))
  case f9 => exact He.glo_ok X G (c.fact 9 (by rfl))
  case f10 => exact He.glo_ok X G (c.fact 10 (by rfl))
  case f11 => exact He.glo_ok X G (c.fact 11 (by rfl))
  case f12 => exact He.glo_ok X G (c.fact 12 (by rfl))
  case f13 => exact He.glo_ok X G (c.fact 13 (by rfl))
  case f14 => exact He.glo_ok X G (c.fact 14 (by rfl))
  case f15 => exact He.glo_ok X G (c.fact 15 (by rfl))
  case f16 => exact He.glo_ok X G (c.fact 16 (by rfl))
  case f17 => exact He.glo_ok X G (c.fact 17 (by rfl))
  case f18 => exact He.glo_ok X G (c.fact 18 (by rfl))
  case f19 => exact He.glo_ok X G (c.fact 19 (by rfl))
  case f20 => exact He.glo_ok X G (c.fact 20 (by rfl))
  case f21 => exact He.glo_ok X G (c.fact 21 (by rfl))
  case f22 => exact He.glo_ok X G (c.fact 22 (by rfl))
  case f23 => exact He.glo_ok X G (c.fact 23 (by rfl))
  case f24 => exact He.glo_ok X G (c.fact 24 (by rfl))
  case f25 => exact He.glo_ok X G (c.fact 25 (by rfl))
  case f26 => exact He.glo_ok X G (c.fact 26 (by rfl))
  case f27 => exact He.glo_ok X G (c.fact 27 (by rfl))
  case f28 => exact He.glo_ok X G (c.fact 28 (by rfl))
  case f29 => exact He.glo_ok X G (c.fact 29 (by rfl))
  case f30 => exact He.glo_ok X G (c.fact 30 (by rfl))
  case f31 => exact He.glo_ok X G (c.fact 31 (by rfl))
  case f32 => exact He.glo_ok X G (c.fact 32 (by rfl))
  case f33 => exact He.glo_ok X G (c.fact 33 (by rfl))
  case f34 => exact He.glo_ok X G (c.fact 34 (by rfl))
  case f35 => exact He.glo_ok X G (c.fact 35 (by rfl))
  case f36 => exact He.glo_ok X G (c.fact 36 (by rfl))
  case f37 => exact He.glo_ok X G (c.fact 37 (by rfl))
  case f38 => exact He.keep_ok (c.fact 38 (by rfl))
  case f39 => exact (exs_at e 0 (by rfl))
  case f40 => exact of_decide_eq_true (exs_at e 1 (by rfl))
  case f41 => exact of_decide_eq_true (exs_at e 2 (by rfl))
  case f42 => exact of_decide_eq_true (exs_at e 3 (by rfl))
  case f43 => exact of_decide_eq_true (exs_at e 4 (by rfl))
  case f44 => exact of_decide_eq_true (exs_at e 5 (by rfl))
  case f45 => exact He.glo_ok X G (c.fact 39 (by rfl))
  case f46 => exact He.keep_ok (c.fact 40 (by rfl))
  case f47 => exact (exs_at e 6 (by rfl))
  case f48 => exact of_decide_eq_true (exs_at e 7 (by rfl))
  case f49 => exact of_decide_eq_true (exs_at e 8 (by rfl))
  case f50 => exact of_decide_eq_true (exs_at e 9 (by rfl))
  case f51 => exact of_decide_eq_true (exs_at e 10 (by rfl))
  case f52 => exact of_decide_eq_true (exs_at e 11 (by rfl))
  case f53 => exact He.glo_ok X G (c.fact 41 (by rfl))
  case f54 => exact He.keep_ok (c.fact 42 (by rfl))
  case f55 => exact (exs_at e 12 (by rfl))
  case f56 => exact of_decide_eq_true (exs_at e 13 (by rfl))
  case f57 => exact of_decide_eq_true (exs_at e 14 (by rfl))
  case f58 => exact of_decide_eq_true (exs_at e 15 (by rfl))
  case f59 => exact of_decide_eq_true (exs_at e 16 (by rfl))
  case f60 => exact of_decide_eq_true (exs_at e 17 (by rfl))
  case f61 => exact He.glo_ok X G (c.fact 43 (by rfl))
  case f62 => exact He.keep_ok (c.fact 44 (by rfl))
  case f63 => exact He.cls_ok (c.fact 45 (by rfl))
  case f64 => exact He.mkr_ok (c.fact 46 (by rfl))
  case f65 => exact He.noat_ok (c.fact 47 (by rfl))
  case f66 => exact He.noat_ok (c.fact 48 (by rfl))
  case f67 => exact He.glo_ok X G (c.fact 49 (by rfl))
  case f68 => exact He.keep_ok (c.fact 50 (by rfl))
  case f69 => exact He.cls_ok (c.fact 51 (by rfl))
  case f70 => exact He.mkr_ok (c.fact 52 (by rfl))
  case f71 => exact He.noat_ok (c.fact 53 (by rfl))
  case f72 => exact He.noat_ok (c.fact 54 (by rfl))
  case f73 => exact He.noat_ok (c.fact 55 (by rfl))
  case f74 => exact He.noat_ok (c.fact 56 (by rfl))
  case f75 => exact He.glo_ok X G (c.fact 57 (by rfl))
  case f76 => exact He.keep_ok (c.fact 58 (by rfl))
  case f77 => exact He.cls_ok (c.fact 59 (by rfl))
  case f78 => exact He.mkr_ok (c.fact 60 (by rfl))
  case f79 => exact He.noat_ok (c.fact 61 (by rfl))
  case f80 => exact He.noat_ok (c.fact 62 (by rfl))
  case f81 => exact He.noat_ok (c.fact 63 (by rfl))
  case f82 => exact He.noat_ok (c.fact 64 (by rfl))
  case f83 => exact He.noat_ok (c.fact 65 (by rfl))
  case f84 => exact He.noat_ok (c.fact 66 (by rfl))
  case f85 => exact He.noat_ok (c.fact 67 (by rfl))
  case f86 => exact He.noat_ok (c.fact 68 (by rfl))
  case f87 => exact He.meth_ok (c.fact 69 (by rfl))
  case f88 => exact He.meth_ok (c.fact 70 (by rfl))
  case f89 => exact He.meth_ok (c.fact 71 (by rfl))
  case f90 => exact He.meth_ok (c.fact 72 (by rfl))
  case f91 => exact He.meth_ok (c.fact 73 (by rfl))
  case f92 => exact He.meth_ok (c.fact 74 (by rfl))
  case f93 => exact He.meth_ok (c.fact 75 (by rfl))
  case f94 => exact He.meth_ok (c.fact 76 (by rfl))
  case f95 => exact He.free_ok X G (c.fact 77 (by rfl))
  case f96 => exact He.free_ok X G (c.fact 78 (by rfl))
  case f97 => exact He.free_ok X G (c.fact 79 (by rfl))
  case f98 => exact He.free_ok X G (c.fact 80 (by rfl))
  case f99 => exact He.free_ok X G (c.fact 81 (by rfl))
  case f100 => exact He.free_ok X G (c.fact 82 (by rfl))
  case f101 => exact He.free_ok X G (c.fact 83 (by rfl))
  case f102 => exact He.free_ok X G (c.fact 84 (by rfl))
  case f103 => exact He.free_ok X G (c.fact 85 (by rfl))
  case f104 => exact He.free_ok X G (c.fact 86 (by rfl))
  case f105 => exact He.free_ok X G (c.fact 87 (by rfl))
  case f106 => exact He.free_ok X G (c.fact 88 (by rfl))
  case f107 => exact He.int_ok X G (c.fact 89 (by rfl))
  case f108 => exact He.int_ok X G (c.fact 90 (by rfl))
  case f109 => exact He.int_ok X G (c.fact 91 (by rfl))
  case f110 => exact He.int_ok X G (c.fact 92 (by rfl))
  case f111 => exact He.int_ok X G (c.fact 93 (by rfl))
  case f112 => exact He.int_ok X G (c.fact 94 (by rfl))
  case f113 => exact He.glo_ok X G (c.fact 95 (by rfl))
  case f114 => exact fun H => He.tupB_ok (exs_at e 18 (by rfl)) H
  case f115 => exact He.glo_ok X G (c.fact 96 (by rfl))
  case f116 => exact fun H => He.tupB_ok (exs_at e 19 (by rfl)) H
  case f117 => exact He.int_ok X G (c.fact 97 (by rfl))
  case d0 => exact c.def_ 0 (d := dd_is_number) (by rfl)
  case d1 => exact c.def_ 1 (d := dd_is_thing) (by rfl)
  case d2 => exact c.def_ 2 (d := dd_is_call) (by rfl)
  case d3 => exact c.def_ 3 (d := dd_is_step) (by rfl)
  case d4 => exact c.def_ 4 (d := dd_is_body) (by rfl)
  case d5 => exact c.def_ 5 (d := dd_bodies_of) (by rfl)
  case d6 => exact c.def_ 6 (d := dd_count) (by rfl)
  case d7 => exact c.def_ 7 (d := dd_is_work) (by rfl)
  case d8 => exact c.def_ 8 (d := dd_need_program) (by rfl)
  case d9 => exact c.def_ 9 (d := dd_need_ways) (by rfl)
  case d10 => exact c.def_ 10 (d := dd_Frame___init__) (by rfl)
  case d11 => exact c.def_ 11 (d := dd_Lent___init__) (by rfl)
  case d12 => exact c.def_ 12 (d := dd_Run___init__) (by rfl)
  case d13 => exact c.def_ 13 (d := dd_Run_fresh) (by rfl)
  case d14 => exact c.def_ 14 (d := dd_Run_come) (by rfl)
  case d15 => exact c.def_ 15 (d := dd_Run_find) (by rfl)
  case d16 => exact c.def_ 16 (d := dd_Run_number) (by rfl)
  case d17 => exact c.def_ 17 (d := dd_Run_do) (by rfl)
  case d18 => exact c.def_ 18 (d := dd_Run_steps) (by rfl)
  case d19 => exact c.def_ 19 (d := dd_Run_put) (by rfl)
  case d20 => exact c.def_ 20 (d := dd_Run_call) (by rfl)
  case d21 => exact c.def_ 21 (d := dd_out_of) (by rfl)
  case d22 => exact c.def_ 22 (d := dd_all_cells) (by rfl)
  case d23 => exact c.def_ 23 (d := dd_parted) (by rfl)
  case d24 => exact c.def_ 24 (d := dd_mixed) (by rfl)
  case d25 => exact c.def_ 25 (d := dd_sets) (by rfl)
  case d26 => exact c.def_ 26 (d := dd_may_set) (by rfl)
  case d27 => exact c.def_ 27 (d := dd__law_taken) (by rfl)
  case d28 => exact c.def_ 28 (d := dd__law_alike) (by rfl)
  case d29 => exact c.def_ 29 (d := dd__law_thing) (by rfl)
  case d30 => exact c.def_ 30 (d := dd__law_place) (by rfl)
  case d31 => exact c.def_ 31 (d := dd__law_step) (by rfl)
  case d32 => exact c.def_ 32 (d := dd__law_body) (by rfl)
  case d33 => exact c.def_ 33 (d := dd__law_program) (by rfl)
  case d34 => exact c.def_ 34 (d := dd__law_ways) (by rfl)
  case d35 => exact c.def_ 35 (d := dd__law_cells) (by rfl)
  case d36 => exact c.def_ 36 (d := dd__law_begun) (by rfl)
  case d37 => exact c.def_ 37 (d := dd__law_new) (by rfl)
  case d38 => exact c.def_ 38 (d := dd__law_meets) (by rfl)
  case d39 => exact c.def_ 39 (d := dd__law_road) (by rfl)
  case d40 => exact c.def_ 40 (d := dd__law_worth) (by rfl)
  case d41 => exact c.def_ 41 (d := dd__law_handed) (by rfl)
  case d42 => exact c.def_ 42 (d := dd__law_does) (by rfl)
  case d43 => exact c.def_ 43 (d := dd__law_goes) (by rfl)
  case d44 => exact c.def_ 44 (d := dd__law_ran) (by rfl)
  case d45 => exact c.def_ 45 (d := dd__law_out) (by rfl)
  case d46 => exact c.def_ 46 (d := dd__law_changed) (by rfl)
  case d47 => exact c.def_ 47 (d := dd_law) (by rfl)
end Hw
set_option maxRecDepth 100000
set_option maxHeartbeats 0
open PySem PySem.W PySem.Calls PyProof.Rows
theorem PySem.Challenge.cw_handways_k07_whole_ways_that_may_be_chan_holds : PySem.Challenge.rw_handways_k07_whole_ways_that_may_be_chan.Holds := by
  w_on; o_law
  refine HandSHeadRun.head_any (r := OpenLaw.row PySem.Challenge.rw_handways_k07_whole_ways_that_may_be_chan) (q := view (OpenLaw.row PySem.Challenge.rw_handways_k07_whole_ways_that_may_be_chan).prog [57]) (H := Hw.hk) (ob := Hw.ob) (M := 8000) (loose := Hw.loose)
    (d := HandSHeadRun.topDef (OpenLaw.row PySem.Challenge.rw_handways_k07_whole_ways_that_may_be_chan).prog 57) (kwd := []) Hw.ob_eq (by kernel_rfl) (fun s => by kernel_rfl) Hw.run (by kernel_rfl) (by kernel_rfl) (by kernel_rfl) (by rfl)
    (by first | assumption | decide +kernel) (by decide +kernel) ⟨rfl, rfl, rfl, rfl, rfl, by decide +kernel⟩ ?hw ?hc
  case hw => w_witness2
  case hc =>
    refine L2.walk_ofE (l := PySem.Challenge.rw_handways_k07_whole_ways_that_may_be_chan) (n := 63) (k := 133) (x := "_law_script") (CX := L2.CX0) rfl (by decide) (by kernel_rfl) ⟨rfl, by decide, by decide⟩ ?F (fun _ _ _ _ z => z)
    intro w mg fa h Y G hmg0
    obtain ⟨K, KX, y⟩ := Y
    have T := Hw.tx_of KX G y
    have e : (HandSHeadRun.topDef (OpenLaw.row PySem.Challenge.rw_handways_k07_whole_ways_that_may_be_chan).prog 57).name = ("law" : PySem.Str) := by kernel_rfl
    rw [e] at hmg0
    have e2 := hmg0.symm.trans T.g_law
    cases e2
    have b := L2.FunD.bindsA (ps := ["_law_script"]) T.F_law fun _ _ _ _ _ _ us hl => match us, hl with | [_], _ => rfl
    exact ⟨K, T.fd_law, Hw.spLaw K, KX, fun s v => b s [v] rfl, fun H a ns hl _ hS => ⟨a, ns, rfl, hS, hl, fun _ => rfl⟩, fun base _ _ => Hw.law_ok T⟩
