import PyProof.Rows.All
import Wide.All
import OpenK.AllK
import Wide.FinOn
import HandS.ForMost
import HandS.Evl
import HandS.Deep
import HandS.TupAny
import HandS.IsInst
import HandS.Zip
import HandS.RevRange
import HandS.Defaults
import HandS.Exc
import HandS.HeadHook4
import HandS.HeadEnd
import HandS.Head2
import PySem.Challenge.RW_handways_k06_who_may_set_what
import HandS.ForExc
import KE.GoesEnum
import KE.GoesMore
import KE.GoesZip
set_option Elab.async false
set_option linter.all false
set_option maxRecDepth 100000
set_option maxHeartbeats 4000000
/-! W1: data (tuples within tuples) as values, what expressions are worth as data -/
namespace Hw
open PySem PySem.Spec PyProof.Rows L2 Evl
theorem filter_not_isEmpty {α : Type} {f : α → Bool} : ∀ xs : List α, (xs.filter fun t => !f t).isEmpty = xs.all f
  | [] => rfl
  | x :: r => by
    rw [List.filter_cons, List.all_cons]
    cases h : f x with
    | true => simpa using filter_not_isEmpty (f := f) r
    | false => simp

/-! ### data that never changes -/
mutual
inductive Td (K : PySem.W.Frag) (H : Hp) : V → PyData → Prop
  | non : Td K H .non .none
  | bl (b : Bool) : Td K H (.bl b) (.bool b)
  | int (i : Int) : Td K H (.int i) (.int i)
  | str (x : Str) : Td K H (.str x) (.str x)
  | tup {a : Addr} {xs : List V} {ds : List PyData} : SqT K H a xs → TdAll K H xs ds → Td K H (.ref a) (.tuple ds)
inductive TdAll (K : PySem.W.Frag) (H : Hp) : List V → List PyData → Prop
  | nil : TdAll K H [] []
  | cons {v : V} {vs : List V} {d : PyData} {ds : List PyData} : Td K H v d → TdAll K H vs ds → TdAll K H (v :: vs) (d :: ds)
end
/-- tuples stay as they stand -/
def Keep (K : PySem.W.Frag) (H H' : Hp) : Prop := ∀ a xs, SqT K H a xs → SqT K H' a xs
section
variable {K : PySem.W.Frag} {H H' H1 H2 : Hp}
theorem Keep.refl : Keep K H H := fun _ _ h => h
theorem Keep.trans (a : Keep K H H1) (b : Keep K H1 H2) : Keep K H H2 := fun x xs h => b x xs (a x xs h)
theorem ex_keep (e : Ex H H') : Keep K H H' := fun _ _ h => ex_t e h
theorem Keep.upd {a : Addr} {o u : HO} (h : H a = some u) (m : Mut (some u)) : Keep K H (upd H a o) := fun b xs q => by
  rcases q with (q | ⟨oo, q⟩) | q
  · refine .inl (.inl ?_)
    rw [upd_ne]
    · exact q
    · intro z
      subst z
      rw [h] at q
      cases q
      exact m
  · refine .inl (.inr ⟨oo, ?_⟩)
    rw [upd_ne]
    · exact q
    · intro z
      subst z
      rw [h] at q
      cases q
      exact m
  · exact .inr q
mutual
theorem Td.keep (k : Keep K H H') : ∀ (d : PyData) {v : V}, Td K H v d → Td K H' v d
  | .none, _, h => by cases h; exact .non
  | .bool _, _, h => by cases h; exact .bl _
  | .int _, _, h => by cases h; exact .int _
  | .str _, _, h => by cases h; exact .str _
  | .list _, _, h => by cases h
  | .tuple ds, _, h => by
    cases h with
    | tup hs ha => exact .tup (k _ _ hs) (TdAll.keep k ds ha)
  | .dict _, _, h => by cases h
theorem TdAll.keep (k : Keep K H H') : ∀ (ds : List PyData) {vs : List V}, TdAll K H vs ds → TdAll K H' vs ds
  | [], _, h => by cases h; exact .nil
  | d :: ds, _, h => by
    cases h with
    | cons a b => exact .cons (Td.keep k d a) (TdAll.keep k ds b)
end
theorem Td.kp {d : PyData} {v : V} (h : Td K H v d) (k : Keep K H H') : Td K H' v d := Td.keep k d h
theorem TdAll.kp {d : List PyData} {v : List V} (h : TdAll K H v d) (k : Keep K H H') : TdAll K H' v d := TdAll.keep k d h
theorem Td.ex {d : PyData} {v : V} (h : Td K H v d) (e : Ex H H') : Td K H' v d := h.kp (ex_keep e)
theorem TdAll.ex {d : List PyData} {v : List V} (h : TdAll K H v d) (e : Ex H H') : TdAll K H' v d := h.kp (ex_keep e)
mutual
theorem Td.dp : ∀ (d : PyData) {v : V}, Td K H v d → Dp K H v d
  | .none, _, h => by cases h; exact .non
  | .bool _, _, h => by cases h; exact .bl _
  | .int _, _, h => by cases h; exact .int _
  | .str _, _, h => by cases h; exact .str _
  | .list _, _, h => by cases h
  | .tuple ds, _, h => by
    cases h with
    | tup hs ha => exact .tup hs (TdAll.dp ds ha)
  | .dict _, _, h => by cases h
theorem TdAll.dp : ∀ (ds : List PyData) {vs : List V}, TdAll K H vs ds → DpAll K H vs ds
  | [], _, h => by cases h; exact .nil
  | d :: ds, _, h => by
    cases h with
    | cons a b => exact .cons (Td.dp d a) (TdAll.dp ds b)
end
theorem TdAll.length : ∀ {ds : List PyData} {vs : List V}, TdAll K H vs ds → vs.length = ds.length
  | [], _, h => by cases h; rfl
  | d :: ds, _, h => by
    cases h with
    | cons a b => simp [TdAll.length b]
theorem TdAll.get : ∀ {ds : List PyData} {vs : List V} {i : Nat} {d : PyData}, TdAll K H vs ds → ds[i]? = some d → ∃ v, vs[i]? = some v ∧ Td K H v d
  | [], _, _, _, _, e => by simp at e
  | d :: ds, _, i, d', h, e => by
    cases h with
    | cons a b =>
      cases i with
      | zero => simp at e; subst e; exact ⟨_, rfl, a⟩
      | succ i => simp at e; simpa using TdAll.get b e
theorem TdAll.getV : ∀ {ds : List PyData} {vs : List V} {i : Nat} {v : V}, TdAll K H vs ds → vs[i]? = some v → ∃ d, ds[i]? = some d ∧ Td K H v d
  | [], _, _, _, h, e => by cases h; simp at e
  | d :: ds, _, i, v', h, e => by
    cases h with
    | cons a b =>
      cases i with
      | zero => simp at e; subst e; exact ⟨_, rfl, a⟩
      | succ i => simp at e; simpa using TdAll.getV b e
theorem TdAll.append : ∀ {ds es : List PyData} {vs us : List V}, TdAll K H vs ds → TdAll K H us es → TdAll K H (vs ++ us) (ds ++ es)
  | [], _, _, _, h, g => by cases h; exact g
  | d :: ds, _, _, _, h, g => by
    cases h with
    | cons a b => exact .cons a (TdAll.append b g)
theorem TdAll.snoc {ds : List PyData} {vs : List V} {d : PyData} {v : V} (h : TdAll K H vs ds) (g : Td K H v d) : TdAll K H (vs ++ [v]) (ds ++ [d]) := h.append (.cons g .nil)
theorem TdAll.take : ∀ {ds : List PyData} {vs : List V} (n : Nat), TdAll K H vs ds → TdAll K H (vs.take n) (ds.take n)
  | _, _, 0, _ => .nil
  | [], _, n + 1, h => by cases h; exact .nil
  | d :: ds, _, n + 1, h => by
    cases h with
    | cons a b => exact .cons a (TdAll.take n b)
theorem TdAll.drop : ∀ {ds : List PyData} {vs : List V} (n : Nat), TdAll K H vs ds → TdAll K H (vs.drop n) (ds.drop n)
  | _, _, 0, h => h
  | [], _, n + 1, h => by cases h; exact .nil
  | d :: ds, _, n + 1, h => by
    cases h with
    | cons a b => exact TdAll.drop n b
theorem Td.tup_inv {v : V} {ds : List PyData} (h : Td K H v (.tuple ds)) : ∃ a xs, v = .ref a ∧ SqT K H a xs ∧ TdAll K H xs ds := by
  cases h with
  | tup hs ha => exact ⟨_, _, rfl, hs, ha⟩
theorem atI_td {ds : List PyData} {vs : List V} {i : Int} {d : PyData} (h : TdAll K H vs ds) (e : atI ds i = some d) : ∃ v, atI vs i = some v ∧ Td K H v d := by
  unfold atI at e ⊢
  rw [h.length]
  cases hi : ixN ds.length i with
  | none => rw [hi] at e; cases e
  | some j =>
    rw [hi] at e
    exact h.get e
end

/-! ### what is worth which data -/
def EvD (K : PySem.W.Frag) (te : TE) (σ : L2.St) (H : Hp) (d : PyData) : Prop := ∀ H1, Ex H H1 → ∀ Q : VK, (∀ v H2, Ex H1 H2 → Td K H2 v d → Q v H2) → te σ H1 Q
def EvDA (K : PySem.W.Frag) (ta : TA) (σ : L2.St) (H : Hp) (ds : List PyData) : Prop := ∀ H1, Ex H H1 → ∀ Q : List V → Hp → Prop, (∀ vs H2, Ex H1 H2 → TdAll K H2 vs ds → Q vs H2) → ta σ H1 Q
/-- a test's answer (K is only carried) -/
def EvTK (_ : PySem.W.Frag) (t : TT) (σ : L2.St) (H : Hp) (b : Bool) : Prop := EvT t σ H b
/-- a new list of data -/
def EvDL (K : PySem.W.Frag) (te : TE) (σ : L2.St) (H : Hp) (ds : List PyData) : Prop := ∀ H1, Ex H H1 → ∀ Q : VK, (∀ p xs H2, H1 p = none → Ex H1 H2 → H2 p = some (.lst xs) → TdAll K H2 xs ds → Q (.ref p) H2) → te σ H1 Q
/-- a list of data, to be read -/
def EvDR (K : PySem.W.Frag) (te : TE) (σ : L2.St) (H : Hp) (ds : List PyData) : Prop := ∀ H1, Ex H H1 → ∀ Q : VK, (∀ p xs H2, Ex H1 H2 → SqL K H2 p xs → TdAll K H2 xs ds → Q (.ref p) H2) → te σ H1 Q
section
variable {K : PySem.W.Frag} {σ : L2.St} {H H' : Hp} {ta tb te tx : TE} {t u : TT} {x y z v : V} {r : R2} {d e f : PyData} {ds es : List PyData} {i j k : Int}
theorem EvD.mono (a : Ex H H') (h : EvD K te σ H d) : EvD K te σ H' d := fun H1 b Q q => h H1 (a.trans b) Q q
theorem EvDA.mono {ta : TA} (a : Ex H H') (h : EvDA K ta σ H ds) : EvDA K ta σ H' ds := fun H1 b Q q => h H1 (a.trans b) Q q
theorem EvDL.mono (a : Ex H H') (h : EvDL K te σ H ds) : EvDL K te σ H' ds := fun H1 b Q q => h H1 (a.trans b) Q q
theorem EvDR.mono (a : Ex H H') (h : EvDR K te σ H ds) : EvDR K te σ H' ds := fun H1 b Q q => h H1 (a.trans b) Q q
theorem EvDL.rd (h : EvDL K te σ H ds) : EvDR K te σ H ds := fun H1 a Q q => h H1 a Q fun p xs H2 _ e2 hp ht => q p xs H2 e2 (SqL.of hp) ht
theorem edl_is (h : EvDL K te σ H ds) (q : ds = es) : EvDL K te σ H es := q ▸ h
theorem EvD.iv (h : EvD K te σ H (.int i)) : Ev te σ H (.int i) := fun H1 a Q q => h H1 a Q fun v H2 e2 td => by cases td; exact q H2 e2
theorem EvD.sv {s : Str} (h : EvD K te σ H (.str s)) : Ev te σ H (.str s) := fun H1 a Q q => h H1 a Q fun v H2 e2 td => by cases td; exact q H2 e2
theorem EvD.bv {b : Bool} (h : EvD K te σ H (.bool b)) : Ev te σ H (.bl b) := fun H1 a Q q => h H1 a Q fun v H2 e2 td => by cases td; exact q H2 e2
theorem EvD.nv (h : EvD K te σ H .none) : Ev te σ H .non := fun H1 a Q q => h H1 a Q fun v H2 e2 td => by cases td; exact q H2 e2
theorem ev_d (h : Ev te σ H v) (t : ∀ H, Td K H v d) : EvD K te σ H d := fun H1 a Q q => h H1 a Q fun H2 e2 => q v H2 e2 (t H2)
theorem ed_i (h : Ev te σ H (.int i)) : EvD K te σ H (.int i) := ev_d h fun _ => .int _
theorem ed_b {b : Bool} (h : Ev te σ H (.bl b)) : EvD K te σ H (.bool b) := ev_d h fun _ => .bl _
theorem ed_s {s : Str} (h : Ev te σ H (.str s)) : EvD K te σ H (.str s) := ev_d h fun _ => .str _
theorem ed_is (h : EvD K te σ H d) (q : d = e) : EvD K te σ H e := q ▸ h
theorem ed_var {n : Nat} (h : σ[n]? = some (some v)) (td : Td K H v d) : EvD K (tVar n) σ H d := fun H1 a _ q => ⟨v, h, q v H1 (Ex.refl H1) (td.ex a)⟩
theorem ed_ci : EvD K (tC (.int i)) σ H (.int i) := fun H1 _ _ q => q _ H1 (Ex.refl H1) (.int _)
theorem ed_cs {s : Str} : EvD K (tC (.str s)) σ H (.str s) := fun H1 _ _ q => q _ H1 (Ex.refl H1) (.str _)
theorem ed_cb {b : Bool} : EvD K (tC (.bl b)) σ H (.bool b) := fun H1 _ _ q => q _ H1 (Ex.refl H1) (.bl _)
theorem ed_cn : EvD K (tC .non) σ H .none := fun H1 _ _ q => q _ H1 (Ex.refl H1) .non
theorem ed_ct {a : Addr} (td : Td K H (.ref a) d) : EvD K (tC (.ref a)) σ H d := fun H1 e1 _ q => q _ H1 (Ex.refl H1) (td.ex e1)
theorem ed_cg {a : Addr} (td : ∀ H, Td K H (.ref a) d) : EvD K (tC (.ref a)) σ H d := fun H1 e1 _ q => q _ H1 (Ex.refl H1) (td H1)
theorem edr_var {n : Nat} {a : Addr} {xs : List V} (h : σ[n]? = some (some (.ref a))) (hl : SqL K H a xs) (td : TdAll K H xs ds) : EvDR K (tVar n) σ H ds := fun H1 e1 _ q => ⟨.ref a, h, q a xs H1 (Ex.refl H1) (ex_l e1 hl) (td.ex e1)⟩
theorem ed_ixT (ha : EvD K ta σ H (.tuple ds)) (hb : EvD K tb σ H (.int i)) (hd : atI ds i = some d) : EvD K (tOp (rIxT K) ta tb) σ H d := fun H1 a Q q =>
  ha H1 a _ fun v H2 e2 t2 => by
    obtain ⟨p, xs, rfl, hs, hall⟩ := t2.tup_inv
    refine hb.iv H2 (a.trans e2) _ fun H3 e3 => ?_
    obtain ⟨w, hw, tw⟩ := atI_td (hall.ex e3) hd
    exact ⟨p, xs, i, w, rfl, rfl, ex_t e3 hs, hw, q w H3 (e2.trans e3) tw⟩
theorem ed_ixL (ha : EvDR K ta σ H ds) (hb : EvD K tb σ H (.int i)) (hd : atI ds i = some d) : EvD K (tOp (rIxL K) ta tb) σ H d := fun H1 a Q q =>
  ha H1 a _ fun p xs H2 e2 hs hall => by
    refine hb.iv H2 (a.trans e2) _ fun H3 e3 => ?_
    obtain ⟨w, hw, tw⟩ := atI_td (hall.ex e3) hd
    exact ⟨p, xs, i, w, rfl, rfl, ex_l e3 hs, hw, q w H3 (e2.trans e3) tw⟩
theorem ed_I0i {g : Int → Int → Int} (ha : EvD K ta σ H (.int i)) (hb : EvD K tb σ H (.int j)) : EvD K (tOp (rI0 fun i j => .int (g i j)) ta tb) σ H (.int (g i j)) := ed_i (ev_op ha.iv hb.iv rv_I0)
theorem ed_I0b {g : Int → Int → Bool} (ha : EvD K ta σ H (.int i)) (hb : EvD K tb σ H (.int j)) : EvD K (tOp (rI0 fun i j => .bl (g i j)) ta tb) σ H (.bool (g i j)) := ed_b (ev_op ha.iv hb.iv rv_I0)
theorem ed_Ii {C : Int → Int → Prop} {g : Int → Int → Int} (ha : EvD K ta σ H (.int i)) (hb : EvD K tb σ H (.int j)) (hc : C i j) : EvD K (tOp (rI C fun i j => .int (g i j)) ta tb) σ H (.int (g i j)) := ed_i (ev_op ha.iv hb.iv (rv_I hc))
theorem ed_eqi (ha : EvD K ta σ H (.int i)) (hb : EvD K tb σ H (.int j)) : EvD K (tOp rEq ta tb) σ H (.bool (decide (i = j))) := ed_is (ed_b (ev_op ha.iv hb.iv (rv_eq rfl))) (by simp)
theorem ed_nei (ha : EvD K ta σ H (.int i)) (hb : EvD K tb σ H (.int j)) : EvD K (tOp rNe ta tb) σ H (.bool (!decide (i = j))) := ed_is (ed_b (ev_op ha.iv hb.iv (rv_ne rfl))) (by simp)
theorem ed_tup {ta : TA} (h : EvDA K ta σ H ds) (hl : ds.length ≤ 100000) : EvD K (tTup ta) σ H (.tuple ds) := fun H1 a _ q =>
  h H1 a _ fun vs H2 e2 t2 => ⟨by rw [t2.length]; exact sz_of hl, fun p hp => q _ _ (e2.trans (Ex.new hp)) (.tup (SqT.of upd_same) (t2.ex (Ex.new hp)))⟩
theorem edl_lst {ta : TA} (h : EvDA K ta σ H ds) (hl : ds.length ≤ 100000) : EvDL K (tLst ta) σ H ds := fun H1 a _ q =>
  h H1 a _ fun vs H2 e2 t2 => ⟨by rw [t2.length]; exact sz_of hl, fun p hp => q _ _ _ (fresh_back e2 hp) (e2.trans (Ex.new hp)) upd_same (t2.ex (Ex.new hp))⟩
theorem eda_nil : EvDA K tNil σ H [] := fun H1 _ _ q => q [] H1 (Ex.refl H1) .nil
theorem eda_cons {tr : TA} (h : EvD K ta σ H d) (hr : EvDA K tr σ H ds) : EvDA K (tCons ta tr) σ H (d :: ds) := fun H1 a _ q =>
  h H1 a _ fun v H2 e2 t2 => hr H2 (a.trans e2) _ fun vs H3 e3 t3 => q _ H3 (e2.trans e3) (.cons (t2.ex e3) t3)
theorem ed_len (h : EvD K ta σ H (.tuple ds)) : EvD K (tCB (rLenS K) (tCons ta tNil)) σ H (.int (ds.length : Int)) := fun H1 a Q q =>
  h H1 a _ fun v H2 e2 t2 => by
    obtain ⟨p, xs, rfl, hs, hall⟩ := t2.tup_inv
    refine ⟨p, xs, rfl, Or.inr hs, ?_⟩
    rw [hall.length]
    exact q _ H2 e2 (.int _)
theorem ed_lenL (h : EvDR K ta σ H ds) : EvD K (tCB (rLenS K) (tCons ta tNil)) σ H (.int (ds.length : Int)) := fun H1 a Q q =>
  h H1 a _ fun p xs H2 e2 hs ht => by
    refine ⟨p, xs, rfl, Or.inl hs, ?_⟩
    rw [ht.length]
    exact q _ H2 e2 (.int _)
theorem ed_andV {a b : Bool} (h1 : EvD K ta σ H (.bool a)) (h2 : a = true → EvD K tb σ H (.bool b)) : EvD K (tAndV ta tb) σ H (.bool (a && b)) := ed_b (ev_andV h1.bv fun q => (h2 q).bv)
theorem ed_orV {a b : Bool} (h1 : EvD K ta σ H (.bool a)) (h2 : a = false → EvD K tb σ H (.bool b)) : EvD K (tOrV ta tb) σ H (.bool (a || b)) := ed_b (ev_orV h1.bv fun q => (h2 q).bv)
theorem ed_andF (h1 : EvD K ta σ H (.bool false)) : EvD K (tAndV ta tb) σ H (.bool false) := fun H1 a Q q => h1.bv H1 a _ fun H2 e2 => ⟨false, rfl, (show Q (.bl false) H2 from q _ H2 e2 (.bl _))⟩
theorem ed_orT (h1 : EvD K ta σ H (.bool true)) : EvD K (tOrV ta tb) σ H (.bool true) := fun H1 a Q q => h1.bv H1 a _ fun H2 e2 => ⟨true, rfl, (show Q (.bl true) H2 from q _ H2 e2 (.bl _))⟩
theorem tk_andF (h1 : EvTK K t σ H false) : EvTK K (tAnd t u) σ H false := et_and (b := false) h1 fun q => nomatch q
theorem tk_orT (h1 : EvTK K t σ H true) : EvTK K (tOr t u) σ H true := et_or (b := true) h1 fun q => nomatch q
theorem tk_and {a b : Bool} (h1 : EvTK K t σ H a) (h2 : a = true → EvTK K u σ H b) : EvTK K (tAnd t u) σ H (a && b) := et_and h1 h2
theorem tk_or {a b : Bool} (h1 : EvTK K t σ H a) (h2 : a = false → EvTK K u σ H b) : EvTK K (tOr t u) σ H (a || b) := et_or h1 h2
theorem tk_not {a : Bool} (h1 : EvTK K t σ H a) : EvTK K (tNot t) σ H (!a) := et_not h1
theorem tk_notT (h1 : EvTK K t σ H true) : EvTK K (tNot t) σ H false := et_not h1
theorem tk_notF (h1 : EvTK K t σ H false) : EvTK K (tNot t) σ H true := et_not h1
theorem tk_yes : EvTK K tYes σ H true := fun H1 _ _ q => q H1 (Ex.refl H1)
theorem tk_is {a b : Bool} (h : EvTK K t σ H a) (e : a = b) : EvTK K t σ H b := e ▸ h
theorem ed_ifT (h : EvTK K t σ H true) (h1 : EvD K ta σ H d) : EvD K (tIf t ta tb) σ H d := fun H1 a Q q => h H1 a _ fun H2 e2 => h1 H2 (a.trans e2) Q fun v H3 e3 => q v H3 (e2.trans e3)
theorem ed_ifF (h : EvTK K t σ H false) (h1 : EvD K tb σ H d) : EvD K (tIf t ta tb) σ H d := fun H1 a Q q => h H1 a _ fun H2 e2 => h1 H2 (a.trans e2) Q fun v H3 e3 => q v H3 (e2.trans e3)
theorem ed_notV {a : Bool} (h1 : EvD K ta σ H (.bool a)) : EvD K (tNotV ta) σ H (.bool (!a)) := ed_b (ev_notV h1.bv)
theorem ed_notT (h1 : EvD K ta σ H (.bool true)) : EvD K (tNotV ta) σ H (.bool false) := ed_notV h1
theorem ed_notF (h1 : EvD K ta σ H (.bool false)) : EvD K (tNotV ta) σ H (.bool true) := ed_notV h1
theorem ed_if {b : Bool} (h : EvTK K t σ H b) (h1 : b = true → EvD K ta σ H d) (h2 : b = false → EvD K tb σ H d) : EvD K (tIf t ta tb) σ H d := fun H1 a Q q => h H1 a _ fun H2 e2 => by
  cases b with
  | true =>
    show ta σ H2 Q
    exact h1 rfl H2 (a.trans e2) Q fun v H3 e3 => q v H3 (e2.trans e3)
  | false =>
    show tb σ H2 Q
    exact h2 rfl H2 (a.trans e2) Q fun v H3 e3 => q v H3 (e2.trans e3)
theorem tk_v {b : Bool} (h : EvD K te σ H (.bool b)) : EvTK K (tTest te) σ H b := et_test h.bv
theorem tk_vB {b : Bool} (h : EvD K te σ H (.bool b)) : EvTK K (tB te) σ H b := et_B h.bv
/-- a < b < c -/
theorem ed_chain {g g' : Int → Int → Bool} (ha : EvD K ta σ H (.int i)) (hb : EvD K tb σ H (.int j)) (hc : g i j = true → EvD K tx σ H (.int k)) :
    EvD K (tChain (rI0 fun i j => .bl (g i j)) (rI0 fun i j => .bl (g' i j)) ta tb tx) σ H (.bool (g i j && g' j k)) := fun H1 a Q q =>
  ha.iv H1 a _ fun H2 e2 => hb.iv H2 (a.trans e2) _ fun H3 e3 => ⟨i, j, rfl, rfl, g i j, rfl, by
    cases hg : g i j with
    | true =>
      rw [if_pos rfl]
      rw [hg] at q
      exact (hc hg).iv H3 ((a.trans e2).trans e3) _ fun H4 e4 => ⟨j, k, rfl, rfl, q _ H4 ((e2.trans e3).trans e4) (.bl _)⟩
    | false =>
      rw [if_neg Bool.false_ne_true]
      rw [hg] at q
      exact q _ H3 (e2.trans e3) (.bl _)⟩
/-- is None -/
def noneD : PyData → Bool
  | .none => true
  | _ => false
theorem ed_isN (ha : EvD K ta σ H d) : EvD K (tIsN ta) σ H (.bool (noneD d)) := fun H1 a Q q => ha H1 a _ fun v H2 e2 t2 => by
  have e : decide (v = .non) = noneD d := by cases t2 <;> simp [noneD]
  rw [e]
  exact q _ H2 e2 (.bl _)
theorem ed_notN (ha : EvD K ta σ H d) : EvD K (tNotN ta) σ H (.bool (!noneD d)) := fun H1 a Q q => ha H1 a _ fun v H2 e2 t2 => by
  have e : decide (v = .non) = noneD d := by cases t2 <;> simp [noneD]
  rw [e]
  exact q _ H2 e2 (.bl _)
/-! flat data within a sequence -/
def flatD : PyData → Bool
  | .none | .bool _ | .int _ | .str _ => true
  | _ => false
theorem flat_td (h : Td K H v d) (f : flatD d = true) : flatV v = true := by cases h <;> first | rfl | cases f
theorem eqV_td {v w : V} (h : Td K H v d) (g : Td K H w e) (f : flatD d = true) (f2 : flatD e = true) : eqV v w = PyData.eqv d e := by
  cases h <;> cases g <;> first | rfl | cases f | cases f2 | simp [eqV, PyData.eqv]
theorem flatAll_td : ∀ {es : List PyData} {vs : List V}, TdAll K H vs es → es.all flatD = true → vs.all flatV = true
  | [], _, h, _ => by cases h; rfl
  | e :: es, _, h, f => by
    cases h with
    | cons a b =>
      simp only [List.all_cons, Bool.and_eq_true] at f ⊢
      exact ⟨flat_td a f.1, flatAll_td b f.2⟩
theorem inV_td : ∀ {es : List PyData} {vs : List V} {v : V}, TdAll K H vs es → Td K H v d → flatD d = true → es.all flatD = true → inV v vs = es.any fun z => PyData.eqv z d
  | [], _, _, h, _, _, _ => by cases h; rfl
  | e :: es, _, _, h, t, f, f2 => by
    cases h with
    | cons a b =>
      simp only [List.all_cons, Bool.and_eq_true] at f2
      have ih := inV_td b t f f2.2
      unfold inV at ih ⊢
      rw [List.any_cons, List.any_cons, ih, eqV_td a t f2.1 f]
theorem ed_inT (ha : EvD K ta σ H d) (hb : EvD K tb σ H (.tuple es)) (fd : flatD d = true) (fe : es.all flatD = true) : EvD K (tOp (rIn K false) ta tb) σ H (.bool (es.any fun z => PyData.eqv z d)) := fun H1 a Q q =>
  ha H1 a _ fun v H2 e2 t2 => hb H2 (a.trans e2) _ fun w H3 e3 t3 => by
    obtain ⟨p, xs, rfl, hs, hall⟩ := t3.tup_inv
    refine ⟨p, xs, rfl, .inr hs, flat_td t2 fd, flatAll_td hall fe, ?_⟩
    show Q (.bl (inV v xs)) H3
    rw [inV_td hall (t2.ex e3) fd fe]
    exact q _ H3 (e2.trans e3) (.bl _)
theorem ed_niT (ha : EvD K ta σ H d) (hb : EvD K tb σ H (.tuple es)) (fd : flatD d = true) (fe : es.all flatD = true) : EvD K (tOp (rIn K true) ta tb) σ H (.bool (!es.any fun z => PyData.eqv z d)) := fun H1 a Q q =>
  ha H1 a _ fun v H2 e2 t2 => hb H2 (a.trans e2) _ fun w H3 e3 t3 => by
    obtain ⟨p, xs, rfl, hs, hall⟩ := t3.tup_inv
    refine ⟨p, xs, rfl, .inr hs, flat_td t2 fd, flatAll_td hall fe, ?_⟩
    show Q (.bl (!inV v xs)) H3
    rw [inV_td hall (t2.ex e3) fd fe]
    exact q _ H3 (e2.trans e3) (.bl _)
/-! isinstance -/
def tyD : PyData → String
  | .none => "NoneType"
  | .bool _ => "bool"
  | .int _ => "int"
  | .str _ => "str"
  | .list _ => "list"
  | .tuple _ => "tuple"
  | .dict _ => "dict"
theorem tyx_td (h : Td K H v d) : TyX K H v (.type (tyD d)) := by
  cases h with
  | non => exact .base .non
  | bl b => exact .base (.bl b)
  | int i => exact .base (.int i)
  | str x => exact .base (.str x)
  | tup hs _ =>
    rcases hs with (hs | ⟨o, hs⟩) | ⟨o, its, n, hk, hc, _⟩
    · exact .base (.tup hs)
    · exact .fTuple hs
    · exact .kTuple hk hc
theorem ed_isi {b : Bool} {n : String} (ha : EvD K ta σ H d) (hk : kitB (tyD d) n = some b) : EvD K (tCB (rIsi K) (tCons ta (tCons (tC (.ty n)) tNil))) σ H (.bool b) := fun H1 a Q q =>
  ha H1 a _ fun v H2 e2 t2 => ⟨v, .ty n, _, _, b, rfl, .ty n, tyx_td t2, kit_ty hk, q _ H2 e2 (.bl _)⟩
/-! == of data of any depth, where one of both is not deep -/
def rEqM (K : PySem.W.Frag) : R2 := fun x y H Q => ∃ d e, Dp K H x d ∧ Dp K H y e ∧ d.canLay0 = true ∧ e.canLay0 = true ∧ min d.depth e.depth ≤ 64 ∧ Q (.bl (PyData.eqv d e)) H
def rNeM (K : PySem.W.Frag) : R2 := fun x y H Q => ∃ d e, Dp K H x d ∧ Dp K H y e ∧ d.canLay0 = true ∧ e.canLay0 = true ∧ min d.depth e.depth ≤ 64 ∧ Q (.bl (!PyData.eqv d e)) H
theorem op_eqM {X : Cx} (hu : X.A.units + 64 < cLine) : OpR X (compareOp .Eq) (rEqM X.K) := by
  intro pins s σ H x y v u Q I rx ry h
  obtain ⟨d, e, hd, he, sd, se, hm, q⟩ := h
  obtain ⟨as, r1⟩ := Dp.reads I d x v hd rx
  obtain ⟨bs, r2⟩ := Dp.reads I e y u he ry
  exact SeqAt.compareEq_reads r1 r2 sd se (by omega) ⟨.bl _, H, I, rfl, q⟩
theorem op_neM {X : Cx} (hu : X.A.units + 64 < cLine) : OpR X (compareOp .NotEq) (rNeM X.K) := by
  intro pins s σ H x y v u Q I rx ry h
  obtain ⟨d, e, hd, he, sd, se, hm, q⟩ := h
  obtain ⟨as, r1⟩ := Dp.reads I d x v hd rx
  obtain ⟨bs, r2⟩ := Dp.reads I e y u he ry
  exact SeqAt.compareNe_reads r1 r2 sd se (by omega) ⟨.bl _, H, I, rfl, q⟩
theorem ed_eqM (ha : EvD K ta σ H d) (hb : EvD K tb σ H e) (sd : d.canLay0 = true) (se : e.canLay0 = true) (hm : min d.depth e.depth ≤ 64) : EvD K (tOp (rEqM K) ta tb) σ H (.bool (PyData.eqv d e)) := fun H1 a Q q =>
  ha H1 a _ fun v H2 e2 t2 => hb H2 (a.trans e2) _ fun w H3 e3 t3 => ⟨d, e, (t2.ex e3).dp, t3.dp, sd, se, hm, q _ H3 (e2.trans e3) (.bl _)⟩
theorem ed_neM (ha : EvD K ta σ H d) (hb : EvD K tb σ H e) (sd : d.canLay0 = true) (se : e.canLay0 = true) (hm : min d.depth e.depth ≤ 64) : EvD K (tOp (rNeM K) ta tb) σ H (.bool (!PyData.eqv d e)) := fun H1 a Q q =>
  ha H1 a _ fun v H2 e2 t2 => hb H2 (a.trans e2) _ fun w H3 e3 t3 => ⟨d, e, (t2.ex e3).dp, t3.dp, sd, se, hm, q _ H3 (e2.trans e3) (.bl _)⟩
/-- a text on the right -/
theorem ed_eqS {s : Str} (ha : EvD K ta σ H d) (hb : EvD K tb σ H (.str s)) (sd : d.canLay0 = true) (ss : (PyData.str s).canLay0 = true) : EvD K (tOp (rEqM K) ta tb) σ H (.bool (PyData.eqv d (.str s))) := ed_eqM ha hb sd ss (by simp [PyData.depth])
theorem ed_neS {s : Str} (ha : EvD K ta σ H d) (hb : EvD K tb σ H (.str s)) (sd : d.canLay0 = true) (ss : (PyData.str s).canLay0 = true) : EvD K (tOp (rNeM K) ta tb) σ H (.bool (!PyData.eqv d (.str s))) := ed_neM ha hb sd ss (by simp [PyData.depth])
/-- a list of data and the empty list -/
theorem ed_eqN (ha : EvDR K ta σ H ds) (hb : EvDL K tb σ H []) (sd : PyData.canLayAll0 ds = true) : EvD K (tOp (rEqM K) ta tb) σ H (.bool ds.isEmpty) := fun H1 a Q q =>
  ha H1 a _ fun p xs H2 e2 hs ht => hb H2 (a.trans e2) _ fun w ys H3 _ e3 hw hy => by
    refine ⟨.list ds, .list [], .lst (ex_l e3 hs) (ht.ex e3).dp, .lst (SqL.of hw) hy.dp, (show PyData.canLay0 (.list ds) = true by simpa [PyData.canLay0] using sd), rfl, by simp [PyData.depth, PyData.depthAll], ?_⟩
    have e : PyData.eqv (.list ds) (.list []) = ds.isEmpty := by cases ds <;> simp [PyData.eqv, PyData.eqvAll]
    rw [e]
    exact q _ H3 (e2.trans e3) (.bl _)
theorem ed_neN (ha : EvDR K ta σ H ds) (hb : EvDL K tb σ H []) (sd : PyData.canLayAll0 ds = true) : EvD K (tOp (rNeM K) ta tb) σ H (.bool (!ds.isEmpty)) := fun H1 a Q q =>
  ha H1 a _ fun p xs H2 e2 hs ht => hb H2 (a.trans e2) _ fun w ys H3 _ e3 hw hy => by
    refine ⟨.list ds, .list [], .lst (ex_l e3 hs) (ht.ex e3).dp, .lst (SqL.of hw) hy.dp, (show PyData.canLay0 (.list ds) = true by simpa [PyData.canLay0] using sd), rfl, by simp [PyData.depth, PyData.depthAll], ?_⟩
    have e : PyData.eqv (.list ds) (.list []) = ds.isEmpty := by cases ds <;> simp [PyData.eqv, PyData.eqvAll]
    rw [e]
    exact q _ H3 (e2.trans e3) (.bl _)
/-! slices, + -/
def cutD (ds : List PyData) (lo hi : Option Int) : List PyData := (ds.drop (HT.sIx ds.length 0 lo)).take (HT.sIx ds.length ds.length hi - HT.sIx ds.length 0 lo)
theorem TdAll.cut {vs : List V} (h : TdAll K H vs ds) (lo hi : Option Int) : TdAll K H (cutV vs lo hi) (cutD ds lo hi) := by
  unfold cutV cutD
  rw [h.length]
  exact (h.drop _).take _
def EvOK (_ : PySem.W.Frag) (to : TO) (σ : L2.St) (H : Hp) (o : Option Int) : Prop := EvO to σ H o
theorem eok_some (h : EvD K te σ H (.int i)) : EvOK K (tPart te) σ H (some i) := eo_some h.iv
theorem eok_none : EvOK K tNoPart σ H none := eo_none
theorem ed_sl {tl th : TO} {lo hi : Option Int} (h : EvD K te σ H (.tuple ds)) (h1 : EvOK K tl σ H lo) (h2 : EvOK K th σ H hi) : EvD K (tSl (rSlA K) te tl th) σ H (.tuple (cutD ds lo hi)) := fun H1 a Q q =>
  h H1 a _ fun v H2 e2 t2 => by
    obtain ⟨p, xs, rfl, hs, hall⟩ := t2.tup_inv
    refine h1 H2 (a.trans e2) _ fun H3 e3 => h2 H3 ((a.trans e2).trans e3) _ fun H4 e4 => ?_
    have hs4 := ex_t (e3.trans e4) hs
    have ha4 := hall.ex (e3.trans e4)
    refine ⟨p, xs, rfl, hs4, fun hw => ?_, fun _ n hn => ?_⟩
    · refine q _ H4 ((e2.trans e3).trans e4) ?_
      have hl := hall.length
      have e : cutD ds lo hi = ds := by
        unfold cutD
        rw [← hl, hw.1, hw.2, List.drop_zero, hl]
        simp
      rw [e]
      exact .tup hs4 ha4
    · exact q _ _ (((e2.trans e3).trans e4).trans (Ex.new hn)) (.tup (SqT.of upd_same) ((ha4.cut lo hi).ex (Ex.new hn)))
theorem ed_cat (ha : EvD K ta σ H (.tuple ds)) (hb : EvD K tb σ H (.tuple es)) (hl : ds.length + es.length ≤ 100000) : EvD K (tOp (rCatA K) ta tb) σ H (.tuple (ds ++ es)) := fun H1 a Q q =>
  ha H1 a _ fun v H2 e2 t2 => hb H2 (a.trans e2) _ fun w H3 e3 t3 => by
    obtain ⟨p, xs, rfl, hs, hall⟩ := t2.tup_inv
    obtain ⟨p2, ys, rfl, hs2, hall2⟩ := t3.tup_inv
    have l1 := hall.length
    have l2 := hall2.length
    refine ⟨p, p2, xs, ys, rfl, rfl, ex_t e3 hs, hs2, sz_of (by omega), fun hx => ?_, fun _ hy => ?_, fun _ _ n hn => ?_⟩
    · subst hx
      cases hall
      exact q _ H3 (e2.trans e3) (.tup hs2 hall2)
    · subst hy
      cases hall2
      rw [List.append_nil] at q
      exact q _ H3 (e2.trans e3) (.tup (ex_t e3 hs) (hall.ex e3))
    · exact q _ _ ((e2.trans e3).trans (Ex.new hn)) (.tup (SqT.of upd_same) (((hall.ex e3).append hall2).ex (Ex.new hn)))
/-- tuple(a list of data) -/
def rTupS (K : PySem.W.Frag) : List V → Hp → VK → Prop := fun xs H Q => ∃ p ys, xs = [.ref p] ∧ ((SqL K H p ys ∧ ∀ l, H l = none → Q (.ref l) (upd H l (.tup ys))) ∨ (SqT K H p ys ∧ Q (.ref p) H))
theorem ed_tupL (h : EvDR K ta σ H ds) : EvD K (tCB (rTupS K) (tCons ta tNil)) σ H (.tuple ds) := fun H1 a Q q =>
  h H1 a _ fun p xs H2 e2 hs ht => ⟨p, xs, rfl, .inl ⟨hs, fun l hl => q _ _ (e2.trans (Ex.new hl)) (.tup (SqT.of upd_same) (ht.ex (Ex.new hl)))⟩⟩
theorem edl_lstT (h : EvD K ta σ H (.tuple ds)) : EvDL K (tCB (rListS K) (tCons ta tNil)) σ H ds := fun H1 a Q q =>
  h H1 a _ fun v H2 e2 t2 => by
    obtain ⟨p, xs, rfl, hs, hall⟩ := t2.tup_inv
    exact ⟨p, xs, rfl, .inr hs, fun l hl => q l xs _ (fresh_back e2 hl) (e2.trans (Ex.new hl)) upd_same (hall.ex (Ex.new hl))⟩
/-- sum of a list of ints -/
theorem td_ints : ∀ {ns : List Int} {xs : List V}, TdAll K H xs (ns.map PyData.int) → xs = ns.map V.int
  | [], _, h => by cases h; rfl
  | n :: ns, _, h => by
    cases h with
    | cons a b => cases a; rw [td_ints b]; rfl
theorem ed_sum {ns : List Int} (h : EvDR K ta σ H (ns.map PyData.int)) : EvD K (tCB (rSum K) (tCons ta tNil)) σ H (.int ns.sum) := fun H1 a Q q =>
  h H1 a _ fun p xs H2 e2 hs ht => ⟨p, ns, rfl, by rw [← td_ints ht]; exact hs, q _ H2 e2 (.int _)⟩
/-! constants of the top -/
theorem pe_gint {X : Cx} {x : Str} {i : Int} {pos : Pos} (hg : Gl X x) (hm : ∃ t, X.mg x = some (.int i t)) (hd : (x == ("__debug__" : Str)) = false := by decide) : PE X (.Name x pos) (tC (.int i)) := by
  obtain ⟨t, ht⟩ := hm
  exact pe_glob hg ht ⟨_, rfl⟩ hd
theorem pe_gstr {X : Cx} {x z : Str} {pos : Pos} (hg : Gl X x) (hm : ∃ t, X.mg x = some (.str z t)) (hd : (x == ("__debug__" : Str)) = false := by decide) : PE X (.Name x pos) (tC (.str z)) := by
  obtain ⟨t, ht⟩ := hm
  exact pe_glob hg ht ⟨_, rfl⟩ hd
/-! calls -/
def spF (K : PySem.W.Frag) (P : List PyData → PyData → Prop) : Sp := fun vs H Q _ => ∃ ds d, TdAll K H vs ds ∧ P ds d ∧ ∀ v H', Ex H H' → Td K H' v d → Q v H'
theorem ed_call {P : List PyData → PyData → Prop} {E : XK} {ta : TA} (h : EvDA K ta σ H ds) (hp : P ds d) : EvD K (tCall (spF K P) [] E ta) σ H d := fun H1 a Q q =>
  h H1 a _ fun vs H2 e2 t2 => by
    rw [List.append_nil]
    exact ⟨ds, d, t2, hp, fun v H3 e3 t3 => q v H3 (e2.trans e3) t3⟩
theorem spF_len {P : List PyData → PyData → Prop} {n : Nat} (h : ∀ ds d, P ds d → ds.length = n) (vs : List V) (H : Hp) (Q : VK) (E : XK) (q : spF K P vs H Q E) : vs.length = n := by
  obtain ⟨ds, d, ht, hp, _⟩ := q
  rw [ht.length, h ds d hp]
/-- a promise that asks what can't be -/
theorem fn_vac {P : Program} {w : World} {mg : Str → Option Value} {base : Heap} {CX : CXT} {k : Nat} {f : Addr} {fd : FuncData} {ps : List Str} {sp : Sp} (no : ∀ vs H Q E, ¬ sp vs H Q E) : FnOk P w K mg base CX k f fd ps sp :=
  ⟨fun vs H Q E h => absurd h (no vs H Q E), fun A outer s H args us vs Q E _ _ _ _ h => absurd h (no vs H Q E)⟩
end
end Hw

set_option maxRecDepth 100000
set_option maxHeartbeats 4000000
/-! W2: comprehensions and loops over data -/
namespace Hw
open PySem PySem.Spec PyProof.Rows L2 Evl
section
variable {K : PySem.W.Frag} {σ : L2.St} {H H' : Hp} {ta tb te tx : TE} {t u : TT} {x y z v : V} {d e f : PyData} {ds es : List PyData} {i j k : Int}
/-- what a comprehension has made so far -/
def Cd (K : PySem.W.Frag) (H : Hp) (Dl : Addr) (es : List PyData) (H' : Hp) : Prop := H Dl = none ∧ Ex H H' ∧ ∃ acc, H' Dl = some (.lst acc) ∧ TdAll K H' acc es
theorem cd_step {Dl : Addr} {b : Bool} {e : PyData} {H' : Hp} {σ2 : L2.St} (p : Cd K H Dl es H') (hl : es.length < 50000) (ht : EvTK K t σ2 H b) (he : b = true → EvD K te σ2 H e) :
    t σ2 H' fun c H3 => if c = true then te σ2 H3 fun y H4 => ∃ acc, H4 Dl = some (.lst acc) ∧ acc.length < sizeLine ∧ Cd K H Dl (if b then es ++ [e] else es) (upd H4 Dl (.lst (acc ++ [y]))) else Cd K H Dl (if b then es ++ [e] else es) H3 := by
  obtain ⟨p1, p2, acc, p3, p4⟩ := p
  refine ht H' p2 _ fun H3 e3 => ?_
  cases b with
  | true =>
    rw [if_pos rfl]
    refine he rfl H3 (p2.trans e3) _ fun v H4 e4 t4 => ⟨acc, e4 Dl _ (e3 Dl _ p3), by rw [p4.length]; exact sz_lt (by omega), p1, Ex.mut ((p2.trans e3).trans e4) p1, acc ++ [v], upd_same, ?_⟩
    have k : Keep K H4 (upd H4 Dl (.lst (acc ++ [v]))) := Keep.upd (e4 Dl _ (e3 Dl _ p3)) True.intro
    exact ((p4.ex (e3.trans e4)).kp k).snoc (t4.kp k)
  | false =>
    rw [if_neg Bool.false_ne_true]
    exact ⟨p1, p2.trans e3, acc, e3 Dl _ p3, p4.ex e3⟩
theorem filt_snoc {α : Type} {xs : List α} {p : α → Bool} {g : α → PyData} {n : Nat} {d : α} (h : xs[n]? = some d) : ((xs.take (n + 1)).filter p).map g = if p d then ((xs.take n).filter p).map g ++ [g d] else ((xs.take n).filter p).map g := by
  rw [List.take_add_one, h]
  simp only [Option.toList_some, List.filter_append, List.map_append, List.filter_cons, List.filter_nil]
  split <;> simp
theorem filt_len {α : Type} {xs : List α} {p : α → Bool} {g : α → PyData} (n : Nat) : (((xs.take n).filter p).map g).length ≤ xs.length := by
  rw [List.length_map]
  refine Nat.le_trans (List.length_filter_le _ _) ?_
  rw [List.length_take]
  omega
/-- [e for x in a tuple if t], the items told as xs.map f -/
theorem edl_lcM {α : Type} {tl : TE} {j : Nat} {vs : List Nat} (xs : List α) (f : α → PyData) (p : α → Bool) (g : α → PyData) (h : EvD K tl σ H (.tuple ds)) (hds : ds = xs.map f) (hz : xs.length ≤ 40000) (hw : ∀ x, wipe ((wipe σ vs).set j (some x)) vs = wipe σ vs)
    (ht : ∀ (x : α) (v : V) H1, Ex H H1 → x ∈ xs → Td K H1 v (f x) → EvTK K t ((wipe σ vs).set j (some v)) H1 (p x))
    (he : ∀ (x : α) (v : V) H1, Ex H H1 → x ∈ xs → p x = true → Td K H1 v (f x) → EvD K te ((wipe σ vs).set j (some v)) H1 (g x)) :
    EvDL K (tLc (iTup K tl) (gName j) t te vs) σ H ((xs.filter p).map g) := fun H0 e Q q => h H0 e _ fun w H1 e1 tw => by
  obtain ⟨a, ys, rfl, hx, hall⟩ := tw.tup_inv
  subst hds
  refine ⟨a, rfl, ⟨ys, hx⟩, fun Dl hD => ?_⟩
  refine lc_tup (xs := ys) (fun i H' => Cd K H1 Dl (((xs.take i).filter p).map g) H') ⟨hD, Ex.new hD, [], upd_same, by simpa using TdAll.nil⟩ (fun i H' _ c => ex_t c.2.1 hx) (fun i x H' hi c => ⟨hw x, ?_⟩) (fun H' c => ?_)
  · obtain ⟨d, hd, td⟩ := hall.getV hi
    rw [List.getElem?_map] at hd
    obtain ⟨z, hz2, rfl⟩ := Option.map_eq_some_iff.mp hd
    have hm : z ∈ xs := List.mem_of_getElem? hz2
    have := cd_step (te := te) (e := g z) c (by have := filt_len (xs := xs) (p := p) (g := g) i; omega) (ht z x H1 (e.trans e1) hm td) (fun hb => he z x H1 (e.trans e1) hm hb td)
    rw [filt_snoc hz2]
    exact this
  · obtain ⟨c1, c2, acc, c3, c4⟩ := c
    rw [hall.length, List.length_map, List.take_length] at c4
    exact q Dl acc H' (fresh_back e1 c1) (e1.trans c2) c3 c4
theorem edl_lcML {α : Type} {tl : TE} {j : Nat} {vs : List Nat} (xs : List α) (f : α → PyData) (p : α → Bool) (g : α → PyData) (h : EvDR K tl σ H ds) (hds : ds = xs.map f) (hz : xs.length ≤ 40000) (hw : ∀ x, wipe ((wipe σ vs).set j (some x)) vs = wipe σ vs)
    (ht : ∀ (x : α) (v : V) H1, Ex H H1 → x ∈ xs → Td K H1 v (f x) → EvTK K t ((wipe σ vs).set j (some v)) H1 (p x))
    (he : ∀ (x : α) (v : V) H1, Ex H H1 → x ∈ xs → p x = true → Td K H1 v (f x) → EvD K te ((wipe σ vs).set j (some v)) H1 (g x)) :
    EvDL K (tLc (iList K tl) (gName j) t te vs) σ H ((xs.filter p).map g) := fun H0 e Q q => h H0 e _ fun a ys H1 e1 hx hall => by
  subst hds
  refine ⟨a, rfl, ⟨ys, hx⟩, fun Dl hD => ?_⟩
  refine lc_list (xs := ys) (fun i H' => Cd K H1 Dl (((xs.take i).filter p).map g) H') ⟨hD, Ex.new hD, [], upd_same, by simpa using TdAll.nil⟩ (fun i H' _ c => ex_l c.2.1 hx) (fun i x H' hi c => ⟨hw x, ?_⟩) (fun H' c => ?_)
  · obtain ⟨d, hd, td⟩ := hall.getV hi
    rw [List.getElem?_map] at hd
    obtain ⟨z, hz2, rfl⟩ := Option.map_eq_some_iff.mp hd
    have hm : z ∈ xs := List.mem_of_getElem? hz2
    have := cd_step (te := te) (e := g z) c (by have := filt_len (xs := xs) (p := p) (g := g) i; omega) (ht z x H1 (e.trans e1) hm td) (fun hb => he z x H1 (e.trans e1) hm hb td)
    rw [filt_snoc hz2]
    exact this
  · obtain ⟨c1, c2, acc, c3, c4⟩ := c
    rw [hall.length, List.length_map, List.take_length] at c4
    exact q Dl acc H' (fresh_back e1 c1) (e1.trans c2) c3 c4
def rngD (n : Nat) : List PyData := (List.range n).map fun i => PyData.int ((i : Nat) : Int)
theorem rngD_length (n : Nat) : (rngD n).length = n := by simp [rngD]
theorem rngD_get {n i : Nat} (h : i < n) : (rngD n)[i]? = some (.int (i : Int)) := by
  unfold rngD
  rw [List.getElem?_map, List.getElem?_range h]
  rfl
theorem edl_lcR {ta : TA} {j : Nat} {vs : List Nat} {n : Nat} (p : Nat → Bool) (g : Nat → PyData) (h : EvDA K ta σ H [.int (n : Int)]) (hz : n ≤ 40000) (hw : ∀ x, wipe ((wipe σ vs).set j (some x)) vs = wipe σ vs)
    (ht : ∀ (i : Nat) H1, Ex H H1 → i < n → EvTK K t ((wipe σ vs).set j (some (.int (i : Int)))) H1 (p i))
    (he : ∀ (i : Nat) H1, Ex H H1 → i < n → p i = true → EvD K te ((wipe σ vs).set j (some (.int (i : Int)))) H1 (g i)) :
    EvDL K (tLc (iRng1 ta) (gName j) t te vs) σ H (((List.range n).filter p).map g) := fun H0 e Q q => h H0 e _ fun ws H1 e1 tw => by
  cases tw with
  | cons tw1 tw2 =>
    cases tw1
    cases tw2
    refine ⟨(n : Int), rfl, by omega, by omega, fun Dl hD => ?_⟩
    have en : ((n : Int)).toNat = n := by simp
    rw [en]
    refine lc_range (lo := 0) (n := n) (fun i H' => Cd K H1 Dl (((List.range i).filter p).map g) H') ⟨hD, Ex.new hD, [], upd_same, by simpa using TdAll.nil⟩ (fun i H' hi c => ?_) (fun H' c => ?_)
    · have e0 : (0 : Int) + (i : Int) = (i : Int) := Int.zero_add _
      show wipe ((wipe σ vs).set j (some (.int ((0 : Int) + (i : Int))))) vs = wipe σ vs ∧ _
      rw [e0]
      refine ⟨hw _, ?_⟩
      have hlen : (((List.range i).filter p).map g).length < 50000 := by
        rw [List.length_map]
        have := List.length_filter_le p (List.range i)
        rw [List.length_range] at this
        omega
      have := cd_step (te := te) (e := g i) c hlen (ht i H1 (e.trans e1) hi) (fun hb => he i H1 (e.trans e1) hi hb)
      have es : ((List.range (i + 1)).filter p).map g = if p i then ((List.range i).filter p).map g ++ [g i] else ((List.range i).filter p).map g := by
        rw [List.range_succ, List.filter_append, List.map_append, List.filter_cons]
        split <;> simp
      rw [es]
      exact this
    · obtain ⟨c1, c2, acc, c3, c4⟩ := c
      exact q Dl acc H' (fresh_back e1 c1) (e1.trans c2) c3 c4

/-! ### statements -/
variable {D : Ends} {tu tw tz : TS} {g : TG}
theorem sd_asg {i : Nat} (h : EvD K te σ H d) (k : ∀ v H1, Ex H H1 → Td K H1 v d → D.nx (σ.set i (some v)) H1) : tAsg te (gName i) D σ H := h H (Ex.refl H) _ fun v H1 e t => k v H1 e t
theorem qd_asg {i : Nat} (h : EvD K te σ H d) (k : ∀ v H1, Ex H H1 → Td K H1 v d → tz D (σ.set i (some v)) H1) : tSeq (tAsg te (gName i)) tz D σ H := sd_asg (D := { D with nx := tz D }) h k
theorem sd_asgL {i : Nat} (h : EvDL K te σ H ds) (k : ∀ p xs H1, H p = none → Ex H H1 → H1 p = some (.lst xs) → TdAll K H1 xs ds → D.nx (σ.set i (some (.ref p))) H1) : tAsg te (gName i) D σ H := h H (Ex.refl H) _ fun p xs H1 hp e h1 t => k p xs H1 hp e h1 t
theorem qd_asgL {i : Nat} (h : EvDL K te σ H ds) (k : ∀ p xs H1, H p = none → Ex H H1 → H1 p = some (.lst xs) → TdAll K H1 xs ds → tz D (σ.set i (some (.ref p))) H1) : tSeq (tAsg te (gName i)) tz D σ H := sd_asgL (D := { D with nx := tz D }) h k
theorem sd_ret (h : EvD K te σ H d) (k : ∀ v H1, Ex H H1 → Td K H1 v d → D.rt v H1) : tRet te D σ H := h H (Ex.refl H) _ k
theorem sd_retL (h : EvDL K te σ H ds) (k : ∀ p xs H1, H p = none → Ex H H1 → H1 p = some (.lst xs) → TdAll K H1 xs ds → D.rt (.ref p) H1) : tRet te D σ H := h H (Ex.refl H) _ k
theorem sd_drop (h : EvD K te σ H d) (k : ∀ H1, Ex H H1 → D.nx σ H1) : tDrop te D σ H := h H (Ex.refl H) _ fun _ H1 e _ => k H1 e
/-! from any heap that extends H -/
def Pst (_ : PySem.W.Frag) (t : TS) (D : Ends) (σ : L2.St) (H : Hp) : Prop := ∀ H1, Ex H H1 → t D σ H1
theorem Pst.go {t : TS} (h : Pst K t D σ H) : t D σ H := h H (Ex.refl H)
theorem pst_asg {i : Nat} (h : EvD K te σ H d) (k : ∀ v H1, Ex H H1 → Td K H1 v d → Pst K tz D (σ.set i (some v)) H1) : Pst K (tSeq (tAsg te (gName i)) tz) D σ H := fun H1 a => h H1 a _ fun v H2 e t => k v H2 (a.trans e) t H2 (Ex.refl H2)
theorem pst_asg1 {i : Nat} (h : EvD K te σ H d) (k : ∀ v H1, Ex H H1 → Td K H1 v d → D.nx (σ.set i (some v)) H1) : Pst K (tAsg te (gName i)) D σ H := fun H1 a => h H1 a _ fun v H2 e t => k v H2 (a.trans e) t
theorem pst_asgL {i : Nat} (h : EvDL K te σ H ds) (k : ∀ p xs H1, H p = none → Ex H H1 → H1 p = some (.lst xs) → TdAll K H1 xs ds → Pst K tz D (σ.set i (some (.ref p))) H1) : Pst K (tSeq (tAsg te (gName i)) tz) D σ H :=
  fun H1 a => h H1 a _ fun p xs H2 hp e h2 t => k p xs H2 (fresh_back a hp) (a.trans e) h2 t H2 (Ex.refl H2)
theorem pst_ret (h : EvD K te σ H d) (k : ∀ v H1, Ex H H1 → Td K H1 v d → D.rt v H1) : Pst K (tRet te) D σ H := fun H1 a => h H1 a _ fun v H2 e t => k v H2 (a.trans e) t
theorem pst_retL (h : EvDL K te σ H ds) (k : ∀ p xs H1, H p = none → Ex H H1 → H1 p = some (.lst xs) → TdAll K H1 xs ds → D.rt (.ref p) H1) : Pst K (tRet te) D σ H := fun H1 a => h H1 a _ fun p xs H2 hp e h2 t => k p xs H2 (fresh_back a hp) (a.trans e) h2 t
theorem pst_if {b : Bool} (h : EvTK K t σ H b) (h1 : b = true → Pst K tu D σ H) (h2 : b = false → Pst K tw D σ H) : Pst K (tIfS t tu tw) D σ H := fun H1 a => h H1 a _ fun H2 e => by
  cases b with
  | true => exact h1 rfl H2 (a.trans e)
  | false => exact h2 rfl H2 (a.trans e)
theorem pst_when {b : Bool} (h : EvTK K t σ H b) (h1 : b = true → Pst K tu { D with nx := tz D } σ H) (h2 : b = false → Pst K tz D σ H) : Pst K (tSeq (tIfS t tu tNext) tz) D σ H := fun H1 a => h H1 a _ fun H2 e => by
  cases b with
  | true => exact h1 rfl H2 (a.trans e)
  | false => exact h2 rfl H2 (a.trans e)
theorem pst_whenF {b : Bool} (h : EvTK K t σ H b) (hb : b = false) (h2 : Pst K tz D σ H) : Pst K (tSeq (tIfS t tu tNext) tz) D σ H := pst_when h (fun q => by rw [hb] at q; cases q) fun _ => h2
theorem pst_whenT {b : Bool} (h : EvTK K t σ H b) (hb : b = true) (h1 : Pst K tu { D with nx := tz D } σ H) : Pst K (tSeq (tIfS t tu tNext) tz) D σ H := pst_when h (fun _ => h1) fun q => by rw [hb] at q; cases q
theorem pst_drop (h : EvD K te σ H d) (k : Pst K tz D σ H) : Pst K (tSeq (tDrop te) tz) D σ H := fun H1 a => h H1 a _ fun v H2 e _ => k H2 (a.trans e)
/-- a, b, c = e -/
theorem pst_unp3 {i j l : Nat} {d1 d2 d3 : PyData} (h : EvD K te σ H (.tuple [d1, d2, d3]))
    (k : ∀ v1 v2 v3 H1, Ex H H1 → Td K H1 v1 d1 → Td K H1 v2 d2 → Td K H1 v3 d3 → Pst K tz D (((σ.set i (some v1)).set j (some v2)).set l (some v3)) H1) :
    Pst K (tSeq (tAsg te (gTup K 3 (gCons (gName i) (gCons (gName j) (gCons (gName l) gNil))))) tz) D σ H := fun H1 a => h H1 a _ fun v H2 e t => by
  obtain ⟨p, xs, rfl, hs, hall⟩ := t.tup_inv
  obtain _ | ⟨u1, _ | ⟨u2, _ | ⟨u3, _ | _⟩⟩⟩ := hall
  exact ⟨p, _, rfl, hs, rfl, _, _, rfl, _, _, rfl, _, _, rfl, rfl, k _ _ _ H2 (a.trans e) u1 u2 u3 H2 (Ex.refl H2)⟩
/-! a written dict with text keys -/
def EvPs (trs : List (TE × TE)) (σ : L2.St) (H : Hp) (ps : List (V × V)) : Prop := ∀ H1, Ex H H1 → ∀ Q : List (V × V) → Hp → Prop, (∀ H2, Ex H1 H2 → Q ps H2) → tPairs trs σ H1 Q
theorem eps_nil : EvPs [] σ H [] := fun H1 _ _ q => q H1 (Ex.refl H1)
theorem eps_cons {tk tv : TE} {r : List (TE × TE)} {ps : List (V × V)} {x y : V} (h1 : Ev tk σ H x) (h2 : Ev tv σ H y) (h3 : EvPs r σ H ps) : EvPs ((tk, tv) :: r) σ H ((x, y) :: ps) := fun H1 a Q q =>
  h1 H1 a _ fun H2 e2 => h2 H2 (a.trans e2) _ fun H3 e3 => h3 H3 ((a.trans e2).trans e3) _ fun H4 e4 => q H4 ((e2.trans e3).trans e4)
theorem pst_disp {i : Nat} {trs : List (TE × TE)} (kvs : List (Key × V)) (h : EvPs trs σ H (kvs.map fun kv => (kV kv.1, kv.2))) (hl : kvs.length ≤ 15)
    (k : ∀ p H1, H p = none → Ex H H1 → H1 p = some (.dK (mergeK [] kvs)) → Pst K tz D (σ.set i (some (.ref p))) H1) : Pst K (tSeq (tAsg (tDisp trs) (gName i)) tz) D σ H := fun H1 a p hp => by
  refine h _ (a.trans (Ex.new hp)) _ fun H2 e2 => ⟨e2 p _ upd_same, kvs, rfl, hl, ?_⟩
  have hp0 := fresh_back a hp
  exact k p _ hp0 (Ex.mut ((a.trans (Ex.new hp)).trans e2) hp0) upd_same _ (Ex.refl _)
theorem ev_dget {n : Nat} {p : Addr} {kvs : List (Key × V)} {s : Str} {v : V} (hs : σ[n]? = some (some (.ref p))) (hp : H p = some (.dK kvs)) (hk : Ev te σ H (.str s)) (hv : valV kvs (Sum.inr s) = some v) : Ev (tDGet (tVar n) te) σ H v := fun H1 a Q q =>
  ⟨.ref p, hs, hk H1 a _ fun H2 e2 => ⟨p, v, rfl, by
    have := DGet.k (k := Sum.inr s) ((a.trans e2) p _ hp)
    rw [hv] at this
    exact this, q H2 e2⟩⟩
/-- for x in a tuple -/
theorem sd_forT {tl : TE} {j : Nat} (h : EvD K tl σ H (.tuple ds)) (Pv : Nat → L2.St → Hp → Prop) (h0 : ∀ H1, Ex H H1 → Pv 0 σ H1) (hl : ∀ i σ' H', i ≤ ds.length → Pv i σ' H' → ∀ H1, Ex H H1 → Pv 0 σ H1 → Keep K H1 H')
    (hs : ∀ i d v σ' H', ds[i]? = some d → Td K H' v d → Pv i σ' H' → tu { D with nx := Pv (i + 1), ct := Pv (i + 1), bk := D.nx } (σ'.set j (some v)) H') (hd : ∀ σ' H', Pv ds.length σ' H' → D.nx σ' H') : tFor (iTup K tl) (gName j) tu D σ H :=
  h H (Ex.refl H) _ fun v H1 e tv => by
    obtain ⟨a, xs, rfl, hx, hall⟩ := tv.tup_inv
    have hlen := hall.length
    refine ⟨a, rfl, ⟨xs, hx⟩, for_tup Pv (h0 H1 e) (fun i σ' H' hi p => hl i σ' H' (by omega) p H1 e (h0 H1 e) a xs hx) (fun i x σ' H' hi p => ?_) (fun σ' H' p => hd σ' H' (by rw [← hlen]; exact p))⟩
    obtain ⟨d, hdd, td⟩ := hall.getV hi
    have hi' : i < xs.length := (List.getElem?_eq_some_iff.mp hi).1
    exact hs i d x σ' H' hdd (td.kp (hl i σ' H' (by omega) p H1 e (h0 H1 e))) p
end
end Hw

set_option maxRecDepth 100000
set_option maxHeartbeats 4000000
/-! W3: the rules with the written part told (within a comprehension's block it is the same) -/
namespace Hw
open PySem PySem.Spec PyProof.Rows L2 Evl
def rInt1 : List V → Hp → VK → Prop := fun xs H Q => (∃ i, xs = [.int i] ∧ Q (.int i) H) ∨ ∃ k, xs = [.bl k] ∧ Q (.int (if k then 1 else 0)) H
theorem kc_int {X : Cx} : CallR X (.type "int") rInt1 := call_int1
theorem units65 {k : Nat} {A : Around} (r : Room k A) : A.units + 65 < cLine := by have := r.un; omega
section
variable {X : Cx} (K : PySem.W.Frag)
theorem kix_list (h : X.K = K := by rfl) : IxR X (rIxL K) := by subst h; exact ix_list
theorem kix_tup (h : X.K = K := by rfl) : IxR X (rIxT K) := by subst h; exact ix_tup
theorem ksl_list (h : X.K = K := by rfl) : SlR X (rSlL K) := by subst h; exact sl_list
theorem ksl_tup (h : X.K = K := by rfl) : SlR X (rSlA K) := by subst h; exact sl_tupA
theorem kop_cat (h : X.K = K := by rfl) : OpR X (binaryOp .Add) (rCatA K) := by subst h; exact op_catA
theorem kop_in (h : X.K = K := by rfl) : OpR X (compareOp .In) (rIn K false) := by subst h; exact op_in_seq
theorem kop_ni (h : X.K = K := by rfl) : OpR X (compareOp .NotIn) (rIn K true) := by subst h; exact op_notIn_seq
theorem kop_inD (hu : X.A.units + 65 < cLine) (h : X.K = K := by rfl) : OpR X (compareOp .In) (rInD K) := by subst h; exact op_inD hu
theorem kop_niD (hu : X.A.units + 65 < cLine) (h : X.K = K := by rfl) : OpR X (compareOp .NotIn) (rNotInD K) := by subst h; exact op_notInD hu
theorem kop_eq (hu : X.A.units + 64 < cLine) (h : X.K = K := by rfl) : OpR X (compareOp .Eq) (rEqM K) := by subst h; exact op_eqM hu
theorem kop_ne (hu : X.A.units + 64 < cLine) (h : X.K = K := by rfl) : OpR X (compareOp .NotEq) (rNeM K) := by subst h; exact op_neM hu
theorem kc_isi (h : X.K = K := by rfl) : CallR X (.builtin "isinstance") (rIsi K) := by subst h; exact call_isi
theorem kc_isiT (h : X.K = K := by rfl) : CallR X (.builtin "isinstance") (rIsiT K) := by subst h; exact call_isiT
theorem kc_len (h : X.K = K := by rfl) : CallR X (.builtin "len") (rLenS K) := by subst h; exact call_len_seq
theorem kc_list (h : X.K = K := by rfl) : CallR X (.type "list") (rListS K) := by subst h; exact call_list_of
theorem kc_tuple (h : X.K = K := by rfl) : CallR X (.type "tuple") (rTupS K) := by subst h; exact call_tuple_of
theorem kc_sum (h : X.K = K := by rfl) (hc : X.calm = true := by rfl) : CallR X (.builtin "sum") (rSum K) := by subst h; exact cr_sum hc
theorem kpi_list {l tg : Expr} {tl : TE} (hl : PE X l tl) (h : X.K = K := by rfl) : PI X tg l (iList K tl) := by subst h; exact pi_list hl
theorem kpi_tup {l tg : Expr} {tl : TE} (hl : PE X l tl) (h : X.K = K := by rfl) : PI X tg l (iTup K tl) := by subst h; exact pi_tup hl
theorem kpe_fld {e : Expr} {f : Str} {pos : Pos} {ta : TE} (he : PE X e ta) (hb : attributeBase e f X.env (eval e X.env) = eval e X.env := by rfl) (h : X.K = K := by rfl) : PE X (.Attribute e f pos) (tFld K ta f) := by subst h; exact pe_fld he hb
theorem kpg_tup {es : List Expr} {k : Nat} {t : TGs} {n : Nat} {pos : Pos} (hc : X.calm = true) (ht : PGs X es t) (hn : (assignEach es X.env).length = n := by rfl) (hst : (assignEach es X.env).findIdx? (·.1) = none := by rfl) (h : X.K = K := by rfl) : PG X (.Tuple es k pos) (gTup K n t) := by subst h; exact pg_tup hc ht hn hst
theorem kpi_zip {e e2 : Expr} {ta : TA} {p pos tpos : Pos} {elts : List Expr} {kk : Nat} (hg : Gl X "zip") (hm : X.mg "zip" = none) (ha : PA X [e, e2] ta)
    (hs : starEach [e, e2] X.env = (false, eval e X.env) :: starEach [e2] X.env := by rfl) (hpl : (backTo pos (starEach [e2] X.env)).any (·.1) = false := by rfl) (h : X.K = K := by rfl) :
    PI X (.Tuple elts kk tpos) (.Call (.Name "zip" p) [e, e2] [] pos) (RZ.iZipA K ta) := by subst h; exact RZ.pi_zipA hg hm ha hs hpl
end
section
variable {K : PySem.W.Frag} {σ : L2.St} {H H' : Hp} {D : Ends} {tu : TS} {ds es : List PyData}
/-- for a, b in zip(t, u), two tuples of one length; the heap is only added to -/
theorem pst_forZ {α β : Type} {ta : TA} {j l : Nat} (xs : List α) (ys : List β) (f : α → PyData) (g : β → PyData) (h : EvDA K ta σ H [.tuple (xs.map f), .tuple (ys.map g)]) (hl : xs.length = ys.length)
    (Pv : Nat → L2.St → Hp → Prop) (hst : ∀ i σ' H1 H2, Ex H1 H2 → Pv i σ' H1 → Pv i σ' H2) (h0 : Pv 0 σ H)
    (hs : ∀ i x y v u σ' H1, xs[i]? = some x → ys[i]? = some y → Ex H H1 → Td K H1 v (f x) → Td K H1 u (g y) → Pv i σ' H1 →
      ∀ N : L2.St → Hp → Prop, (∀ σ2 H2, Pv (i + 1) σ2 H2 → Ex H1 H2 → N σ2 H2) → Pst K tu { D with nx := N, ct := N, bk := D.nx } ((σ'.set j (some v)).set l (some u)) H1)
    (hd : ∀ σ' H1, Ex H H1 → Pv xs.length σ' H1 → D.nx σ' H1) : Pst K (tFor (RZ.iZipA K ta) (gTup K 2 (gCons (gName j) (gCons (gName l) gNil))) tu) D σ H := fun H1 a => h H1 a _ fun ws H2 e tw => by
  obtain _ | ⟨w1, _ | ⟨w2, _ | _⟩⟩ := tw
  obtain ⟨pa, xa, rfl, ha, alla⟩ := w1.tup_inv
  obtain ⟨pb, xb, rfl, hb, allb⟩ := w2.tup_inv
  have la := alla.length
  have lb := allb.length
  rw [List.length_map] at la lb
  have a2 := a.trans e
  refine ⟨pa, pb, xa, xb, rfl, .inr ⟨ha, hb, RZ.for_zipT (xs := xa) (ys := xb) (by omega) (fun i σ' H' => Pv i σ' H' ∧ Ex H H' ∧ Ex H2 H') ⟨hst _ _ _ _ a2 h0, a2, Ex.refl _⟩ (fun i σ' H' p => ⟨ex_t p.2.2 ha, ex_t p.2.2 hb⟩) (fun i x y T σ' H' hx hy p hT => ?_) (fun σ' H' p => hd σ' H' p.2.1 (by rw [← la]; exact p.1))⟩⟩
  obtain ⟨p1, p2, p3⟩ := p
  obtain ⟨d1, hd1, td1⟩ := alla.getV hx
  obtain ⟨d2, hd2, td2⟩ := allb.getV hy
  rw [List.getElem?_map] at hd1 hd2
  obtain ⟨z1, hz1, rfl⟩ := Option.map_eq_some_iff.mp hd1
  obtain ⟨z2, hz2, rfl⟩ := Option.map_eq_some_iff.mp hd2
  have e4 : Ex H' (upd H' T (.tup [x, y])) := Ex.new hT
  refine ⟨T, [x, y], rfl, SqT.of upd_same, rfl, x, [y], rfl, y, [], rfl, rfl, ?_⟩
  exact (hs i z1 z2 x y σ' (upd H' T (.tup [x, y])) hz1 hz2 (p2.trans e4) (td1.ex (p3.trans e4)) (td2.ex (p3.trans e4)) (hst _ _ _ _ e4 p1) _ fun σ2 H3 q1 q2 => ⟨q1, (p2.trans e4).trans q2, (p3.trans e4).trans q2⟩).go
variable {ta tb te tx : TE} {tz tw : TS} {r s : Addr} {xs : List V} {i j c : Int} {d : PyData} {n : Nat} {v : V}
/-- an int of a list that is known by its values -/
theorem ed_rowI (hs : σ[n]? = some (some (.ref r))) (hr : SqL K H r xs) (hb : EvD K tb σ H (.int i)) (ha : atI xs i = some (.int c)) : EvD K (tOp (rIxL K) (tVar n) tb) σ H (.int c) := ed_i (ev_op (ev_var hs) hb.iv (rv_ixL hr ha))
theorem ev_rowR (hs : σ[n]? = some (some (.ref r))) (hr : SqL K H r xs) (hb : EvD K tb σ H (.int i)) (ha : atI xs i = some v) : Ev (tOp (rIxL K) (tVar n) tb) σ H v := ev_op (ev_var hs) hb.iv (rv_ixL hr ha)
theorem ed_lenV (ha : Ev ta σ H (.ref r)) (hr : SqL K H r xs) : EvD K (tCB (rLenS K) (tCons ta tNil)) σ H (.int (xs.length : Int)) := ed_i (ev_len ha hr)
/-- l[i] = e, e an int -/
theorem pst_setI {l : Addr} {k : Nat} (hs : σ[n]? = some (some (.ref l))) (hl : H l = some (.lst xs)) (h : EvD K te σ H (.int c)) (hi : EvD K tb σ H (.int i)) (hk : ixN xs.length i = some k)
    (kk : ∀ H1, Ex H H1 → Pst K tz D σ (upd H1 l (.lst (xs.set k (.int c))))) : Pst K (tSeq (tAsg te (gSub (tVar n) tb rSetL)) tz) D σ H := fun H1 a =>
  h.iv H1 a _ fun H2 e2 => ⟨.ref l, hs, hi.iv H2 (a.trans e2) _ fun H3 e3 => ⟨l, xs, i, k, rfl, rfl, ((a.trans e2).trans e3) l _ hl, hk, kk H3 ((a.trans e2).trans e3) _ (Ex.refl _)⟩⟩
theorem pst_setI1 {l : Addr} {k : Nat} (hs : σ[n]? = some (some (.ref l))) (hl : H l = some (.lst xs)) (h : EvD K te σ H (.int c)) (hi : EvD K tb σ H (.int i)) (hk : ixN xs.length i = some k)
    (kk : ∀ H1, Ex H H1 → D.nx σ (upd H1 l (.lst (xs.set k (.int c))))) : Pst K (tAsg te (gSub (tVar n) tb rSetL)) D σ H := fun H1 a =>
  h.iv H1 a _ fun H2 e2 => ⟨.ref l, hs, hi.iv H2 (a.trans e2) _ fun H3 e3 => ⟨l, xs, i, k, rfl, rfl, ((a.trans e2).trans e3) l _ hl, hk, kk H3 ((a.trans e2).trans e3)⟩⟩
theorem ed_intb {b : Bool} (h : EvD K te σ H (.bool b)) : EvD K (tCB rInt1 (tCons te tNil)) σ H (.int (if b then 1 else 0)) := fun H1 a Q q => h.bv H1 a _ fun H2 e2 => .inr ⟨b, rfl, q _ H2 e2 (.int _)⟩
/-! what stands beside some addresses is kept -/
def Fr (S : List Addr) (H H' : Hp) : Prop := ∀ p o, p ∉ S → H p = some o → H' p = some o
theorem Fr.refl {S : List Addr} : Fr S H H := fun _ _ _ h => h
theorem Fr.trans {S : List Addr} {H1 H2 : Hp} (a : Fr S H H1) (b : Fr S H1 H2) : Fr S H H2 := fun p o h e => b p o h (a p o h e)
theorem Fr.of {S : List Addr} (e : Ex H H') : Fr S H H' := fun p o _ h => e p o h
theorem Fr.sub {S S' : List Addr} (f : Fr S H H') (h : ∀ a ∈ S, a ∈ S') : Fr S' H H' := fun p o hp e => f p o (fun q => hp (h p q)) e
theorem Fr.upd {S : List Addr} {a : Addr} {o : HO} (h : a ∈ S) : Fr S H (upd H a o) := fun p u hp e => by rw [upd_ne (fun q => hp (by rw [q]; exact h))]; exact e
theorem Fr.keep {S : List Addr} (f : Fr S H H') (m : ∀ a ∈ S, ∃ u, H a = some u ∧ Mut (some u)) : Keep K H H' := fun b xs q => by
  have ne : ∀ u, H b = some u → ¬ Mut (some u) → b ∉ S := fun u hu nm hb => by
    obtain ⟨u2, h2, m2⟩ := m b hb
    rw [hu] at h2
    cases h2
    exact nm m2
  rcases q with (q | ⟨oo, q⟩) | q
  · exact .inl (.inl (f b _ (ne _ q fun z => z) q))
  · exact .inl (.inr ⟨oo, f b _ (ne _ q fun z => z) q⟩)
  · exact .inr q
end
end Hw

set_option maxRecDepth 100000
set_option maxHeartbeats 4000000
/-! S1: programs as Lean data, how they stand as values, which of them are let by -/
namespace Hw
open PySem PySem.Spec PyProof.Rows L2 Evl

inductive Th where
  | num (n : Nat) | sum (a b : Th) | cell (t : Th) | own (k : Nat) | par (k : Nat)
  deriving DecidableEq
inductive Stm where
  | set (p t : Th) | say (t : Th) | ite (t : Th) (a b : List Stm) | call (w : Nat) (ts : List Th)
structure Wk where
  params : Nat
  owns : Nat
  body : List Stm
def encT : Th → PyData
  | .num n => .tuple [.str "num", .int (n : Int)]
  | .sum a b => .tuple [.str "sum", encT a, encT b]
  | .cell t => .tuple [.str "cell", encT t]
  | .own k => .tuple [.str "own", .int (k : Int)]
  | .par k => .tuple [.str "par", .int (k : Int)]
mutual
def encS : Stm → PyData
  | .set p t => .tuple [.str "set", encT p, encT t]
  | .say t => .tuple [.str "say", encT t]
  | .ite t a b => .tuple [.str "if", encT t, .tuple (encB a), .tuple (encB b)]
  | .call w ts => .tuple [.str "call", .int (w : Int), .tuple (ts.map encT)]
def encB : List Stm → List PyData
  | [] => []
  | s :: r => encS s :: encB r
end
def encW (w : Wk) : PyData := .tuple [.int (w.params : Int), .int (w.owns : Int), .tuple (encB w.body)]
def encP (p : List Wk) : PyData := .tuple (p.map encW)
theorem encB_map : ∀ b : List Stm, encB b = b.map encS
  | [] => by simp [encB]
  | s :: r => by simp [encB, encB_map r]
theorem encB_length (b : List Stm) : (encB b).length = b.length := by rw [encB_map, List.length_map]
/-! ### words -/
@[simp] theorem eqv_str_self (x : Str) : PyData.eqv (.str x) (.str x) = true := by simp [PyData.eqv]
@[simp] theorem w_back_copy : PyData.eqv (.str "back") (.str "copy") = false := by decide +kernel
@[simp] theorem w_back_place : PyData.eqv (.str "back") (.str "place") = false := by decide +kernel
@[simp] theorem w_back_want : PyData.eqv (.str "back") (.str "want") = false := by decide +kernel
@[simp] theorem w_call_cell : PyData.eqv (.str "call") (.str "cell") = false := by decide +kernel
@[simp] theorem w_call_if : PyData.eqv (.str "call") (.str "if") = false := by decide +kernel
@[simp] theorem w_call_num : PyData.eqv (.str "call") (.str "num") = false := by decide +kernel
@[simp] theorem w_call_own : PyData.eqv (.str "call") (.str "own") = false := by decide +kernel
@[simp] theorem w_call_par : PyData.eqv (.str "call") (.str "par") = false := by decide +kernel
@[simp] theorem w_call_say : PyData.eqv (.str "call") (.str "say") = false := by decide +kernel
@[simp] theorem w_call_set : PyData.eqv (.str "call") (.str "set") = false := by decide +kernel
@[simp] theorem w_call_sum : PyData.eqv (.str "call") (.str "sum") = false := by decide +kernel
@[simp] theorem w_cell_call : PyData.eqv (.str "cell") (.str "call") = false := by decide +kernel
@[simp] theorem w_cell_if : PyData.eqv (.str "cell") (.str "if") = false := by decide +kernel
@[simp] theorem w_cell_num : PyData.eqv (.str "cell") (.str "num") = false := by decide +kernel
@[simp] theorem w_cell_own : PyData.eqv (.str "cell") (.str "own") = false := by decide +kernel
@[simp] theorem w_cell_par : PyData.eqv (.str "cell") (.str "par") = false := by decide +kernel
@[simp] theorem w_cell_say : PyData.eqv (.str "cell") (.str "say") = false := by decide +kernel
@[simp] theorem w_cell_set : PyData.eqv (.str "cell") (.str "set") = false := by decide +kernel
@[simp] theorem w_cell_sum : PyData.eqv (.str "cell") (.str "sum") = false := by decide +kernel
@[simp] theorem w_copy_back : PyData.eqv (.str "copy") (.str "back") = false := by decide +kernel
@[simp] theorem w_copy_place : PyData.eqv (.str "copy") (.str "place") = false := by decide +kernel
@[simp] theorem w_copy_want : PyData.eqv (.str "copy") (.str "want") = false := by decide +kernel
@[simp] theorem w_if_call : PyData.eqv (.str "if") (.str "call") = false := by decide +kernel
@[simp] theorem w_if_cell : PyData.eqv (.str "if") (.str "cell") = false := by decide +kernel
@[simp] theorem w_if_num : PyData.eqv (.str "if") (.str "num") = false := by decide +kernel
@[simp] theorem w_if_own : PyData.eqv (.str "if") (.str "own") = false := by decide +kernel
@[simp] theorem w_if_par : PyData.eqv (.str "if") (.str "par") = false := by decide +kernel
@[simp] theorem w_if_say : PyData.eqv (.str "if") (.str "say") = false := by decide +kernel
@[simp] theorem w_if_set : PyData.eqv (.str "if") (.str "set") = false := by decide +kernel
@[simp] theorem w_if_sum : PyData.eqv (.str "if") (.str "sum") = false := by decide +kernel
@[simp] theorem w_num_call : PyData.eqv (.str "num") (.str "call") = false := by decide +kernel
@[simp] theorem w_num_cell : PyData.eqv (.str "num") (.str "cell") = false := by decide +kernel
@[simp] theorem w_num_if : PyData.eqv (.str "num") (.str "if") = false := by decide +kernel
@[simp] theorem w_num_own : PyData.eqv (.str "num") (.str "own") = false := by decide +kernel
@[simp] theorem w_num_par : PyData.eqv (.str "num") (.str "par") = false := by decide +kernel
@[simp] theorem w_num_say : PyData.eqv (.str "num") (.str "say") = false := by decide +kernel
@[simp] theorem w_num_set : PyData.eqv (.str "num") (.str "set") = false := by decide +kernel
@[simp] theorem w_num_sum : PyData.eqv (.str "num") (.str "sum") = false := by decide +kernel
@[simp] theorem w_own_call : PyData.eqv (.str "own") (.str "call") = false := by decide +kernel
@[simp] theorem w_own_cell : PyData.eqv (.str "own") (.str "cell") = false := by decide +kernel
@[simp] theorem w_own_if : PyData.eqv (.str "own") (.str "if") = false := by decide +kernel
@[simp] theorem w_own_num : PyData.eqv (.str "own") (.str "num") = false := by decide +kernel
@[simp] theorem w_own_par : PyData.eqv (.str "own") (.str "par") = false := by decide +kernel
@[simp] theorem w_own_say : PyData.eqv (.str "own") (.str "say") = false := by decide +kernel
@[simp] theorem w_own_set : PyData.eqv (.str "own") (.str "set") = false := by decide +kernel
@[simp] theorem w_own_sum : PyData.eqv (.str "own") (.str "sum") = false := by decide +kernel
@[simp] theorem w_par_call : PyData.eqv (.str "par") (.str "call") = false := by decide +kernel
@[simp] theorem w_par_cell : PyData.eqv (.str "par") (.str "cell") = false := by decide +kernel
@[simp] theorem w_par_if : PyData.eqv (.str "par") (.str "if") = false := by decide +kernel
@[simp] theorem w_par_num : PyData.eqv (.str "par") (.str "num") = false := by decide +kernel
@[simp] theorem w_par_own : PyData.eqv (.str "par") (.str "own") = false := by decide +kernel
@[simp] theorem w_par_say : PyData.eqv (.str "par") (.str "say") = false := by decide +kernel
@[simp] theorem w_par_set : PyData.eqv (.str "par") (.str "set") = false := by decide +kernel
@[simp] theorem w_par_sum : PyData.eqv (.str "par") (.str "sum") = false := by decide +kernel
@[simp] theorem w_place_back : PyData.eqv (.str "place") (.str "back") = false := by decide +kernel
@[simp] theorem w_place_copy : PyData.eqv (.str "place") (.str "copy") = false := by decide +kernel
@[simp] theorem w_place_want : PyData.eqv (.str "place") (.str "want") = false := by decide +kernel
@[simp] theorem w_say_call : PyData.eqv (.str "say") (.str "call") = false := by decide +kernel
@[simp] theorem w_say_cell : PyData.eqv (.str "say") (.str "cell") = false := by decide +kernel
@[simp] theorem w_say_if : PyData.eqv (.str "say") (.str "if") = false := by decide +kernel
@[simp] theorem w_say_num : PyData.eqv (.str "say") (.str "num") = false := by decide +kernel
@[simp] theorem w_say_own : PyData.eqv (.str "say") (.str "own") = false := by decide +kernel
@[simp] theorem w_say_par : PyData.eqv (.str "say") (.str "par") = false := by decide +kernel
@[simp] theorem w_say_set : PyData.eqv (.str "say") (.str "set") = false := by decide +kernel
@[simp] theorem w_say_sum : PyData.eqv (.str "say") (.str "sum") = false := by decide +kernel
@[simp] theorem w_set_call : PyData.eqv (.str "set") (.str "call") = false := by decide +kernel
@[simp] theorem w_set_cell : PyData.eqv (.str "set") (.str "cell") = false := by decide +kernel
@[simp] theorem w_set_if : PyData.eqv (.str "set") (.str "if") = false := by decide +kernel
@[simp] theorem w_set_num : PyData.eqv (.str "set") (.str "num") = false := by decide +kernel
@[simp] theorem w_set_own : PyData.eqv (.str "set") (.str "own") = false := by decide +kernel
@[simp] theorem w_set_par : PyData.eqv (.str "set") (.str "par") = false := by decide +kernel
@[simp] theorem w_set_say : PyData.eqv (.str "set") (.str "say") = false := by decide +kernel
@[simp] theorem w_set_sum : PyData.eqv (.str "set") (.str "sum") = false := by decide +kernel
@[simp] theorem w_sum_call : PyData.eqv (.str "sum") (.str "call") = false := by decide +kernel
@[simp] theorem w_sum_cell : PyData.eqv (.str "sum") (.str "cell") = false := by decide +kernel
@[simp] theorem w_sum_if : PyData.eqv (.str "sum") (.str "if") = false := by decide +kernel
@[simp] theorem w_sum_num : PyData.eqv (.str "sum") (.str "num") = false := by decide +kernel
@[simp] theorem w_sum_own : PyData.eqv (.str "sum") (.str "own") = false := by decide +kernel
@[simp] theorem w_sum_par : PyData.eqv (.str "sum") (.str "par") = false := by decide +kernel
@[simp] theorem w_sum_say : PyData.eqv (.str "sum") (.str "say") = false := by decide +kernel
@[simp] theorem w_sum_set : PyData.eqv (.str "sum") (.str "set") = false := by decide +kernel
@[simp] theorem w_want_back : PyData.eqv (.str "want") (.str "back") = false := by decide +kernel
@[simp] theorem w_want_copy : PyData.eqv (.str "want") (.str "copy") = false := by decide +kernel
@[simp] theorem w_want_place : PyData.eqv (.str "want") (.str "place") = false := by decide +kernel
@[simp] theorem lay_num : (PyData.str "num").canLay0 = true := by decide +kernel
@[simp] theorem lay_sum : (PyData.str "sum").canLay0 = true := by decide +kernel
@[simp] theorem lay_cell : (PyData.str "cell").canLay0 = true := by decide +kernel
@[simp] theorem lay_own : (PyData.str "own").canLay0 = true := by decide +kernel
@[simp] theorem lay_par : (PyData.str "par").canLay0 = true := by decide +kernel
@[simp] theorem lay_set : (PyData.str "set").canLay0 = true := by decide +kernel
@[simp] theorem lay_say : (PyData.str "say").canLay0 = true := by decide +kernel
@[simp] theorem lay_if : (PyData.str "if").canLay0 = true := by decide +kernel
@[simp] theorem lay_call : (PyData.str "call").canLay0 = true := by decide +kernel
@[simp] theorem lay_copy : (PyData.str "copy").canLay0 = true := by decide +kernel
@[simp] theorem lay_place : (PyData.str "place").canLay0 = true := by decide +kernel
@[simp] theorem lay_back : (PyData.str "back").canLay0 = true := by decide +kernel
@[simp] theorem lay_want : (PyData.str "want").canLay0 = true := by decide +kernel
/-! ### which things and steps can be -/
def okT (ps os : Nat) : Th → Nat → Bool
  | .num n, w => decide (w ≤ 4) && decide (n < 3)
  | .own k, w => decide (w ≤ 4) && decide (k < os)
  | .par k, w => decide (w ≤ 4) && decide (k < ps)
  | .cell t, w => decide (w ≤ 4) && okT ps os t (w + 1)
  | .sum a b, w => decide (w ≤ 4) && (okT ps os a (w + 1) && okT ps os b (w + 1))
def isPlace : Th → Bool
  | .cell _ | .own _ | .par _ => true
  | _ => false
/-- sh: params and own cells of all works -/
def shP (sh : List (Nat × Nat)) (i : Nat) : Nat := (sh.getD i (0, 0)).1
def shO (sh : List (Nat × Nat)) (i : Nat) : Nat := (sh.getD i (0, 0)).2
mutual
def okS (sh : List (Nat × Nat)) (at_ : Nat) : Stm → Nat → Bool
  | .set p t, w => decide (w ≤ 4) && (okT (shP sh at_) (shO sh at_) p 0 && (isPlace p && okT (shP sh at_) (shO sh at_) t 0))
  | .say t, w => decide (w ≤ 4) && okT (shP sh at_) (shO sh at_) t 0
  | .ite t a b, w => decide (w ≤ 4) && (okT (shP sh at_) (shO sh at_) t 0 && (okB sh at_ a (w + 1) && okB sh at_ b (w + 1)))
  | .call c ts, w => decide (w ≤ 4) && (decide (c < sh.length) && (decide (at_ < c) && (decide (ts.length = shP sh c) && ts.all fun t => okT (shP sh at_) (shO sh at_) t 0)))
def okB (sh : List (Nat × Nat)) (at_ : Nat) : List Stm → Nat → Bool
  | [], _ => true
  | s :: r, w => okS sh at_ s w && okB sh at_ r w
end
mutual
def cntS : Stm → Nat
  | .ite _ a b => 1 + (cntB a + cntB b)
  | _ => 1
def cntB : List Stm → Nat
  | [] => 0
  | s :: r => cntS s + cntB r
end
/-! bodies and calls are no longer than that -/
mutual
def smS : Stm → Bool
  | .call _ ts => decide (ts.length ≤ 1000)
  | .ite _ a b => (decide (a.length ≤ 1000) && decide (b.length ≤ 1000)) && (smB a && smB b)
  | _ => true
def smB : List Stm → Bool
  | [] => true
  | s :: r => smS s && smB r
end
theorem smB_mem : ∀ {b : List Stm} {s : Stm}, smB b = true → s ∈ b → smS s = true
  | x :: r, s, h, hm => by
    simp only [smB, Bool.and_eq_true] at h
    rcases List.mem_cons.mp hm with e | hm
    · rw [e]; exact h.1
    · exact smB_mem h.2 hm
/-! how deep bodies lie within others -/
mutual
def dpS : Stm → Nat
  | .ite _ a b => 1 + max (dpB a) (dpB b)
  | _ => 0
def dpB : List Stm → Nat
  | [] => 0
  | s :: r => max (dpS s) (dpB r)
end
theorem dpB_mem : ∀ {b : List Stm} {s : Stm}, s ∈ b → dpS s ≤ dpB b
  | x :: r, s, hm => by
    simp only [dpB]
    rcases List.mem_cons.mp hm with e | hm
    · rw [e]; exact Nat.le_max_left _ _
    · exact Nat.le_trans (dpB_mem hm) (Nat.le_max_right _ _)
mutual
theorem okS_dp {sh : List (Nat × Nat)} {at_ : Nat} : ∀ (s : Stm) (w : Nat), okS sh at_ s w = true → dpS s + w ≤ 5
  | .set p t, w, h => by simp [okS] at h; simp [dpS]; omega
  | .say t, w, h => by simp [okS] at h; simp [dpS]; omega
  | .call c ts, w, h => by simp [okS] at h; simp [dpS]; omega
  | .ite t a b, w, h => by
    simp [okS] at h
    have h1 := okB_dp a (w + 1) h.2.2.1
    have h2 := okB_dp b (w + 1) h.2.2.2
    simp only [dpS]
    omega
theorem okB_dp {sh : List (Nat × Nat)} {at_ : Nat} : ∀ (b : List Stm) (w : Nat), okB sh at_ b w = true → dpB b = 0 ∨ dpB b + w ≤ 5
  | [], w, _ => .inl (by simp [dpB])
  | s :: r, w, h => by
    simp only [okB, Bool.and_eq_true] at h
    have h1 := okS_dp s w h.1
    have h2 := okB_dp r w h.2
    simp only [dpB]
    omega
end
def bods : Stm → List (List Stm)
  | .ite _ a b => [a, b]
  | _ => []
theorem bods_sm {s : Stm} {b : List Stm} (h : smS s = true) (hb : b ∈ bods s) : b.length ≤ 1000 ∧ smB b = true := by
  cases s with
  | ite t x y =>
    simp only [smS, Bool.and_eq_true, decide_eq_true_eq] at h
    simp only [bods, List.mem_cons, List.not_mem_nil, or_false] at hb
    rcases hb with e | e <;> subst e <;> simp [h]
  | _ => simp [bods] at hb
theorem bods_dp {s : Stm} {b : List Stm} (hb : b ∈ bods s) : dpB b + 1 ≤ dpS s := by
  cases s with
  | ite t x y =>
    simp only [bods, List.mem_cons, List.not_mem_nil, or_false] at hb
    simp only [dpS]
    rcases hb with e | e <;> subst e <;> omega
  | _ => simp [bods] at hb
theorem cntS_bods (s : Stm) : cntS s = 1 + ((bods s).map cntB).sum := by cases s <;> simp [cntS, bods]
theorem cntB_sum : ∀ b : List Stm, cntB b = (b.map cntS).sum
  | [] => by simp [cntB]
  | s :: r => by simp [cntB, cntB_sum r]
theorem okB_all {sh : List (Nat × Nat)} {at_ w : Nat} : ∀ b : List Stm, okB sh at_ b w = b.all fun s => okS sh at_ s w
  | [] => by simp [okB]
  | s :: r => by simp [okB, okB_all r]
def shapes (p : List Wk) : List (Nat × Nat) := p.map fun w => (w.params, w.owns)
def okW (p : List Wk) (at_ : Nat) : Bool := match p[at_]? with
  | some w => decide (w.params ≤ 3) && (decide (w.owns ≤ 99) && ((decide (at_ ≠ 0) || decide (w.params = 0)) && (okB (shapes p) at_ w.body 0 && decide (cntB w.body ≤ 100))))
  | none => false
def okP (p : List Wk) : Bool := decide (1 ≤ p.length) && (decide (p.length ≤ 4) && (List.range p.length).all (okW p))
/-! ### ways -/
def encY (ys : List (List Str)) : PyData := .tuple (ys.map fun y => .tuple (y.map PyData.str))
def isWay (s : Str) : Bool := [("back" : Str), "copy", "place", "want"].any fun z => PyData.eqv (.str z) (.str s)
def okY (p : List Wk) (ys : List (List Str)) : Bool := decide (ys.length = p.length) && (List.range p.length).all fun i => decide ((ys.getD i []).length = shP (shapes p) i) && (ys.getD i []).all isWay
def smY (ys : List (List Str)) : Prop := ys.length ≤ 1000 ∧ ∀ y ∈ ys, y.length ≤ 1000 ∧ ∀ s ∈ y, (PyData.str s).canLay0 = true
/-! ### data that may be laid -/
theorem encT_lay : ∀ t : Th, (encT t).canLay0 = true
  | .num n => by simp [encT, PyData.canLay0, PyData.canLayAll0]; decide +kernel
  | .own n => by simp [encT, PyData.canLay0, PyData.canLayAll0]; decide +kernel
  | .par n => by simp [encT, PyData.canLay0, PyData.canLayAll0]; decide +kernel
  | .cell t => by
    simp only [encT, PyData.canLay0, PyData.canLayAll0, encT_lay t, Bool.and_true]
    decide +kernel
  | .sum a b => by
    simp only [encT, PyData.canLay0, PyData.canLayAll0, encT_lay a, encT_lay b, Bool.and_true]
    decide +kernel
theorem encTs_lay : ∀ ts : List Th, PyData.canLayAll0 (ts.map encT) = true
  | [] => by simp [PyData.canLayAll0]
  | t :: r => by simp [PyData.canLayAll0, encT_lay t, encTs_lay r]
mutual
theorem encS_lay : ∀ s : Stm, (encS s).canLay0 = true
  | .set p t => by
    simp only [encS, PyData.canLay0, PyData.canLayAll0, encT_lay, Bool.and_true]
    decide +kernel
  | .say t => by
    simp only [encS, PyData.canLay0, PyData.canLayAll0, encT_lay, Bool.and_true]
    decide +kernel
  | .ite t a b => by
    simp only [encS, PyData.canLay0, PyData.canLayAll0, encT_lay, encB_lay a, encB_lay b, Bool.and_true]
    decide +kernel
  | .call w ts => by
    simp only [encS, PyData.canLay0, PyData.canLayAll0, encTs_lay, Bool.and_true]
    decide +kernel
theorem encB_lay : ∀ b : List Stm, PyData.canLayAll0 (encB b) = true
  | [] => by simp [encB, PyData.canLayAll0]
  | s :: r => by simp [encB, PyData.canLayAll0, encS_lay s, encB_lay r]
end
theorem encW_lay (w : Wk) : (encW w).canLay0 = true := by simp [encW, PyData.canLay0, PyData.canLayAll0, encB_lay]
theorem encP_lay (p : List Wk) : (encP p).canLay0 = true := by
  have h : ∀ p : List Wk, PyData.canLayAll0 (p.map encW) = true := by
    intro p
    induction p with
    | nil => simp [PyData.canLayAll0]
    | cons w r ih => simp [PyData.canLayAll0, encW_lay w, ih]
  simpa [encP, PyData.canLay0] using h p
theorem layAll_filter {p : PyData → Bool} : ∀ {ds : List PyData}, PyData.canLayAll0 ds = true → PyData.canLayAll0 (ds.filter p) = true
  | [], _ => by simp [PyData.canLayAll0]
  | d :: ds, h => by
    simp only [PyData.canLayAll0, Bool.and_eq_true] at h
    rw [List.filter_cons]
    split
    · simp [PyData.canLayAll0, h.1, layAll_filter h.2]
    · exact layAll_filter h.2
end Hw

set_option maxRecDepth 100000
set_option maxHeartbeats 4000000
namespace Hw
open PySem PySem.Spec PyProof.Rows L2
def top (i : Nat) : Stmt := PySem.Challenge.pw_handways_k06_who_may_set_what.main.body.getD i (.Pass ⟨0, 0, 0, 0⟩)
abbrev s_is_number : Stmt := top 13
abbrev s_is_thing : Stmt := top 14
abbrev s_is_call : Stmt := top 15
abbrev s_is_step : Stmt := top 16
abbrev s_is_body : Stmt := top 17
abbrev s_bodies_of : Stmt := top 18
abbrev s_count : Stmt := top 19
abbrev s_is_work : Stmt := top 20
abbrev s_need_program : Stmt := top 21
abbrev s_need_ways : Stmt := top 22
abbrev s_sets : Stmt := top 24
abbrev s_may_set : Stmt := top 25
abbrev s__law_taken : Stmt := top 27
abbrev s__law_alike : Stmt := top 28
abbrev s__law_thing : Stmt := top 29
abbrev s__law_place : Stmt := top 30
abbrev s__law_step : Stmt := top 31
abbrev s__law_body : Stmt := top 32
abbrev s__law_program : Stmt := top 33
abbrev s__law_ways : Stmt := top 34
abbrev s__law_cells : Stmt := top 35
abbrev s__law_handings : Stmt := top 36
abbrev s__law_may_set : Stmt := top 37
abbrev s_law : Stmt := top 38
theorem sc_is_number : FnScope ["part", "below"] ["part", "below"] (defScope s_is_number) := ⟨rfl, rfl, rfl, by decide +kernel, rfl, by decide +kernel, by decide +kernel⟩
theorem sc_is_thing : FnScope ["thing", "sizes", "within", "word", "below"] ["thing", "sizes", "within"] (defScope s_is_thing) := ⟨rfl, rfl, rfl, by decide +kernel, rfl, by decide +kernel, by decide +kernel⟩
theorem sc_is_call : FnScope ["program", "at", "step", "sizes", "thing"] ["program", "at", "step", "sizes"] (defScope s_is_call) := ⟨rfl, rfl, rfl, by decide +kernel, rfl, by decide +kernel, by decide +kernel⟩
theorem sc_is_step : FnScope ["program", "at", "step", "within", "sizes", "body"] ["program", "at", "step", "within"] (defScope s_is_step) := ⟨rfl, rfl, rfl, by decide +kernel, rfl, by decide +kernel, by decide +kernel⟩
theorem sc_is_body : FnScope ["program", "at", "body", "within", "step"] ["program", "at", "body", "within"] (defScope s_is_body) := ⟨rfl, rfl, rfl, by decide +kernel, rfl, by decide +kernel, by decide +kernel⟩
theorem sc_bodies_of : FnScope ["step"] ["step"] (defScope s_bodies_of) := ⟨rfl, rfl, rfl, by decide +kernel, rfl, by decide +kernel, by decide +kernel⟩
theorem sc_count : FnScope ["body", "step", "inner"] ["body"] (defScope s_count) := ⟨rfl, rfl, rfl, by decide +kernel, rfl, by decide +kernel, by decide +kernel⟩
theorem sc_is_work : FnScope ["program", "at", "params", "owns", "body"] ["program", "at"] (defScope s_is_work) := ⟨rfl, rfl, rfl, by decide +kernel, rfl, by decide +kernel, by decide +kernel⟩
theorem sc_need_program : FnScope ["program", "at"] ["program"] (defScope s_need_program) := ⟨rfl, rfl, rfl, by decide +kernel, rfl, by decide +kernel, by decide +kernel⟩
theorem sc_need_ways : FnScope ["program", "ways", "work", "some", "way"] ["program", "ways"] (defScope s_need_ways) := ⟨rfl, rfl, rfl, by decide +kernel, rfl, by decide +kernel, by decide +kernel⟩
theorem sc_sets : FnScope ["body", "param", "ways", "known", "step", "thing", "way", "good", "inner"] ["body", "param", "ways", "known"] (defScope s_sets) := ⟨rfl, rfl, rfl, by decide +kernel, rfl, by decide +kernel, by decide +kernel⟩
theorem sc_may_set : FnScope ["program", "ways", "known", "at", "param"] ["program", "ways"] (defScope s_may_set) := ⟨rfl, rfl, rfl, by decide +kernel, rfl, by decide +kernel, by decide +kernel⟩
theorem sc__law_taken : FnScope ["_law_row", "_law_many", "_law_found", "_law_cell"] ["_law_row", "_law_many"] (defScope s__law_taken) := ⟨rfl, rfl, rfl, by decide +kernel, rfl, by decide +kernel, by decide +kernel⟩
theorem sc__law_alike : FnScope ["_law_found", "_law_due", "_law_k"] ["_law_found", "_law_due"] (defScope s__law_alike) := ⟨rfl, rfl, rfl, by decide +kernel, rfl, by decide +kernel, by decide +kernel⟩
theorem sc__law_thing : FnScope ["_law_row", "_law_sizes", "_law_within", "_law_way"] ["_law_row", "_law_sizes", "_law_within"] (defScope s__law_thing) := ⟨rfl, rfl, rfl, by decide +kernel, rfl, by decide +kernel, by decide +kernel⟩
theorem sc__law_place : FnScope ["_law_row", "_law_sizes", "_law_within", "_law_thing_here"] ["_law_row", "_law_sizes", "_law_within"] (defScope s__law_place) := ⟨rfl, rfl, rfl, by decide +kernel, rfl, by decide +kernel, by decide +kernel⟩
theorem sc__law_step : FnScope ["_law_row", "_law_shapes", "_law_at", "_law_left", "_law_within", "_law_sizes", "_law_way", "_law_work", "_law_things", "_law_k", "_law_thing_here", "_law_first"] ["_law_row", "_law_shapes", "_law_at", "_law_left", "_law_within"] (defScope s__law_step) := ⟨rfl, rfl, rfl, by decide +kernel, rfl, by decide +kernel, by decide +kernel⟩
theorem sc__law_body : FnScope ["_law_row", "_law_shapes", "_law_at", "_law_left", "_law_within", "_law_found", "_law_turn"] ["_law_row", "_law_shapes", "_law_at", "_law_left", "_law_within"] (defScope s__law_body) := ⟨rfl, rfl, rfl, by decide +kernel, rfl, by decide +kernel, by decide +kernel⟩
theorem sc__law_program : FnScope ["_law_row", "_law_most", "_law_shapes", "_law_k", "_law_owns", "_law_found", "_law_at", "_law_body_here", "_law_things"] ["_law_row", "_law_most"] (defScope s__law_program) := ⟨rfl, rfl, rfl, by decide +kernel, rfl, by decide +kernel, by decide +kernel⟩
theorem sc__law_ways : FnScope ["_law_row", "_law_program_here", "_law_some", "_law_found", "_law_params", "_law_owns", "_law_body_here", "_law_k"] ["_law_row", "_law_program_here", "_law_some"] (defScope s__law_ways) := ⟨rfl, rfl, rfl, by decide +kernel, rfl, by decide +kernel, by decide +kernel⟩
theorem sc__law_cells : FnScope ["_law_k"] [] (defScope s__law_cells) := ⟨rfl, rfl, rfl, by decide +kernel, rfl, by decide +kernel, by decide +kernel⟩
theorem sc__law_handings : FnScope ["_law_body_here", "_law_found", "_law_step_here", "_law_k"] ["_law_body_here"] (defScope s__law_handings) := ⟨rfl, rfl, rfl, by decide +kernel, rfl, by decide +kernel, by decide +kernel⟩
theorem sc__law_may_set : FnScope ["_law_program_here", "_law_ways_here", "_law_good", "_law_turn", "_law_at", "_law_param", "_law_work", "_law_k", "_law_found"] ["_law_program_here", "_law_ways_here"] (defScope s__law_may_set) := ⟨rfl, rfl, rfl, by decide +kernel, rfl, by decide +kernel, by decide +kernel⟩
theorem sc_law : FnScope ["_law_script", "_law_row", "_law_turn", "_law_program_here", "_law_ways_here", "_law_plain", "_law_some"] ["_law_script"] (defScope s_law) := ⟨rfl, rfl, rfl, by decide +kernel, rfl, by decide +kernel, by decide +kernel⟩
/-- what the walk leans on, of the text behind its top -/
structure Tx (K : PySem.W.Frag) (mg : Str → Option Value) : Prop where
  g_is_number : mg "is_number" = some (.ref (He.ga K "is_number"))
  g_is_thing : mg "is_thing" = some (.ref (He.ga K "is_thing"))
  g_is_call : mg "is_call" = some (.ref (He.ga K "is_call"))
  g_is_step : mg "is_step" = some (.ref (He.ga K "is_step"))
  g_is_body : mg "is_body" = some (.ref (He.ga K "is_body"))
  g_bodies_of : mg "bodies_of" = some (.ref (He.ga K "bodies_of"))
  g_count : mg "count" = some (.ref (He.ga K "count"))
  g_is_work : mg "is_work" = some (.ref (He.ga K "is_work"))
  g_need_program : mg "need_program" = some (.ref (He.ga K "need_program"))
  g_need_ways : mg "need_ways" = some (.ref (He.ga K "need_ways"))
  g_sets : mg "sets" = some (.ref (He.ga K "sets"))
  g_may_set : mg "may_set" = some (.ref (He.ga K "may_set"))
  g__law_taken : mg "_law_taken" = some (.ref (He.ga K "_law_taken"))
  g__law_alike : mg "_law_alike" = some (.ref (He.ga K "_law_alike"))
  g__law_thing : mg "_law_thing" = some (.ref (He.ga K "_law_thing"))
  g__law_place : mg "_law_place" = some (.ref (He.ga K "_law_place"))
  g__law_step : mg "_law_step" = some (.ref (He.ga K "_law_step"))
  g__law_body : mg "_law_body" = some (.ref (He.ga K "_law_body"))
  g__law_program : mg "_law_program" = some (.ref (He.ga K "_law_program"))
  g__law_ways : mg "_law_ways" = some (.ref (He.ga K "_law_ways"))
  g__law_cells : mg "_law_cells" = some (.ref (He.ga K "_law_cells"))
  g__law_handings : mg "_law_handings" = some (.ref (He.ga K "_law_handings"))
  g__law_may_set : mg "_law_may_set" = some (.ref (He.ga K "_law_may_set"))
  g_law : mg "law" = some (.ref (He.ga K "law"))
  g_HandError : mg "HandError" = some (.ref (He.ga K "HandError"))
  k_HandError : PySem.W.keepIn K (.ref (He.ga K "HandError")) = true
  x_HandError : PySem.W.excIn K (He.ga K "HandError") [.type "ValueError", .type "Exception", .type "BaseException", .type "object"] "ValueError.__new__" = true
  be_HandError : PySem.W.subIn K (.ref (He.ga K "HandError")) (.type "BaseException") = some true
  ty_HandError : PySem.W.typeIn K (.ref (He.ga K "HandError")) = some (.type "type")
  em_HandError_HandError : PySem.W.exmOne K (.ref (He.ga K "HandError")) (.ref (He.ga K "HandError")) = some true
  em_HandError_BadProgram : PySem.W.exmOne K (.ref (He.ga K "HandError")) (.ref (He.ga K "BadProgram")) = some false
  em_HandError_BadWays : PySem.W.exmOne K (.ref (He.ga K "HandError")) (.ref (He.ga K "BadWays")) = some false
  g_BadProgram : mg "BadProgram" = some (.ref (He.ga K "BadProgram"))
  k_BadProgram : PySem.W.keepIn K (.ref (He.ga K "BadProgram")) = true
  x_BadProgram : PySem.W.excIn K (He.ga K "BadProgram") [.type "ValueError", .type "Exception", .type "BaseException", .type "object"] "ValueError.__new__" = true
  be_BadProgram : PySem.W.subIn K (.ref (He.ga K "BadProgram")) (.type "BaseException") = some true
  ty_BadProgram : PySem.W.typeIn K (.ref (He.ga K "BadProgram")) = some (.type "type")
  em_BadProgram_HandError : PySem.W.exmOne K (.ref (He.ga K "BadProgram")) (.ref (He.ga K "HandError")) = some true
  em_BadProgram_BadProgram : PySem.W.exmOne K (.ref (He.ga K "BadProgram")) (.ref (He.ga K "BadProgram")) = some true
  em_BadProgram_BadWays : PySem.W.exmOne K (.ref (He.ga K "BadProgram")) (.ref (He.ga K "BadWays")) = some false
  g_BadWays : mg "BadWays" = some (.ref (He.ga K "BadWays"))
  k_BadWays : PySem.W.keepIn K (.ref (He.ga K "BadWays")) = true
  x_BadWays : PySem.W.excIn K (He.ga K "BadWays") [.type "ValueError", .type "Exception", .type "BaseException", .type "object"] "ValueError.__new__" = true
  be_BadWays : PySem.W.subIn K (.ref (He.ga K "BadWays")) (.type "BaseException") = some true
  ty_BadWays : PySem.W.typeIn K (.ref (He.ga K "BadWays")) = some (.type "type")
  em_BadWays_HandError : PySem.W.exmOne K (.ref (He.ga K "BadWays")) (.ref (He.ga K "HandError")) = some true
  em_BadWays_BadProgram : PySem.W.exmOne K (.ref (He.ga K "BadWays")) (.ref (He.ga K "BadProgram")) = some false
  em_BadWays_BadWays : PySem.W.exmOne K (.ref (He.ga K "BadWays")) (.ref (He.ga K "BadWays")) = some true
  b_ValueError : mg "ValueError" = none
  b_bool : mg "bool" = none
  b_int : mg "int" = none
  b_isinstance : mg "isinstance" = none
  b_len : mg "len" = none
  b_list : mg "list" = none
  b_range : mg "range" = none
  b_reversed : mg "reversed" = none
  b_str : mg "str" = none
  b_sum : mg "sum" = none
  b_tuple : mg "tuple" = none
  b_zip : mg "zip" = none
  g_NUMBERS : ∃ t, mg "NUMBERS" = some (.int 3 t)
  g_MOST_WORKS : ∃ t, mg "MOST_WORKS" = some (.int 4 t)
  g_MOST_PARAMS : ∃ t, mg "MOST_PARAMS" = some (.int 3 t)
  g_MOST_OWNS : ∃ t, mg "MOST_OWNS" = some (.int 99 t)
  g_MOST_STEPS : ∃ t, mg "MOST_STEPS" = some (.int 100 t)
  g_MOST_WITHIN : ∃ t, mg "MOST_WITHIN" = some (.int 4 t)
  g_PLACES : mg "PLACES" = some (.ref (He.ga K "PLACES"))
  t_PLACES : ∀ H : Hp, SqT K H (He.ga K "PLACES") [V.str "cell", V.str "own", V.str "par"]
  g_WAYS : mg "WAYS" = some (.ref (He.ga K "WAYS"))
  t_WAYS : ∀ H : Hp, SqT K H (He.ga K "WAYS") [V.str "back", V.str "copy", V.str "place", V.str "want"]
  d_is_number : ∃ fd, FunD K "is_number" "is_number" (defArgs s_is_number) (defBody s_is_number) (defScope s_is_number) [] [] (He.ga K "is_number") fd
  d_is_thing : ∃ fd, FunD K "is_thing" "is_thing" (defArgs s_is_thing) (defBody s_is_thing) (defScope s_is_thing) [] [] (He.ga K "is_thing") fd
  d_is_call : ∃ fd, FunD K "is_call" "is_call" (defArgs s_is_call) (defBody s_is_call) (defScope s_is_call) [] [] (He.ga K "is_call") fd
  d_is_step : ∃ fd, FunD K "is_step" "is_step" (defArgs s_is_step) (defBody s_is_step) (defScope s_is_step) [] [] (He.ga K "is_step") fd
  d_is_body : ∃ fd, FunD K "is_body" "is_body" (defArgs s_is_body) (defBody s_is_body) (defScope s_is_body) [] [] (He.ga K "is_body") fd
  d_bodies_of : ∃ fd, FunD K "bodies_of" "bodies_of" (defArgs s_bodies_of) (defBody s_bodies_of) (defScope s_bodies_of) [] [] (He.ga K "bodies_of") fd
  d_count : ∃ fd, FunD K "count" "count" (defArgs s_count) (defBody s_count) (defScope s_count) [] [] (He.ga K "count") fd
  d_is_work : ∃ fd, FunD K "is_work" "is_work" (defArgs s_is_work) (defBody s_is_work) (defScope s_is_work) [] [] (He.ga K "is_work") fd
  d_need_program : ∃ fd, FunD K "need_program" "need_program" (defArgs s_need_program) (defBody s_need_program) (defScope s_need_program) [] [] (He.ga K "need_program") fd
  d_need_ways : ∃ fd, FunD K "need_ways" "need_ways" (defArgs s_need_ways) (defBody s_need_ways) (defScope s_need_ways) [] [] (He.ga K "need_ways") fd
  d_sets : ∃ fd, FunD K "sets" "sets" (defArgs s_sets) (defBody s_sets) (defScope s_sets) [] [] (He.ga K "sets") fd
  d_may_set : ∃ fd, FunD K "may_set" "may_set" (defArgs s_may_set) (defBody s_may_set) (defScope s_may_set) [] [] (He.ga K "may_set") fd
  d__law_taken : ∃ fd, FunD K "_law_taken" "_law_taken" (defArgs s__law_taken) (defBody s__law_taken) (defScope s__law_taken) [] [] (He.ga K "_law_taken") fd
  d__law_alike : ∃ fd, FunD K "_law_alike" "_law_alike" (defArgs s__law_alike) (defBody s__law_alike) (defScope s__law_alike) [] [] (He.ga K "_law_alike") fd
  d__law_thing : ∃ fd, FunD K "_law_thing" "_law_thing" (defArgs s__law_thing) (defBody s__law_thing) (defScope s__law_thing) [] [] (He.ga K "_law_thing") fd
  d__law_place : ∃ fd, FunD K "_law_place" "_law_place" (defArgs s__law_place) (defBody s__law_place) (defScope s__law_place) [] [] (He.ga K "_law_place") fd
  d__law_step : ∃ fd, FunD K "_law_step" "_law_step" (defArgs s__law_step) (defBody s__law_step) (defScope s__law_step) [] [] (He.ga K "_law_step") fd
  d__law_body : ∃ fd, FunD K "_law_body" "_law_body" (defArgs s__law_body) (defBody s__law_body) (defScope s__law_body) [] [] (He.ga K "_law_body") fd
  d__law_program : ∃ fd, FunD K "_law_program" "_law_program" (defArgs s__law_program) (defBody s__law_program) (defScope s__law_program) [] [] (He.ga K "_law_program") fd
  d__law_ways : ∃ fd, FunD K "_law_ways" "_law_ways" (defArgs s__law_ways) (defBody s__law_ways) (defScope s__law_ways) [] [] (He.ga K "_law_ways") fd
  d__law_cells : ∃ fd, FunD K "_law_cells" "_law_cells" (defArgs s__law_cells) (defBody s__law_cells) (defScope s__law_cells) [] [] (He.ga K "_law_cells") fd
  d__law_handings : ∃ fd, FunD K "_law_handings" "_law_handings" (defArgs s__law_handings) (defBody s__law_handings) (defScope s__law_handings) [] [] (He.ga K "_law_handings") fd
  d__law_may_set : ∃ fd, FunD K "_law_may_set" "_law_may_set" (defArgs s__law_may_set) (defBody s__law_may_set) (defScope s__law_may_set) [] [] (He.ga K "_law_may_set") fd
  d_law : ∃ fd, FunD K "law" "law" (defArgs s_law) (defBody s_law) (defScope s_law) [] [] (He.ga K "law") fd
section
variable {K : PySem.W.Frag} {mg : Str → Option Value} (T : Tx K mg)
include T
noncomputable def Tx.fd_is_number : FuncData := Classical.choose T.d_is_number
theorem Tx.F_is_number : FunD K "is_number" "is_number" (defArgs s_is_number) (defBody s_is_number) (defScope s_is_number) [] [] (He.ga K "is_number") T.fd_is_number := Classical.choose_spec T.d_is_number
theorem Tx.k_is_number : PySem.W.keepIn K (.ref (He.ga K "is_number")) = true := T.F_is_number.kp
theorem Tx.bd_is_number : Binds K T.fd_is_number ["part", "below"] [] := T.F_is_number.bindsN fun _ _ _ _ _ _ us hl => match us, hl with | [_, _], _ => rfl
abbrev Fn_is_number (P : Program) (w : World) (base : Heap) (CX : CXT) (k : Nat) (sp : Sp) : Prop := FnOk P w K mg base CX k (He.ga K "is_number") T.fd_is_number ["part", "below"] sp
noncomputable def Tx.fd_is_thing : FuncData := Classical.choose T.d_is_thing
theorem Tx.F_is_thing : FunD K "is_thing" "is_thing" (defArgs s_is_thing) (defBody s_is_thing) (defScope s_is_thing) [] [] (He.ga K "is_thing") T.fd_is_thing := Classical.choose_spec T.d_is_thing
theorem Tx.k_is_thing : PySem.W.keepIn K (.ref (He.ga K "is_thing")) = true := T.F_is_thing.kp
theorem Tx.bd_is_thing : Binds K T.fd_is_thing ["thing", "sizes", "within"] [] := T.F_is_thing.bindsN fun _ _ _ _ _ _ us hl => match us, hl with | [_, _, _], _ => rfl
abbrev Fn_is_thing (P : Program) (w : World) (base : Heap) (CX : CXT) (k : Nat) (sp : Sp) : Prop := FnOk P w K mg base CX k (He.ga K "is_thing") T.fd_is_thing ["thing", "sizes", "within"] sp
noncomputable def Tx.fd_is_call : FuncData := Classical.choose T.d_is_call
theorem Tx.F_is_call : FunD K "is_call" "is_call" (defArgs s_is_call) (defBody s_is_call) (defScope s_is_call) [] [] (He.ga K "is_call") T.fd_is_call := Classical.choose_spec T.d_is_call
theorem Tx.k_is_call : PySem.W.keepIn K (.ref (He.ga K "is_call")) = true := T.F_is_call.kp
theorem Tx.bd_is_call : Binds K T.fd_is_call ["program", "at", "step", "sizes"] [] := T.F_is_call.bindsN fun _ _ _ _ _ _ us hl => match us, hl with | [_, _, _, _], _ => rfl
abbrev Fn_is_call (P : Program) (w : World) (base : Heap) (CX : CXT) (k : Nat) (sp : Sp) : Prop := FnOk P w K mg base CX k (He.ga K "is_call") T.fd_is_call ["program", "at", "step", "sizes"] sp
noncomputable def Tx.fd_is_step : FuncData := Classical.choose T.d_is_step
theorem Tx.F_is_step : FunD K "is_step" "is_step" (defArgs s_is_step) (defBody s_is_step) (defScope s_is_step) [] [] (He.ga K "is_step") T.fd_is_step := Classical.choose_spec T.d_is_step
theorem Tx.k_is_step : PySem.W.keepIn K (.ref (He.ga K "is_step")) = true := T.F_is_step.kp
theorem Tx.bd_is_step : Binds K T.fd_is_step ["program", "at", "step", "within"] [] := T.F_is_step.bindsN fun _ _ _ _ _ _ us hl => match us, hl with | [_, _, _, _], _ => rfl
abbrev Fn_is_step (P : Program) (w : World) (base : Heap) (CX : CXT) (k : Nat) (sp : Sp) : Prop := FnOk P w K mg base CX k (He.ga K "is_step") T.fd_is_step ["program", "at", "step", "within"] sp
noncomputable def Tx.fd_is_body : FuncData := Classical.choose T.d_is_body
theorem Tx.F_is_body : FunD K "is_body" "is_body" (defArgs s_is_body) (defBody s_is_body) (defScope s_is_body) [] [] (He.ga K "is_body") T.fd_is_body := Classical.choose_spec T.d_is_body
theorem Tx.k_is_body : PySem.W.keepIn K (.ref (He.ga K "is_body")) = true := T.F_is_body.kp
theorem Tx.bd_is_body : Binds K T.fd_is_body ["program", "at", "body", "within"] [] := T.F_is_body.bindsN fun _ _ _ _ _ _ us hl => match us, hl with | [_, _, _, _], _ => rfl
abbrev Fn_is_body (P : Program) (w : World) (base : Heap) (CX : CXT) (k : Nat) (sp : Sp) : Prop := FnOk P w K mg base CX k (He.ga K "is_body") T.fd_is_body ["program", "at", "body", "within"] sp
noncomputable def Tx.fd_bodies_of : FuncData := Classical.choose T.d_bodies_of
theorem Tx.F_bodies_of : FunD K "bodies_of" "bodies_of" (defArgs s_bodies_of) (defBody s_bodies_of) (defScope s_bodies_of) [] [] (He.ga K "bodies_of") T.fd_bodies_of := Classical.choose_spec T.d_bodies_of
theorem Tx.k_bodies_of : PySem.W.keepIn K (.ref (He.ga K "bodies_of")) = true := T.F_bodies_of.kp
theorem Tx.bd_bodies_of : Binds K T.fd_bodies_of ["step"] [] := T.F_bodies_of.bindsN fun _ _ _ _ _ _ us hl => match us, hl with | [_], _ => rfl
abbrev Fn_bodies_of (P : Program) (w : World) (base : Heap) (CX : CXT) (k : Nat) (sp : Sp) : Prop := FnOk P w K mg base CX k (He.ga K "bodies_of") T.fd_bodies_of ["step"] sp
noncomputable def Tx.fd_count : FuncData := Classical.choose T.d_count
theorem Tx.F_count : FunD K "count" "count" (defArgs s_count) (defBody s_count) (defScope s_count) [] [] (He.ga K "count") T.fd_count := Classical.choose_spec T.d_count
theorem Tx.k_count : PySem.W.keepIn K (.ref (He.ga K "count")) = true := T.F_count.kp
theorem Tx.bd_count : Binds K T.fd_count ["body"] [] := T.F_count.bindsN fun _ _ _ _ _ _ us hl => match us, hl with | [_], _ => rfl
abbrev Fn_count (P : Program) (w : World) (base : Heap) (CX : CXT) (k : Nat) (sp : Sp) : Prop := FnOk P w K mg base CX k (He.ga K "count") T.fd_count ["body"] sp
noncomputable def Tx.fd_is_work : FuncData := Classical.choose T.d_is_work
theorem Tx.F_is_work : FunD K "is_work" "is_work" (defArgs s_is_work) (defBody s_is_work) (defScope s_is_work) [] [] (He.ga K "is_work") T.fd_is_work := Classical.choose_spec T.d_is_work
theorem Tx.k_is_work : PySem.W.keepIn K (.ref (He.ga K "is_work")) = true := T.F_is_work.kp
theorem Tx.bd_is_work : Binds K T.fd_is_work ["program", "at"] [] := T.F_is_work.bindsN fun _ _ _ _ _ _ us hl => match us, hl with | [_, _], _ => rfl
abbrev Fn_is_work (P : Program) (w : World) (base : Heap) (CX : CXT) (k : Nat) (sp : Sp) : Prop := FnOk P w K mg base CX k (He.ga K "is_work") T.fd_is_work ["program", "at"] sp
noncomputable def Tx.fd_need_program : FuncData := Classical.choose T.d_need_program
theorem Tx.F_need_program : FunD K "need_program" "need_program" (defArgs s_need_program) (defBody s_need_program) (defScope s_need_program) [] [] (He.ga K "need_program") T.fd_need_program := Classical.choose_spec T.d_need_program
theorem Tx.k_need_program : PySem.W.keepIn K (.ref (He.ga K "need_program")) = true := T.F_need_program.kp
theorem Tx.bd_need_program : Binds K T.fd_need_program ["program"] [] := T.F_need_program.bindsN fun _ _ _ _ _ _ us hl => match us, hl with | [_], _ => rfl
abbrev Fn_need_program (P : Program) (w : World) (base : Heap) (CX : CXT) (k : Nat) (sp : Sp) : Prop := FnOk P w K mg base CX k (He.ga K "need_program") T.fd_need_program ["program"] sp
noncomputable def Tx.fd_need_ways : FuncData := Classical.choose T.d_need_ways
theorem Tx.F_need_ways : FunD K "need_ways" "need_ways" (defArgs s_need_ways) (defBody s_need_ways) (defScope s_need_ways) [] [] (He.ga K "need_ways") T.fd_need_ways := Classical.choose_spec T.d_need_ways
theorem Tx.k_need_ways : PySem.W.keepIn K (.ref (He.ga K "need_ways")) = true := T.F_need_ways.kp
theorem Tx.bd_need_ways : Binds K T.fd_need_ways ["program", "ways"] [] := T.F_need_ways.bindsN fun _ _ _ _ _ _ us hl => match us, hl with | [_, _], _ => rfl
abbrev Fn_need_ways (P : Program) (w : World) (base : Heap) (CX : CXT) (k : Nat) (sp : Sp) : Prop := FnOk P w K mg base CX k (He.ga K "need_ways") T.fd_need_ways ["program", "ways"] sp
noncomputable def Tx.fd_sets : FuncData := Classical.choose T.d_sets
theorem Tx.F_sets : FunD K "sets" "sets" (defArgs s_sets) (defBody s_sets) (defScope s_sets) [] [] (He.ga K "sets") T.fd_sets := Classical.choose_spec T.d_sets
theorem Tx.k_sets : PySem.W.keepIn K (.ref (He.ga K "sets")) = true := T.F_sets.kp
theorem Tx.bd_sets : Binds K T.fd_sets ["body", "param", "ways", "known"] [] := T.F_sets.bindsN fun _ _ _ _ _ _ us hl => match us, hl with | [_, _, _, _], _ => rfl
abbrev Fn_sets (P : Program) (w : World) (base : Heap) (CX : CXT) (k : Nat) (sp : Sp) : Prop := FnOk P w K mg base CX k (He.ga K "sets") T.fd_sets ["body", "param", "ways", "known"] sp
noncomputable def Tx.fd_may_set : FuncData := Classical.choose T.d_may_set
theorem Tx.F_may_set : FunD K "may_set" "may_set" (defArgs s_may_set) (defBody s_may_set) (defScope s_may_set) [] [] (He.ga K "may_set") T.fd_may_set := Classical.choose_spec T.d_may_set
theorem Tx.k_may_set : PySem.W.keepIn K (.ref (He.ga K "may_set")) = true := T.F_may_set.kp
theorem Tx.bd_may_set : Binds K T.fd_may_set ["program", "ways"] [] := T.F_may_set.bindsN fun _ _ _ _ _ _ us hl => match us, hl with | [_, _], _ => rfl
abbrev Fn_may_set (P : Program) (w : World) (base : Heap) (CX : CXT) (k : Nat) (sp : Sp) : Prop := FnOk P w K mg base CX k (He.ga K "may_set") T.fd_may_set ["program", "ways"] sp
noncomputable def Tx.fd__law_taken : FuncData := Classical.choose T.d__law_taken
theorem Tx.F__law_taken : FunD K "_law_taken" "_law_taken" (defArgs s__law_taken) (defBody s__law_taken) (defScope s__law_taken) [] [] (He.ga K "_law_taken") T.fd__law_taken := Classical.choose_spec T.d__law_taken
theorem Tx.k__law_taken : PySem.W.keepIn K (.ref (He.ga K "_law_taken")) = true := T.F__law_taken.kp
theorem Tx.bd__law_taken : Binds K T.fd__law_taken ["_law_row", "_law_many"] [] := T.F__law_taken.bindsN fun _ _ _ _ _ _ us hl => match us, hl with | [_, _], _ => rfl
abbrev Fn__law_taken (P : Program) (w : World) (base : Heap) (CX : CXT) (k : Nat) (sp : Sp) : Prop := FnOk P w K mg base CX k (He.ga K "_law_taken") T.fd__law_taken ["_law_row", "_law_many"] sp
noncomputable def Tx.fd__law_alike : FuncData := Classical.choose T.d__law_alike
theorem Tx.F__law_alike : FunD K "_law_alike" "_law_alike" (defArgs s__law_alike) (defBody s__law_alike) (defScope s__law_alike) [] [] (He.ga K "_law_alike") T.fd__law_alike := Classical.choose_spec T.d__law_alike
theorem Tx.k__law_alike : PySem.W.keepIn K (.ref (He.ga K "_law_alike")) = true := T.F__law_alike.kp
theorem Tx.bd__law_alike : Binds K T.fd__law_alike ["_law_found", "_law_due"] [] := T.F__law_alike.bindsN fun _ _ _ _ _ _ us hl => match us, hl with | [_, _], _ => rfl
abbrev Fn__law_alike (P : Program) (w : World) (base : Heap) (CX : CXT) (k : Nat) (sp : Sp) : Prop := FnOk P w K mg base CX k (He.ga K "_law_alike") T.fd__law_alike ["_law_found", "_law_due"] sp
noncomputable def Tx.fd__law_thing : FuncData := Classical.choose T.d__law_thing
theorem Tx.F__law_thing : FunD K "_law_thing" "_law_thing" (defArgs s__law_thing) (defBody s__law_thing) (defScope s__law_thing) [] [] (He.ga K "_law_thing") T.fd__law_thing := Classical.choose_spec T.d__law_thing
theorem Tx.k__law_thing : PySem.W.keepIn K (.ref (He.ga K "_law_thing")) = true := T.F__law_thing.kp
theorem Tx.bd__law_thing : Binds K T.fd__law_thing ["_law_row", "_law_sizes", "_law_within"] [] := T.F__law_thing.bindsN fun _ _ _ _ _ _ us hl => match us, hl with | [_, _, _], _ => rfl
abbrev Fn__law_thing (P : Program) (w : World) (base : Heap) (CX : CXT) (k : Nat) (sp : Sp) : Prop := FnOk P w K mg base CX k (He.ga K "_law_thing") T.fd__law_thing ["_law_row", "_law_sizes", "_law_within"] sp
noncomputable def Tx.fd__law_place : FuncData := Classical.choose T.d__law_place
theorem Tx.F__law_place : FunD K "_law_place" "_law_place" (defArgs s__law_place) (defBody s__law_place) (defScope s__law_place) [] [] (He.ga K "_law_place") T.fd__law_place := Classical.choose_spec T.d__law_place
theorem Tx.k__law_place : PySem.W.keepIn K (.ref (He.ga K "_law_place")) = true := T.F__law_place.kp
theorem Tx.bd__law_place : Binds K T.fd__law_place ["_law_row", "_law_sizes", "_law_within"] [] := T.F__law_place.bindsN fun _ _ _ _ _ _ us hl => match us, hl with | [_, _, _], _ => rfl
abbrev Fn__law_place (P : Program) (w : World) (base : Heap) (CX : CXT) (k : Nat) (sp : Sp) : Prop := FnOk P w K mg base CX k (He.ga K "_law_place") T.fd__law_place ["_law_row", "_law_sizes", "_law_within"] sp
noncomputable def Tx.fd__law_step : FuncData := Classical.choose T.d__law_step
theorem Tx.F__law_step : FunD K "_law_step" "_law_step" (defArgs s__law_step) (defBody s__law_step) (defScope s__law_step) [] [] (He.ga K "_law_step") T.fd__law_step := Classical.choose_spec T.d__law_step
theorem Tx.k__law_step : PySem.W.keepIn K (.ref (He.ga K "_law_step")) = true := T.F__law_step.kp
theorem Tx.bd__law_step : Binds K T.fd__law_step ["_law_row", "_law_shapes", "_law_at", "_law_left", "_law_within"] [] := T.F__law_step.bindsN fun _ _ _ _ _ _ us hl => match us, hl with | [_, _, _, _, _], _ => rfl
abbrev Fn__law_step (P : Program) (w : World) (base : Heap) (CX : CXT) (k : Nat) (sp : Sp) : Prop := FnOk P w K mg base CX k (He.ga K "_law_step") T.fd__law_step ["_law_row", "_law_shapes", "_law_at", "_law_left", "_law_within"] sp
noncomputable def Tx.fd__law_body : FuncData := Classical.choose T.d__law_body
theorem Tx.F__law_body : FunD K "_law_body" "_law_body" (defArgs s__law_body) (defBody s__law_body) (defScope s__law_body) [] [] (He.ga K "_law_body") T.fd__law_body := Classical.choose_spec T.d__law_body
theorem Tx.k__law_body : PySem.W.keepIn K (.ref (He.ga K "_law_body")) = true := T.F__law_body.kp
theorem Tx.bd__law_body : Binds K T.fd__law_body ["_law_row", "_law_shapes", "_law_at", "_law_left", "_law_within"] [] := T.F__law_body.bindsN fun _ _ _ _ _ _ us hl => match us, hl with | [_, _, _, _, _], _ => rfl
abbrev Fn__law_body (P : Program) (w : World) (base : Heap) (CX : CXT) (k : Nat) (sp : Sp) : Prop := FnOk P w K mg base CX k (He.ga K "_law_body") T.fd__law_body ["_law_row", "_law_shapes", "_law_at", "_law_left", "_law_within"] sp
noncomputable def Tx.fd__law_program : FuncData := Classical.choose T.d__law_program
theorem Tx.F__law_program : FunD K "_law_program" "_law_program" (defArgs s__law_program) (defBody s__law_program) (defScope s__law_program) [] [] (He.ga K "_law_program") T.fd__law_program := Classical.choose_spec T.d__law_program
theorem Tx.k__law_program : PySem.W.keepIn K (.ref (He.ga K "_law_program")) = true := T.F__law_program.kp
theorem Tx.bd__law_program : Binds K T.fd__law_program ["_law_row", "_law_most"] [] := T.F__law_program.bindsN fun _ _ _ _ _ _ us hl => match us, hl with | [_, _], _ => rfl
abbrev Fn__law_program (P : Program) (w : World) (base : Heap) (CX : CXT) (k : Nat) (sp : Sp) : Prop := FnOk P w K mg base CX k (He.ga K "_law_program") T.fd__law_program ["_law_row", "_law_most"] sp
noncomputable def Tx.fd__law_ways : FuncData := Classical.choose T.d__law_ways
theorem Tx.F__law_ways : FunD K "_law_ways" "_law_ways" (defArgs s__law_ways) (defBody s__law_ways) (defScope s__law_ways) [] [] (He.ga K "_law_ways") T.fd__law_ways := Classical.choose_spec T.d__law_ways
theorem Tx.k__law_ways : PySem.W.keepIn K (.ref (He.ga K "_law_ways")) = true := T.F__law_ways.kp
theorem Tx.bd__law_ways : Binds K T.fd__law_ways ["_law_row", "_law_program_here", "_law_some"] [] := T.F__law_ways.bindsN fun _ _ _ _ _ _ us hl => match us, hl with | [_, _, _], _ => rfl
abbrev Fn__law_ways (P : Program) (w : World) (base : Heap) (CX : CXT) (k : Nat) (sp : Sp) : Prop := FnOk P w K mg base CX k (He.ga K "_law_ways") T.fd__law_ways ["_law_row", "_law_program_here", "_law_some"] sp
noncomputable def Tx.fd__law_cells : FuncData := Classical.choose T.d__law_cells
theorem Tx.F__law_cells : FunD K "_law_cells" "_law_cells" (defArgs s__law_cells) (defBody s__law_cells) (defScope s__law_cells) [] [] (He.ga K "_law_cells") T.fd__law_cells := Classical.choose_spec T.d__law_cells
theorem Tx.k__law_cells : PySem.W.keepIn K (.ref (He.ga K "_law_cells")) = true := T.F__law_cells.kp
theorem Tx.bd__law_cells : Binds K T.fd__law_cells [] [] := T.F__law_cells.bindsN fun _ _ _ _ _ _ us hl => match us, hl with | [], _ => rfl
abbrev Fn__law_cells (P : Program) (w : World) (base : Heap) (CX : CXT) (k : Nat) (sp : Sp) : Prop := FnOk P w K mg base CX k (He.ga K "_law_cells") T.fd__law_cells [] sp
noncomputable def Tx.fd__law_handings : FuncData := Classical.choose T.d__law_handings
theorem Tx.F__law_handings : FunD K "_law_handings" "_law_handings" (defArgs s__law_handings) (defBody s__law_handings) (defScope s__law_handings) [] [] (He.ga K "_law_handings") T.fd__law_handings := Classical.choose_spec T.d__law_handings
theorem Tx.k__law_handings : PySem.W.keepIn K (.ref (He.ga K "_law_handings")) = true := T.F__law_handings.kp
theorem Tx.bd__law_handings : Binds K T.fd__law_handings ["_law_body_here"] [] := T.F__law_handings.bindsN fun _ _ _ _ _ _ us hl => match us, hl with | [_], _ => rfl
abbrev Fn__law_handings (P : Program) (w : World) (base : Heap) (CX : CXT) (k : Nat) (sp : Sp) : Prop := FnOk P w K mg base CX k (He.ga K "_law_handings") T.fd__law_handings ["_law_body_here"] sp
noncomputable def Tx.fd__law_may_set : FuncData := Classical.choose T.d__law_may_set
theorem Tx.F__law_may_set : FunD K "_law_may_set" "_law_may_set" (defArgs s__law_may_set) (defBody s__law_may_set) (defScope s__law_may_set) [] [] (He.ga K "_law_may_set") T.fd__law_may_set := Classical.choose_spec T.d__law_may_set
theorem Tx.k__law_may_set : PySem.W.keepIn K (.ref (He.ga K "_law_may_set")) = true := T.F__law_may_set.kp
theorem Tx.bd__law_may_set : Binds K T.fd__law_may_set ["_law_program_here", "_law_ways_here"] [] := T.F__law_may_set.bindsN fun _ _ _ _ _ _ us hl => match us, hl with | [_, _], _ => rfl
abbrev Fn__law_may_set (P : Program) (w : World) (base : Heap) (CX : CXT) (k : Nat) (sp : Sp) : Prop := FnOk P w K mg base CX k (He.ga K "_law_may_set") T.fd__law_may_set ["_law_program_here", "_law_ways_here"] sp
noncomputable def Tx.fd_law : FuncData := Classical.choose T.d_law
theorem Tx.F_law : FunD K "law" "law" (defArgs s_law) (defBody s_law) (defScope s_law) [] [] (He.ga K "law") T.fd_law := Classical.choose_spec T.d_law
theorem Tx.k_law : PySem.W.keepIn K (.ref (He.ga K "law")) = true := T.F_law.kp
theorem Tx.bd_law : Binds K T.fd_law ["_law_script"] [] := T.F_law.bindsN fun _ _ _ _ _ _ us hl => match us, hl with | [_], _ => rfl
abbrev Fn_law (P : Program) (w : World) (base : Heap) (CX : CXT) (k : Nat) (sp : Sp) : Prop := FnOk P w K mg base CX k (He.ga K "law") T.fd_law ["_law_script"] sp
end
end Hw
set_option maxRecDepth 100000
set_option maxHeartbeats 4000000
/-! PC1: the program's own look at numbers and things -/
namespace Hw
open PySem PySem.Spec PyProof.Rows L2 Evl
local macro_rules | `(tactic| walk_at "dd") => `(tactic| first | rfl | decide | (simp; done) | omega)
local macro_rules | `(tactic| walk_at "td") => `(tactic| first | assumption | exact Td.int _ | exact Td.bl _ | exact Td.str _ | exact Td.non | exact Td.tup (by assumption) (by assumption))
local macro_rules | `(tactic| walk_at "ev") => `(tactic| first
  | exact ed_ci | exact ed_cs | exact ed_cb | exact ed_cn
  | (apply ed_cg; assumption)
  | (apply ed_var; (rfl); (walk_at "td"))
  | (apply ed_ixT; (walk_at "ev"); (walk_at "ev"); (first | rfl | assumption))
  | (apply ed_rowI; (rfl); (assumption); (walk_at "ev"); (rfl))
  | (apply ed_ixL; (apply EvDL.rd; walk_at "edl"); (walk_at "ev"); (rfl))
  | (apply ed_intb; (walk_at "ev"))
  | (apply ed_len; walk_at "ev")
  | (apply ed_lenV; (apply ev_rowR; (rfl); (assumption); (walk_at "ev"); (rfl)); (assumption))
  | (apply ed_Ii; (walk_at "ev"); (walk_at "ev"); (walk_at "cc"))
  | (apply ed_isi; (walk_at "ev"); (rfl))
  | (apply ed_I0i; (walk_at "ev"); (walk_at "ev"))
  | (apply ed_I0b; (walk_at "ev"); (walk_at "ev"))
  | (apply ed_eqi; (walk_at "ev"); (walk_at "ev"))
  | (apply ed_nei; (walk_at "ev"); (walk_at "ev"))
  | (apply ed_andF; walk_at "ev")
  | (apply ed_andV; (walk_at "ev"); (intro _; walk_at "ev"))
  | (apply ed_orT; walk_at "ev")
  | (apply ed_orV; (walk_at "ev"); (intro _; walk_at "ev"))
  | (apply ed_notT; walk_at "ev")
  | (apply ed_notF; walk_at "ev")
  | (apply ed_notV; walk_at "ev")
  | (apply ed_chain; (walk_at "ev"); (walk_at "ev"); (intro _; walk_at "ev"))
  | (apply ed_eqS; (walk_at "ev"); (walk_at "ev"); (walk_at "bb"); (walk_at "bb"))
  | (apply ed_neS; (walk_at "ev"); (walk_at "ev"); (walk_at "bb"); (walk_at "bb"))
  | (apply ed_inT; (walk_at "ev"); (walk_at "ev"); (rfl); (rfl))
  | (apply ed_niT; (walk_at "ev"); (walk_at "ev"); (rfl); (rfl))
  | (apply ed_tup; (walk_at "eva"); (walk_at "bb"))
  | (apply ed_sl; (walk_at "ev"); (walk_at "evo"); (walk_at "evo"))
  | (apply ed_eqN; (apply EvDL.rd; walk_at "edl"); (walk_at "edl"); (walk_at "bb"))
  | (apply ed_neN; (apply EvDL.rd; walk_at "edl"); (walk_at "edl"); (walk_at "bb"))
  | (apply ed_ixL; (apply edr_var; (rfl); (assumption); (assumption)); (walk_at "ev"); (first | rfl | assumption))
  | (apply ed_lenL; (apply edr_var; (rfl); (assumption); (assumption)))
  | (apply ed_call; (walk_at "eva"); (walk_at "post")))
local macro_rules | `(tactic| walk_at "edl") => `(tactic| first
  | assumption
  | (apply edl_lst; (walk_at "eva"); (walk_at "bb")))
local macro_rules | `(tactic| walk_at "eva") => `(tactic| first
  | exact eda_nil
  | (apply eda_cons; (walk_at "ev"); (walk_at "eva")))
local macro_rules | `(tactic| walk_at "evo") => `(tactic| first
  | exact eok_none
  | (apply eok_some; walk_at "ev"))
local macro_rules | `(tactic| walk_at "bb") => `(tactic| first | rfl | assumption | (simp; done) | (simp; omega) | decide +kernel)
local macro_rules | `(tactic| walk_at "et") => `(tactic| first
  | exact tk_yes
  | (apply tk_andF; walk_at "et")
  | (apply tk_and; (walk_at "et"); (intro _; walk_at "et"))
  | (apply tk_orT; walk_at "et")
  | (apply tk_or; (walk_at "et"); (intro _; walk_at "et"))
  | (apply tk_notT; walk_at "et")
  | (apply tk_notF; walk_at "et")
  | (apply tk_not; walk_at "et")
  | (apply tk_v; walk_at "ev")
  | (apply tk_vB; walk_at "ev"))
local macro_rules | `(tactic| walk_at "if") => `(tactic| first
  | (apply pst_whenF; (walk_at "et"); (walk_at "bb"))
  | (apply pst_whenT; (walk_at "et"); (walk_at "bb")))
local macro_rules | `(tactic| walk_at "post") => `(tactic| first | assumption | exact ⟨_, _, rfl, rfl⟩ | exact ⟨_, _, _, _, rfl, by omega, by omega, rfl⟩ | exact ⟨_, _, _, 0, rfl, by omega, by omega, rfl⟩)
local macro_rules | `(tactic| walk_at "cc") => `(tactic| first | assumption | decide | omega | (refine ⟨?_, ?_⟩ <;> first | decide | omega) | (exact Or.inl (by constructor <;> omega)))

section
variable {P : Program} {w : World} {K : PySem.W.Frag} {mg : Str → Option Value} {base : Heap} (T : Tx K mg)
include T
def isNumD : PyData → Int → Bool
  | .int i, b => decide (0 ≤ i) && decide (i < b)
  | _, _ => false
def pNumber (ds : List PyData) (d : PyData) : Prop := ∃ x b, ds = [x, .int b] ∧ d = .bool (isNumD x b)
theorem ok_is_number : Fn_is_number T P w base CX0 1 (spF K pNumber) := by
  refine T.F_is_number.ok sc_is_number (spF_len fun ds d h => by obtain ⟨x, b, rfl, _⟩ := h; rfl) fun cdv A outer s H vs Q E hr h => ?_
  obtain ⟨ds, d, ht, ⟨x, b, rfl, rfl⟩, k⟩ := h
  obtain _ | ⟨t1, _ | ⟨t2, _ | _⟩⟩ := ht
  refine ⟨_, (pss_one (ps_ret (pe_and (pe_callB (kc_isi K) rfl T.b_isinstance (by decide +kernel) (pa_cons (pv 0) (pa_cons (pe_bltn (v := .ty "int") rfl T.b_int (by decide +kernel) rfl) pa_nil))) (pe_and (pe_not (pe_callB (kc_isi K) rfl T.b_isinstance (by decide +kernel) (pa_cons (pv 0) (pa_cons (pe_bltn (v := .ty "bool") rfl T.b_bool (by decide +kernel) rfl) pa_nil)))) (pe_one (pe_chain op_le op_lt pe_int (pv 0) (pv 1))))))), ?_⟩
  cases t2
  cases x with
  | list _ => cases t1
  | dict _ => cases t1
  | _ =>
    (try cases t1)
    refine sd_ret ?_ k
    apply ed_is
    · walk_at "ev"
    · first | rfl | simp [isNumD]
/-- is_thing: 6 - n within at most -/
def pThing (n : Nat) (ds : List PyData) (d : PyData) : Prop := ∃ (t : Th) (ps os w : Nat), ds = [encT t, .tuple [.int (ps : Int), .int (os : Int)], .int (w : Int)] ∧ w ≤ 5 ∧ 6 ≤ w + n ∧ d = .bool (okT ps os t w)
theorem ok_is_thing (GN : Fn_is_number T P w base CX0 1 (spF K pNumber)) : ∀ n : Nat, Fn_is_thing T P w base CX0 (n + 2) (spF K (pThing n)) := by
  intro n
  induction n with
  | zero => exact fn_vac fun vs H Q E ⟨ds, d, _, ⟨t, ps, os, w, _, h1, h2, _⟩, _⟩ => by omega
  | succ n ih =>
    have G_is_number := GN
    have G_is_thing := ih
    refine T.F_is_thing.ok sc_is_thing (spF_len fun ds d h => by obtain ⟨t, ps, os, w, rfl, _⟩ := h; rfl) fun cdv A outer s H vs Q E hr h => ?_
    obtain ⟨ds, d, ht, ⟨t, ps, os, w, rfl, hw5, hw, rfl⟩, k⟩ := h
    obtain _ | ⟨t1, _ | ⟨t2, _ | ⟨t3, _ | _⟩⟩⟩ := ht
    refine ⟨_, (pss_cons (ps_if (PW.pt (pw_or (pt_not (pt_val (pe_callB (kc_isi K) rfl T.b_isinstance (by decide +kernel) (pa_cons (pv 0) (pa_cons (pe_bltn (v := .ty "tuple") rfl T.b_tuple (by decide +kernel) rfl) pa_nil))))) (pw_or (pt_cmpR op_lt (pe_callB (kc_len K) rfl T.b_len PySem.boot_len (pa_cons (pv 0) pa_nil)) pe_int (nomark _)) (pw_or1 (pt_cmpR op_gt (pv 2) (pe_gint rfl T.g_MOST_WITHIN) (nomark _))))))
    (pss_one (ps_ret pe_bl))
    pss_nil)
  (pss_cons (ps_set (i := 3) sc_is_thing.nd rfl (Or.inl rfl) (pe_ix (kix_tup K) (pv 0) pe_int (fun _ _ => rfl)))
  (pss_cons (ps_if (pt_cmpR (kop_eq K hr.units) (pv 3) pe_str (nomark _))
    (pss_one (ps_ret (pe_and (pe_cmpR op_eq (pe_callB (kc_len K) rfl T.b_len PySem.boot_len (pa_cons (pv 0) pa_nil)) pe_int (nomark _)) (pe_and (pe_call G_is_thing (hr.mono (by omega)) (by rfl) T.g_is_thing T.k_is_thing T.bd_is_thing .nil pass0 (pa_cons (pe_ix (kix_tup K) (pv 0) pe_int (fun _ _ => rfl)) (pa_cons (pv 1) (pa_cons (pe_op op_add (pv 2) pe_int) pa_nil)))) (pe_one (pe_call G_is_thing (hr.mono (by omega)) (by rfl) T.g_is_thing T.k_is_thing T.bd_is_thing .nil pass0 (pa_cons (pe_ix (kix_tup K) (pv 0) pe_int (fun _ _ => rfl)) (pa_cons (pv 1) (pa_cons (pe_op op_add (pv 2) pe_int) pa_nil)))))))))
    pss_nil)
  (pss_cons (ps_if (pt_cmpR (kop_eq K hr.units) (pv 3) pe_str (nomark _))
    (pss_one (ps_ret (pe_and (pe_cmpR op_eq (pe_callB (kc_len K) rfl T.b_len PySem.boot_len (pa_cons (pv 0) pa_nil)) pe_int (nomark _)) (pe_one (pe_call G_is_thing (hr.mono (by omega)) (by rfl) T.g_is_thing T.k_is_thing T.bd_is_thing .nil pass0 (pa_cons (pe_ix (kix_tup K) (pv 0) pe_int (fun _ _ => rfl)) (pa_cons (pv 1) (pa_cons (pe_op op_add (pv 2) pe_int) pa_nil))))))))
    pss_nil)
  (pss_cons (ps_set (i := 4) sc_is_thing.nd rfl (Or.inl rfl) (pe_disp (pps_cons pe_str (pe_gint rfl T.g_NUMBERS) (pps_cons pe_str (pe_ix (kix_tup K) (pv 1) pe_int (fun _ _ => rfl)) (pps_cons pe_str (pe_ix (kix_tup K) (pv 1) pe_int (fun _ _ => rfl)) pps_nil))) (by rfl) (by rfl) (fun z => by cases z) (by decide)))
  (pss_one (ps_ret (pe_and (pe_cmpR (kop_in K) (pv 3) (pe_tup (pa_cons pe_str (pa_cons pe_str (pa_cons pe_str pa_nil)))) rfl) (pe_and (pe_cmpR op_eq (pe_callB (kc_len K) rfl T.b_len PySem.boot_len (pa_cons (pv 0) pa_nil)) pe_int (nomark _)) (pe_one (pe_call G_is_number (hr.mono (by omega)) (by rfl) T.g_is_number T.k_is_number T.bd_is_number .nil pass0 (pa_cons (pe_ix (kix_tup K) (pv 0) pe_int (fun _ _ => rfl)) (pa_cons (pe_dget (hu_of hr) (pv 4) (pv 3) (fun _ _ => rfl)) pa_nil))))))))))))), ?_⟩
    cases t3
    refine Pst.go (K := K) ?_
    by_cases h4 : w ≤ 4
    · cases t with
      | num m =>
        walk_at "if"
        apply pst_asg
        · walk_at "ev"
        intro v3 H1 e1 t5
        cases t5
        replace t1 := t1.ex e1
        replace t2 := t2.ex e1
        replace k := fun v H' (e : Ex H1 H') => k v H' (e1.trans e)
        clear e1
        walk_at "if"
        walk_at "if"
        apply pst_disp [(Sum.inr "num", .int 3), (Sum.inr "par", .int (ps : Int)), (Sum.inr "own", .int (os : Int))]
        · apply eps_cons
          · exact ev_c
          · exact ev_c
          · apply eps_cons
            · exact ev_c
            · refine EvD.iv (K := K) (i := _) ?_
              walk_at "ev"
            · apply eps_cons
              · exact ev_c
              · refine EvD.iv (K := K) (i := _) ?_
                walk_at "ev"
              · exact eps_nil
        · exact (by decide : 3 ≤ 15)
        intro p H2 hp e2 hD
        replace t1 := t1.ex e2
        replace t2 := t2.ex e2
        replace k := fun v H' (e : Ex H2 H') => k v H' (e2.trans e)
        apply pst_ret _ k
        apply ed_is
        · apply ed_andV
          · walk_at "ev"
          intro _
          apply ed_andV
          · walk_at "ev"
          intro _
          apply ed_call
          · apply eda_cons
            · walk_at "ev"
            · apply eda_cons
              · apply ed_i
                apply ev_dget (p := p) (s := "num")
                · rfl
                · exact hD
                · refine EvD.sv (K := K) ?_
                  walk_at "ev"
                · rfl
              · exact eda_nil
          · exact ⟨_, _, rfl, rfl⟩
        · simp [okT, isNumD, h4] <;> omega
      | own m =>
        walk_at "if"
        apply pst_asg
        · walk_at "ev"
        intro v3 H1 e1 t5
        cases t5
        replace t1 := t1.ex e1
        replace t2 := t2.ex e1
        replace k := fun v H' (e : Ex H1 H') => k v H' (e1.trans e)
        clear e1
        walk_at "if"
        walk_at "if"
        apply pst_disp [(Sum.inr "num", .int 3), (Sum.inr "par", .int (ps : Int)), (Sum.inr "own", .int (os : Int))]
        · apply eps_cons
          · exact ev_c
          · exact ev_c
          · apply eps_cons
            · exact ev_c
            · refine EvD.iv (K := K) (i := _) ?_
              walk_at "ev"
            · apply eps_cons
              · exact ev_c
              · refine EvD.iv (K := K) (i := _) ?_
                walk_at "ev"
              · exact eps_nil
        · exact (by decide : 3 ≤ 15)
        intro p H2 hp e2 hD
        replace t1 := t1.ex e2
        replace t2 := t2.ex e2
        replace k := fun v H' (e : Ex H2 H') => k v H' (e2.trans e)
        apply pst_ret _ k
        apply ed_is
        · apply ed_andV
          · walk_at "ev"
          intro _
          apply ed_andV
          · walk_at "ev"
          intro _
          apply ed_call
          · apply eda_cons
            · walk_at "ev"
            · apply eda_cons
              · apply ed_i
                apply ev_dget (p := p) (s := "own")
                · rfl
                · exact hD
                · refine EvD.sv (K := K) ?_
                  walk_at "ev"
                · rfl
              · exact eda_nil
          · exact ⟨_, _, rfl, rfl⟩
        · simp [okT, isNumD, h4] <;> omega
      | par m =>
        walk_at "if"
        apply pst_asg
        · walk_at "ev"
        intro v3 H1 e1 t5
        cases t5
        replace t1 := t1.ex e1
        replace t2 := t2.ex e1
        replace k := fun v H' (e : Ex H1 H') => k v H' (e1.trans e)
        clear e1
        walk_at "if"
        walk_at "if"
        apply pst_disp [(Sum.inr "num", .int 3), (Sum.inr "par", .int (ps : Int)), (Sum.inr "own", .int (os : Int))]
        · apply eps_cons
          · exact ev_c
          · exact ev_c
          · apply eps_cons
            · exact ev_c
            · refine EvD.iv (K := K) (i := _) ?_
              walk_at "ev"
            · apply eps_cons
              · exact ev_c
              · refine EvD.iv (K := K) (i := _) ?_
                walk_at "ev"
              · exact eps_nil
        · exact (by decide : 3 ≤ 15)
        intro p H2 hp e2 hD
        replace t1 := t1.ex e2
        replace t2 := t2.ex e2
        replace k := fun v H' (e : Ex H2 H') => k v H' (e2.trans e)
        apply pst_ret _ k
        apply ed_is
        · apply ed_andV
          · walk_at "ev"
          intro _
          apply ed_andV
          · walk_at "ev"
          intro _
          apply ed_call
          · apply eda_cons
            · walk_at "ev"
            · apply eda_cons
              · apply ed_i
                apply ev_dget (p := p) (s := "par")
                · rfl
                · exact hD
                · refine EvD.sv (K := K) ?_
                  walk_at "ev"
                · rfl
              · exact eda_nil
          · exact ⟨_, _, rfl, rfl⟩
        · simp [okT, isNumD, h4] <;> omega
      | cell t' => 
        walk_at "if"
        apply pst_asg
        · walk_at "ev"
        intro v3 H1 e1 t5
        cases t5
        replace t1 := t1.ex e1
        replace t2 := t2.ex e1
        replace k := fun v H' (e : Ex H1 H') => k v H' (e1.trans e)
        clear e1
        walk_at "if"
        walk_at "if"
        apply pst_ret _ k
        apply ed_is
        · apply ed_andV
          · walk_at "ev"
          intro _
          apply ed_call
          · walk_at "eva"
          · exact ⟨t', ps, os, w + 1, rfl, by omega, by omega, rfl⟩
        · simp [okT, h4]
      | sum ta tb =>
        walk_at "if"
        apply pst_asg
        · walk_at "ev"
        intro v3 H1 e1 t5
        cases t5
        replace t1 := t1.ex e1
        replace t2 := t2.ex e1
        replace k := fun v H' (e : Ex H1 H') => k v H' (e1.trans e)
        clear e1
        walk_at "if"
        apply pst_ret _ k
        apply ed_is
        · apply ed_andV
          · walk_at "ev"
          intro _
          apply ed_andV
          · apply ed_call
            · walk_at "eva"
            · exact ⟨ta, ps, os, w + 1, rfl, by omega, by omega, rfl⟩
          · intro _
            apply ed_call
            · walk_at "eva"
            · exact ⟨tb, ps, os, w + 1, rfl, by omega, by omega, rfl⟩
        · simp [okT, h4]
    · have h5 : okT ps os t w = false := by cases t <;> simp [okT, h4]
      obtain ⟨x, xs, e⟩ : ∃ x xs, encT t = .tuple (x :: xs) := by cases t <;> exact ⟨_, _, rfl⟩
      have t1' := t1
      rw [e] at t1'
      walk_at "if"
      apply pst_ret _ k
      rw [h5]
      exact ed_cb
end
end Hw

set_option maxRecDepth 100000
set_option maxHeartbeats 4000000
/-! PC2: calls, steps, bodies -/
namespace Hw
open PySem PySem.Spec PyProof.Rows L2 Evl
local macro_rules | `(tactic| walk_at "dd") => `(tactic| first | rfl | decide | (simp; done) | omega)
local macro_rules | `(tactic| walk_at "td") => `(tactic| first | assumption | exact Td.int _ | exact Td.bl _ | exact Td.str _ | exact Td.non | exact Td.tup (by assumption) (by assumption))
local macro_rules | `(tactic| walk_at "ev") => `(tactic| first
  | exact ed_ci | exact ed_cs | exact ed_cb | exact ed_cn
  | (apply ed_cg; assumption)
  | (apply ed_var; (rfl); (walk_at "td"))
  | (apply ed_ixT; (walk_at "ev"); (walk_at "ev"); (first | rfl | assumption))
  | (apply ed_rowI; (rfl); (assumption); (walk_at "ev"); (rfl))
  | (apply ed_ixL; (apply EvDL.rd; walk_at "edl"); (walk_at "ev"); (rfl))
  | (apply ed_intb; (walk_at "ev"))
  | (apply ed_len; walk_at "ev")
  | (apply ed_lenV; (apply ev_rowR; (rfl); (assumption); (walk_at "ev"); (rfl)); (assumption))
  | (apply ed_Ii; (walk_at "ev"); (walk_at "ev"); (walk_at "cc"))
  | (apply ed_isi; (walk_at "ev"); (rfl))
  | (apply ed_I0i; (walk_at "ev"); (walk_at "ev"))
  | (apply ed_I0b; (walk_at "ev"); (walk_at "ev"))
  | (apply ed_eqi; (walk_at "ev"); (walk_at "ev"))
  | (apply ed_nei; (walk_at "ev"); (walk_at "ev"))
  | (apply ed_andF; walk_at "ev")
  | (apply ed_andV; (walk_at "ev"); (intro _; walk_at "ev"))
  | (apply ed_orT; walk_at "ev")
  | (apply ed_orV; (walk_at "ev"); (intro _; walk_at "ev"))
  | (apply ed_notT; walk_at "ev")
  | (apply ed_notF; walk_at "ev")
  | (apply ed_notV; walk_at "ev")
  | (apply ed_chain; (walk_at "ev"); (walk_at "ev"); (intro _; walk_at "ev"))
  | (apply ed_eqS; (walk_at "ev"); (walk_at "ev"); (walk_at "bb"); (walk_at "bb"))
  | (apply ed_neS; (walk_at "ev"); (walk_at "ev"); (walk_at "bb"); (walk_at "bb"))
  | (apply ed_inT; (walk_at "ev"); (walk_at "ev"); (rfl); (rfl))
  | (apply ed_niT; (walk_at "ev"); (walk_at "ev"); (rfl); (rfl))
  | (apply ed_tup; (walk_at "eva"); (walk_at "bb"))
  | (apply ed_sl; (walk_at "ev"); (walk_at "evo"); (walk_at "evo"))
  | (apply ed_eqN; (apply EvDL.rd; walk_at "edl"); (walk_at "edl"); (walk_at "bb"))
  | (apply ed_neN; (apply EvDL.rd; walk_at "edl"); (walk_at "edl"); (walk_at "bb"))
  | (apply ed_ixL; (apply edr_var; (rfl); (assumption); (assumption)); (walk_at "ev"); (first | rfl | assumption))
  | (apply ed_lenL; (apply edr_var; (rfl); (assumption); (assumption)))
  | (apply ed_call; (walk_at "eva"); (walk_at "post")))
local macro_rules | `(tactic| walk_at "edl") => `(tactic| first
  | assumption
  | (apply edl_lst; (walk_at "eva"); (walk_at "bb")))
local macro_rules | `(tactic| walk_at "eva") => `(tactic| first
  | exact eda_nil
  | (apply eda_cons; (walk_at "ev"); (walk_at "eva")))
local macro_rules | `(tactic| walk_at "evo") => `(tactic| first
  | exact eok_none
  | (apply eok_some; walk_at "ev"))
local macro_rules | `(tactic| walk_at "bb") => `(tactic| first | rfl | assumption | (simp; done) | (simp; omega) | decide +kernel)
local macro_rules | `(tactic| walk_at "et") => `(tactic| first
  | exact tk_yes
  | (apply tk_andF; walk_at "et")
  | (apply tk_and; (walk_at "et"); (intro _; walk_at "et"))
  | (apply tk_orT; walk_at "et")
  | (apply tk_or; (walk_at "et"); (intro _; walk_at "et"))
  | (apply tk_notT; walk_at "et")
  | (apply tk_notF; walk_at "et")
  | (apply tk_not; walk_at "et")
  | (apply tk_v; walk_at "ev")
  | (apply tk_vB; walk_at "ev"))
local macro_rules | `(tactic| walk_at "if") => `(tactic| first
  | (apply pst_whenF; (walk_at "et"); (walk_at "bb"))
  | (apply pst_whenT; (walk_at "et"); (walk_at "bb")))
local macro_rules | `(tactic| walk_at "post") => `(tactic| first | assumption | exact ⟨_, _, rfl, rfl⟩ | exact ⟨_, _, _, _, rfl, by omega, by omega, rfl⟩ | exact ⟨_, _, _, 0, rfl, by omega, by omega, rfl⟩)
local macro_rules | `(tactic| walk_at "cc") => `(tactic| first | assumption | decide | omega | (refine ⟨?_, ?_⟩ <;> first | decide | omega) | (exact Or.inl (by constructor <;> omega)))

theorem atI_enc {α : Type} {xs : List α} {f : α → PyData} {i : Nat} {x : α} (h : xs[i]? = some x) : atI (xs.map f) (i : Int) = some (f x) := atI_nat (by rw [List.getElem?_map, h] <;> rfl)
theorem shP_get {p : List Wk} {i : Nat} {x : Wk} (h : p[i]? = some x) : shP (shapes p) i = x.params := by simp [shP, shapes, h]
theorem shO_get {p : List Wk} {i : Nat} {x : Wk} (h : p[i]? = some x) : shO (shapes p) i = x.owns := by simp [shO, shapes, h]
section
variable {P : Program} {w : World} {K : PySem.W.Frag} {mg : Str → Option Value} {base : Heap} (T : Tx K mg)
include T
def pCall (ds : List PyData) (d : PyData) : Prop := ∃ (p : List Wk) (at_ c : Nat) (ts : List Th) (ps os : Nat), ds = [encP p, .int (at_ : Int), encS (.call c ts), .tuple [.int (ps : Int), .int (os : Int)]] ∧ ts.length ≤ 40000 ∧
  d = .bool (decide (c < p.length) && (decide (at_ < c) && (decide (ts.length = shP (shapes p) c) && ts.all fun t => okT ps os t 0)))
theorem ok_is_call {k : Nat} (hk : 8 ≤ k) (G_is_number : Fn_is_number T P w base CX0 1 (spF K pNumber)) (G_is_thing : Fn_is_thing T P w base CX0 8 (spF K (pThing 6))) : Fn_is_call T P w base CX0 (k + 1) (spF K pCall) := by
  refine T.F_is_call.ok sc_is_call (spF_len fun ds d h => by obtain ⟨p, at_, c, ts, ps, os, rfl, _⟩ := h; rfl) fun cdv A outer s H vs Q E hr h => ?_
  obtain ⟨ds, d, ht, ⟨p, at_, c, ts, ps, os, rfl, hz, rfl⟩, k⟩ := h
  obtain _ | ⟨t1, _ | ⟨t2, _ | ⟨t3, _ | ⟨t4, _ | _⟩⟩⟩⟩ := ht
  refine ⟨_, (pss_cons (ps_if (PW.pt (pw_or (pt_cmpR op_ne (pe_callB (kc_len K) rfl T.b_len PySem.boot_len (pa_cons (pv 2) pa_nil)) pe_int (nomark _)) (pw_or (pt_not (pt_val (pe_call G_is_number (hr.mono (by omega)) (by rfl) T.g_is_number T.k_is_number T.bd_is_number .nil pass0 (pa_cons (pe_ix (kix_tup K) (pv 2) pe_int (fun _ _ => rfl)) (pa_cons (pe_callB (kc_len K) rfl T.b_len PySem.boot_len (pa_cons (pv 0) pa_nil)) pa_nil))))) (pw_or (pt_cmpR op_le (pe_ix (kix_tup K) (pv 2) pe_int (fun _ _ => rfl)) (pv 1) (nomark _)) (pw_or1 (pt_not (pt_val (pe_callB (kc_isi K) rfl T.b_isinstance (by decide +kernel) (pa_cons (pe_ix (kix_tup K) (pv 2) pe_int (fun _ _ => rfl)) (pa_cons (pe_bltn (v := .ty "tuple") rfl T.b_tuple (by decide +kernel) rfl) pa_nil))))))))))
    (pss_one (ps_ret pe_bl))
    pss_nil)
  (pss_cons (ps_if (pt_cmpR op_ne (pe_callB (kc_len K) rfl T.b_len PySem.boot_len (pa_cons (pe_ix (kix_tup K) (pv 2) pe_int (fun _ _ => rfl)) pa_nil)) (pe_ix (kix_tup K) (pe_ix (kix_tup K) (pv 0) (pe_ix (kix_tup K) (pv 2) pe_int (fun _ _ => rfl)) (fun _ _ => rfl)) pe_int (fun _ _ => rfl)) (nomark _))
    (pss_one (ps_ret pe_bl))
    pss_nil)
  (pss_one (ps_ret (pe_cmpR (kop_eq K hr.units) (pe_lc (own := [("thing", 4)]) (g := gName 4) (tt := _) rfl sc_is_call.nd (kpi_tup K (pe_ix (kix_tup K) (pv 2) pe_int (fun _ _ => rfl))) (blkOk_by (N := ["program", "at", "step", "sizes", "thing"]) (sc := defScope s_is_call) (by decide +kernel)) (fun _ _ _ _ _ => (pg_name (i := 4) sc_is_call.nd rfl (Or.inl rfl))) (fun _ _ _ _ _ => (pts_one (pt_not (pt_val (pe_call G_is_thing (hr.mono (by omega)) (by rfl) T.g_is_thing T.k_is_thing T.bd_is_thing .nil pass0 (pa_cons (pv 4) (pa_cons (pv 3) (pa_cons pe_int pa_nil)))))))) (fun _ _ _ _ _ => (pv 4))) (pe_lst pa_nil) (nomark _)))))), ?_⟩
  cases t2
  refine Pst.go (K := K) ?_
  by_cases h12 : c < p.length ∧ at_ < c
  · obtain ⟨h1, h2⟩ := h12
    have hwk : p[c]? = some p[c] := List.getElem?_eq_getElem h1
    have hat : atI (p.map encW) (c : Int) = some (encW p[c]) := atI_enc hwk
    have hsh : shP (shapes p) c = p[c].params := shP_get hwk
    apply pst_whenF
    · walk_at "et"
    · simp [isNumD]
      omega
    apply pst_when
    · apply tk_v
      apply ed_nei
      · walk_at "ev"
      · apply ed_ixT
        · apply ed_ixT
          · walk_at "ev"
          · walk_at "ev"
          · exact hat
        · walk_at "ev"
        · rfl
    · intro hb
      have e : ¬ ts.length = p[c].params := by
        simp at hb
        omega
      apply pst_ret _ k
      apply ed_is
      · walk_at "ev"
      · simp [hsh, e]
    · intro hb
      have e : ts.length = p[c].params := by
        simp at hb
        omega
      apply pst_ret _ k
      apply ed_is
      · apply ed_eqN
        · apply EvDL.rd
          apply edl_lcM (xs := ts) (f := encT) (p := fun t => !okT ps os t 0) (g := encT)
          · walk_at "ev"
          · rfl
          · exact hz
          · intro x
            rfl
          · intro x v H1 e1 hx tx
            replace t4 := t4.ex e1
            walk_at "et"
          · intro x v H1 e1 hx _ tx
            walk_at "ev"
        · walk_at "edl"
        · exact encTs_lay _
      · simp [hsh, e, h1, h2]
        exact filter_not_isEmpty _
  · apply pst_whenT
    · walk_at "et"
    · simp [isNumD]
      omega
    apply pst_ret _ k
    apply ed_is
    · walk_at "ev"
    · simp
      omega
end
end Hw

set_option maxRecDepth 100000
set_option maxHeartbeats 4000000
/-! PC3: steps and bodies -/
namespace Hw
open PySem PySem.Spec PyProof.Rows L2 Evl
local macro_rules | `(tactic| walk_at "dd") => `(tactic| first | rfl | decide | (simp; done) | omega)
local macro_rules | `(tactic| walk_at "td") => `(tactic| first | assumption | exact Td.int _ | exact Td.bl _ | exact Td.str _ | exact Td.non | exact Td.tup (by assumption) (by assumption))
local macro_rules | `(tactic| walk_at "ev") => `(tactic| first
  | exact ed_ci | exact ed_cs | exact ed_cb | exact ed_cn
  | (apply ed_cg; assumption)
  | (apply ed_var; (rfl); (walk_at "td"))
  | (apply ed_ixT; (walk_at "ev"); (walk_at "ev"); (first | rfl | assumption))
  | (apply ed_rowI; (rfl); (assumption); (walk_at "ev"); (rfl))
  | (apply ed_ixL; (apply EvDL.rd; walk_at "edl"); (walk_at "ev"); (rfl))
  | (apply ed_intb; (walk_at "ev"))
  | (apply ed_len; walk_at "ev")
  | (apply ed_lenV; (apply ev_rowR; (rfl); (assumption); (walk_at "ev"); (rfl)); (assumption))
  | (apply ed_Ii; (walk_at "ev"); (walk_at "ev"); (walk_at "cc"))
  | (apply ed_isi; (walk_at "ev"); (rfl))
  | (apply ed_I0i; (walk_at "ev"); (walk_at "ev"))
  | (apply ed_I0b; (walk_at "ev"); (walk_at "ev"))
  | (apply ed_eqi; (walk_at "ev"); (walk_at "ev"))
  | (apply ed_nei; (walk_at "ev"); (walk_at "ev"))
  | (apply ed_andF; walk_at "ev")
  | (apply ed_andV; (walk_at "ev"); (intro _; walk_at "ev"))
  | (apply ed_orT; walk_at "ev")
  | (apply ed_orV; (walk_at "ev"); (intro _; walk_at "ev"))
  | (apply ed_notT; walk_at "ev")
  | (apply ed_notF; walk_at "ev")
  | (apply ed_notV; walk_at "ev")
  | (apply ed_chain; (walk_at "ev"); (walk_at "ev"); (intro _; walk_at "ev"))
  | (apply ed_eqS; (walk_at "ev"); (walk_at "ev"); (walk_at "bb"); (walk_at "bb"))
  | (apply ed_neS; (walk_at "ev"); (walk_at "ev"); (walk_at "bb"); (walk_at "bb"))
  | (apply ed_inT; (walk_at "ev"); (walk_at "ev"); (rfl); (rfl))
  | (apply ed_niT; (walk_at "ev"); (walk_at "ev"); (rfl); (rfl))
  | (apply ed_tup; (walk_at "eva"); (walk_at "bb"))
  | (apply ed_sl; (walk_at "ev"); (walk_at "evo"); (walk_at "evo"))
  | (apply ed_eqN; (apply EvDL.rd; walk_at "edl"); (walk_at "edl"); (walk_at "bb"))
  | (apply ed_neN; (apply EvDL.rd; walk_at "edl"); (walk_at "edl"); (walk_at "bb"))
  | (apply ed_ixL; (apply edr_var; (rfl); (assumption); (assumption)); (walk_at "ev"); (first | rfl | assumption))
  | (apply ed_lenL; (apply edr_var; (rfl); (assumption); (assumption)))
  | (apply ed_call; (walk_at "eva"); (walk_at "post")))
local macro_rules | `(tactic| walk_at "edl") => `(tactic| first
  | assumption
  | (apply edl_lst; (walk_at "eva"); (walk_at "bb")))
local macro_rules | `(tactic| walk_at "eva") => `(tactic| first
  | exact eda_nil
  | (apply eda_cons; (walk_at "ev"); (walk_at "eva")))
local macro_rules | `(tactic| walk_at "evo") => `(tactic| first
  | exact eok_none
  | (apply eok_some; walk_at "ev"))
local macro_rules | `(tactic| walk_at "bb") => `(tactic| first | rfl | assumption | (simp; done) | (simp; omega) | decide +kernel)
local macro_rules | `(tactic| walk_at "et") => `(tactic| first
  | exact tk_yes
  | (apply tk_andF; walk_at "et")
  | (apply tk_and; (walk_at "et"); (intro _; walk_at "et"))
  | (apply tk_orT; walk_at "et")
  | (apply tk_or; (walk_at "et"); (intro _; walk_at "et"))
  | (apply tk_notT; walk_at "et")
  | (apply tk_notF; walk_at "et")
  | (apply tk_not; walk_at "et")
  | (apply tk_v; walk_at "ev")
  | (apply tk_vB; walk_at "ev"))
local macro_rules | `(tactic| walk_at "if") => `(tactic| first
  | (apply pst_whenF; (walk_at "et"); (walk_at "bb"))
  | (apply pst_whenT; (walk_at "et"); (walk_at "bb")))
local macro_rules | `(tactic| walk_at "post") => `(tactic| first | assumption | exact ⟨_, _, rfl, rfl⟩ | exact ⟨_, _, _, _, rfl, by omega, by omega, rfl⟩ | exact ⟨_, _, _, 0, rfl, by omega, by omega, rfl⟩)
local macro_rules | `(tactic| walk_at "cc") => `(tactic| first | assumption | decide | omega | (refine ⟨?_, ?_⟩ <;> first | decide | omega) | (exact Or.inl (by constructor <;> omega)))

def pStep (n : Nat) (ds : List PyData) (d : PyData) : Prop := ∃ (p : List Wk) (at_ : Nat) (s : Stm) (w : Nat), ds = [encP p, .int (at_ : Int), encS s, .int (w : Int)] ∧ at_ < p.length ∧ smS s = true ∧ w ≤ 5 ∧ 6 ≤ w + n ∧ d = .bool (okS (shapes p) at_ s w)
def pBody (n : Nat) (ds : List PyData) (d : PyData) : Prop := ∃ (p : List Wk) (at_ : Nat) (b : List Stm) (w : Nat), ds = [encP p, .int (at_ : Int), .tuple (encB b), .int (w : Int)] ∧ at_ < p.length ∧ b.length ≤ 1000 ∧ smB b = true ∧ w ≤ 5 ∧ 6 ≤ w + n ∧ d = .bool (okB (shapes p) at_ b w)
section
variable {P : Program} {w : World} {K : PySem.W.Frag} {mg : Str → Option Value} {base : Heap} (T : Tx K mg)
include T
theorem ok_is_body {k n : Nat} (G_is_step : Fn_is_step T P w base CX0 k (spF K (pStep n))) : Fn_is_body T P w base CX0 (k + 1) (spF K (pBody n)) := by
  refine T.F_is_body.ok sc_is_body (spF_len fun ds d h => by obtain ⟨p, at_, s, w, rfl, _⟩ := h; rfl) fun cdv A outer s H vs Q E hr h => ?_
  obtain ⟨ds, d, ht, ⟨p, at_, b, w, rfl, hat, hl, hs, hw5, hw, rfl⟩, k⟩ := h
  obtain _ | ⟨t1, _ | ⟨t2, _ | ⟨t3, _ | ⟨t4, _ | _⟩⟩⟩⟩ := ht
  refine ⟨_, (pss_one (ps_ret (pe_and (pe_callB (kc_isi K) rfl T.b_isinstance (by decide +kernel) (pa_cons (pv 2) (pa_cons (pe_bltn (v := .ty "tuple") rfl T.b_tuple (by decide +kernel) rfl) pa_nil))) (pe_one (pe_cmpR (kop_eq K hr.units) (pe_lc (own := [("step", 4)]) (g := gName 4) (tt := _) rfl sc_is_body.nd (kpi_tup K (pv 2)) (blkOk_by (N := ["program", "at", "body", "within", "step"]) (sc := defScope s_is_body) (by decide +kernel)) (fun _ _ _ _ _ => (pg_name (i := 4) sc_is_body.nd rfl (Or.inl rfl))) (fun _ _ _ _ _ => (pts_one (pt_not (pt_val (pe_call G_is_step (hr.mono (by omega)) (by rfl) T.g_is_step T.k_is_step T.bd_is_step .nil pass0 (pa_cons (pv 0) (pa_cons (pv 1) (pa_cons (pv 4) (pa_cons (pv 3) pa_nil))))))))) (fun _ _ _ _ _ => (pv 4))) (pe_lst pa_nil) (nomark _)))))), ?_⟩
  cases t2
  cases t4
  refine Pst.go (K := K) ?_
  apply pst_ret _ k
  apply ed_is
  · apply ed_andV
    · walk_at "ev"
    intro _
    apply ed_eqN
    · apply EvDL.rd
      apply edl_lcM (xs := b) (f := encS) (p := fun s => !okS (shapes p) at_ s w) (g := encS)
      · walk_at "ev"
      · exact encB_map b
      · omega
      · intro x
        rfl
      · intro x v H1 e1 hx tx
        replace t1 := t1.ex e1
        apply tk_not
        apply tk_vB
        apply ed_call
        · walk_at "eva"
        · exact ⟨p, at_, x, w, rfl, hat, smB_mem hs hx, hw5, hw, rfl⟩
      · intro x v H1 e1 hx _ tx
        walk_at "ev"
    · walk_at "edl"
    · rw [← encB_map]
      exact encB_lay _
  · rw [okB_all]
    simp
    exact filter_not_isEmpty _
theorem ok_is_step {k n : Nat} (hk : 9 ≤ k) (G_is_thing : Fn_is_thing T P w base CX0 8 (spF K (pThing 6))) (G_is_call : Fn_is_call T P w base CX0 9 (spF K pCall)) (G_is_body : Fn_is_body T P w base CX0 k (spF K (pBody n))) : Fn_is_step T P w base CX0 (k + 1) (spF K (pStep (n + 1))) := by
  refine T.F_is_step.ok sc_is_step (spF_len fun ds d h => by obtain ⟨p, at_, s, w, rfl, _⟩ := h; rfl) fun cdv A outer s H vs Q E hr h => ?_
  obtain ⟨ds, d, ht, ⟨p, at_, st, w, rfl, hat, hs, hw5, hw, rfl⟩, k⟩ := h
  obtain _ | ⟨t1, _ | ⟨t2, _ | ⟨t3, _ | ⟨t4, _ | _⟩⟩⟩⟩ := ht
  refine ⟨_, (pss_cons (ps_if (PW.pt (pw_or (pt_not (pt_val (pe_callB (kc_isi K) rfl T.b_isinstance (by decide +kernel) (pa_cons (pv 2) (pa_cons (pe_bltn (v := .ty "tuple") rfl T.b_tuple (by decide +kernel) rfl) pa_nil))))) (pw_or (pt_cmpR op_lt (pe_callB (kc_len K) rfl T.b_len PySem.boot_len (pa_cons (pv 2) pa_nil)) pe_int (nomark _)) (pw_or1 (pt_cmpR op_gt (pv 3) (pe_gint rfl T.g_MOST_WITHIN) (nomark _))))))
    (pss_one (ps_ret pe_bl))
    pss_nil)
  (pss_cons (ps_set (i := 4) sc_is_step.nd rfl (Or.inl rfl) (pe_slice (ksl_tup K) (pe_ix (kix_tup K) (pv 0) (pv 1) (fun _ _ => rfl)) po_none (po_some pe_int)))
  (pss_cons (ps_if (pt_cmpR (kop_eq K hr.units) (pe_ix (kix_tup K) (pv 2) pe_int (fun _ _ => rfl)) pe_str (nomark _))
    (pss_one (ps_ret (pe_call G_is_call (hr.mono (by omega)) (by rfl) T.g_is_call T.k_is_call T.bd_is_call .nil pass0 (pa_cons (pv 0) (pa_cons (pv 1) (pa_cons (pv 2) (pa_cons (pv 4) pa_nil)))))))
    pss_nil)
  (pss_cons (ps_if (pt_not (pt_val (pe_call G_is_thing (hr.mono (by omega)) (by rfl) T.g_is_thing T.k_is_thing T.bd_is_thing .nil pass0 (pa_cons (pe_ix (kix_tup K) (pv 2) pe_int (fun _ _ => rfl)) (pa_cons (pv 4) (pa_cons pe_int pa_nil))))))
    (pss_one (ps_ret pe_bl))
    pss_nil)
  (pss_cons (ps_if (pt_cmpR (kop_eq K hr.units) (pe_ix (kix_tup K) (pv 2) pe_int (fun _ _ => rfl)) pe_str (nomark _))
    (pss_one (ps_ret (pe_and (pe_cmpR op_eq (pe_callB (kc_len K) rfl T.b_len PySem.boot_len (pa_cons (pv 2) pa_nil)) pe_int (nomark _)) (pe_and (pe_cmpR (kop_in K) (pe_ix (kix_tup K) (pe_ix (kix_tup K) (pv 2) pe_int (fun _ _ => rfl)) pe_int (fun _ _ => rfl)) (pe_glob (v := .ref _) rfl T.g_PLACES rfl) rfl) (pe_one (pe_call G_is_thing (hr.mono (by omega)) (by rfl) T.g_is_thing T.k_is_thing T.bd_is_thing .nil pass0 (pa_cons (pe_ix (kix_tup K) (pv 2) pe_int (fun _ _ => rfl)) (pa_cons (pv 4) (pa_cons pe_int pa_nil)))))))))
    pss_nil)
  (pss_cons (ps_if (pt_cmpR (kop_eq K hr.units) (pe_ix (kix_tup K) (pv 2) pe_int (fun _ _ => rfl)) pe_str (nomark _))
    (pss_one (ps_ret (pe_and (pe_cmpR op_eq (pe_callB (kc_len K) rfl T.b_len PySem.boot_len (pa_cons (pv 2) pa_nil)) pe_int (nomark _)) (pe_one (pe_cmpR (kop_eq K hr.units) (pe_lc (own := [("body", 5)]) (g := gName 5) (tt := _) rfl sc_is_step.nd (kpi_tup K (pe_slice (ksl_tup K) (pv 2) (po_some pe_int) po_none)) (blkOk_by (N := ["program", "at", "step", "within", "sizes", "body"]) (sc := defScope s_is_step) (by decide +kernel)) (fun _ _ _ _ _ => (pg_name (i := 5) sc_is_step.nd rfl (Or.inl rfl))) (fun _ _ _ _ _ => (pts_one (pt_not (pt_val (pe_call G_is_body (hr.mono (by omega)) (by rfl) T.g_is_body T.k_is_body T.bd_is_body .nil pass0 (pa_cons (pv 0) (pa_cons (pv 1) (pa_cons (pv 5) (pa_cons (pe_op op_add (pv 3) pe_int) pa_nil))))))))) (fun _ _ _ _ _ => (pv 5))) (pe_lst pa_nil) (nomark _))))))
    pss_nil)
  (pss_one (ps_ret (pe_and (pe_cmpR (kop_eq K hr.units) (pe_ix (kix_tup K) (pv 2) pe_int (fun _ _ => rfl)) pe_str (nomark _)) (pe_one (pe_cmpR op_eq (pe_callB (kc_len K) rfl T.b_len PySem.boot_len (pa_cons (pv 2) pa_nil)) pe_int (nomark _)))))))))))), ?_⟩
  cases t2
  cases t4
  refine Pst.go (K := K) ?_
  have hwk : p[at_]? = some p[at_] := List.getElem?_eq_getElem hat
  have hix : atI (p.map encW) (at_ : Int) = some (encW p[at_]) := atI_enc hwk
  have hp : shP (shapes p) at_ = p[at_].params := shP_get hwk
  have ho : shO (shapes p) at_ = p[at_].owns := shO_get hwk
  have hPl : ∀ H, Td K H (.ref (He.ga K "PLACES")) (.tuple [.str "cell", .str "own", .str "par"]) := fun H => .tup (T.t_PLACES H) (.cons (.str _) (.cons (.str _) (.cons (.str _) .nil)))
  by_cases h4 : w ≤ 4
  · cases st with
    | set pl t =>
      walk_at "if"
      refine pst_asg (d := .tuple [.int (p[at_].params : Int), .int (p[at_].owns : Int)]) ?_ ?_
      · apply ed_is
        · walk_at "ev"
        · rfl
      intro v5 H1 e1 t5
      replace t1 := t1.ex e1
      replace t3 := t3.ex e1
      replace k := fun v H' (e : Ex H1 H') => k v H' (e1.trans e)
      clear e1
      walk_at "if"
      apply pst_when
      · walk_at "et"
      · intro hb
        apply pst_ret _ k
        apply ed_is
        · walk_at "ev"
        · simp at hb
          simp [okS, hp, ho, hb]
      intro hb
      simp at hb
      walk_at "if"
      apply pst_ret _ k
      apply ed_is
      · apply ed_andV
        · walk_at "ev"
        intro _
        refine ed_andV (a := isPlace pl) (b := okT p[at_].params p[at_].owns t 0) ?_ ?_
        · cases pl <;> (apply ed_is; (walk_at "ev"); (simp [isPlace]))
        intro _
        walk_at "ev"
      · simp [okS, hp, ho, hb, h4]
    | say t =>
      walk_at "if"
      refine pst_asg (d := .tuple [.int (p[at_].params : Int), .int (p[at_].owns : Int)]) ?_ ?_
      · apply ed_is
        · walk_at "ev"
        · rfl
      intro v5 H1 e1 t5
      replace t1 := t1.ex e1
      replace t3 := t3.ex e1
      replace k := fun v H' (e : Ex H1 H') => k v H' (e1.trans e)
      clear e1
      walk_at "if"
      apply pst_when
      · walk_at "et"
      · intro hb
        apply pst_ret _ k
        apply ed_is
        · walk_at "ev"
        · simp at hb
          simp [okS, hp, ho, hb]
      intro hb
      simp at hb
      walk_at "if"
      walk_at "if"
      apply pst_ret _ k
      apply ed_is
      · walk_at "ev"
      · simp [okS, hp, ho, hb, h4]
    | ite t a b =>
      walk_at "if"
      refine pst_asg (d := .tuple [.int (p[at_].params : Int), .int (p[at_].owns : Int)]) ?_ ?_
      · apply ed_is
        · walk_at "ev"
        · rfl
      intro v5 H1 e1 t5
      replace t1 := t1.ex e1
      replace t3 := t3.ex e1
      replace k := fun v H' (e : Ex H1 H') => k v H' (e1.trans e)
      clear e1
      walk_at "if"
      apply pst_when
      · walk_at "et"
      · intro hb
        apply pst_ret _ k
        apply ed_is
        · walk_at "ev"
        · simp at hb
          simp [okS, hp, ho, hb]
      intro hb
      simp at hb
      walk_at "if"
      walk_at "if"
      simp only [smS, Bool.and_eq_true, decide_eq_true_eq] at hs
      apply pst_ret _ k
      apply ed_is
      · apply ed_andV
        · walk_at "ev"
        intro _
        apply ed_eqN
        · apply EvDL.rd
          apply edl_lcM (xs := [a, b]) (f := fun b => .tuple (encB b)) (p := fun b => !okB (shapes p) at_ b (w + 1)) (g := fun b => .tuple (encB b))
          · walk_at "ev"
          · rfl
          · exact (by decide : 2 ≤ 40000)
          · intro x
            rfl
          · intro x v H2 e2 hx tx
            replace t1 := t1.ex e2
            have hx2 : x.length ≤ 1000 ∧ smB x = true := by
              simp at hx
              rcases hx with e | e <;> subst e <;> simp [hs]
            apply tk_not
            apply tk_vB
            apply ed_call
            · walk_at "eva"
            · exact ⟨p, at_, x, w + 1, rfl, hat, hx2.1, hx2.2, by omega, by omega, rfl⟩
          · intro x v H2 e2 hx _ tx
            walk_at "ev"
        · walk_at "edl"
        · simp only [List.filter_cons, List.filter_nil]
          split <;> split <;> simp [PyData.canLayAll0, PyData.canLay0, encB_lay]
      · simp only [okS, hp, ho, hb, h4]
        have := filter_not_isEmpty (f := fun b => okB (shapes p) at_ b (w + 1)) [a, b]
        simp at this
        simp [this]
    | call c ts =>
      walk_at "if"
      refine pst_asg (d := .tuple [.int (p[at_].params : Int), .int (p[at_].owns : Int)]) ?_ ?_
      · apply ed_is
        · walk_at "ev"
        · rfl
      intro v5 H1 e1 t5
      replace t1 := t1.ex e1
      replace t3 := t3.ex e1
      replace k := fun v H' (e : Ex H1 H') => k v H' (e1.trans e)
      clear e1
      walk_at "if"
      simp only [smS, decide_eq_true_eq] at hs
      apply pst_ret _ k
      apply ed_is
      · apply ed_call
        · walk_at "eva"
        · exact ⟨p, at_, c, ts, _, _, rfl, by omega, rfl⟩
      · have hl : (shapes p).length = p.length := by simp [shapes]
        simp [okS, hp, ho, h4, hl]
  · have h5 : okS (shapes p) at_ st w = false := by cases st <;> simp [okS, h4]
    obtain ⟨x, y, xs, e⟩ : ∃ x y xs, encS st = .tuple (x :: y :: xs) := by cases st <;> exact ⟨_, _, _, rfl⟩
    rw [e] at t3
    walk_at "if"
    apply pst_ret _ k
    rw [h5]
    exact ed_cb
end
end Hw

set_option maxRecDepth 100000
set_option maxHeartbeats 4000000
/-! PC4: bodies within, counts, works -/
namespace Hw
open PySem PySem.Spec PyProof.Rows L2 Evl
local macro_rules | `(tactic| walk_at "dd") => `(tactic| first | rfl | decide | (simp; done) | omega)
local macro_rules | `(tactic| walk_at "td") => `(tactic| first | assumption | exact Td.int _ | exact Td.bl _ | exact Td.str _ | exact Td.non | exact Td.tup (by assumption) (by assumption))
local macro_rules | `(tactic| walk_at "ev") => `(tactic| first
  | exact ed_ci | exact ed_cs | exact ed_cb | exact ed_cn
  | (apply ed_cg; assumption)
  | (apply ed_var; (rfl); (walk_at "td"))
  | (apply ed_ixT; (walk_at "ev"); (walk_at "ev"); (first | rfl | assumption))
  | (apply ed_rowI; (rfl); (assumption); (walk_at "ev"); (rfl))
  | (apply ed_ixL; (apply EvDL.rd; walk_at "edl"); (walk_at "ev"); (rfl))
  | (apply ed_intb; (walk_at "ev"))
  | (apply ed_len; walk_at "ev")
  | (apply ed_lenV; (apply ev_rowR; (rfl); (assumption); (walk_at "ev"); (rfl)); (assumption))
  | (apply ed_Ii; (walk_at "ev"); (walk_at "ev"); (walk_at "cc"))
  | (apply ed_isi; (walk_at "ev"); (rfl))
  | (apply ed_I0i; (walk_at "ev"); (walk_at "ev"))
  | (apply ed_I0b; (walk_at "ev"); (walk_at "ev"))
  | (apply ed_eqi; (walk_at "ev"); (walk_at "ev"))
  | (apply ed_nei; (walk_at "ev"); (walk_at "ev"))
  | (apply ed_andF; walk_at "ev")
  | (apply ed_andV; (walk_at "ev"); (intro _; walk_at "ev"))
  | (apply ed_orT; walk_at "ev")
  | (apply ed_orV; (walk_at "ev"); (intro _; walk_at "ev"))
  | (apply ed_notT; walk_at "ev")
  | (apply ed_notF; walk_at "ev")
  | (apply ed_notV; walk_at "ev")
  | (apply ed_chain; (walk_at "ev"); (walk_at "ev"); (intro _; walk_at "ev"))
  | (apply ed_eqS; (walk_at "ev"); (walk_at "ev"); (walk_at "bb"); (walk_at "bb"))
  | (apply ed_neS; (walk_at "ev"); (walk_at "ev"); (walk_at "bb"); (walk_at "bb"))
  | (apply ed_inT; (walk_at "ev"); (walk_at "ev"); (rfl); (rfl))
  | (apply ed_niT; (walk_at "ev"); (walk_at "ev"); (rfl); (rfl))
  | (apply ed_tup; (walk_at "eva"); (walk_at "bb"))
  | (apply ed_sl; (walk_at "ev"); (walk_at "evo"); (walk_at "evo"))
  | (apply ed_eqN; (apply EvDL.rd; walk_at "edl"); (walk_at "edl"); (walk_at "bb"))
  | (apply ed_neN; (apply EvDL.rd; walk_at "edl"); (walk_at "edl"); (walk_at "bb"))
  | (apply ed_ixL; (apply edr_var; (rfl); (assumption); (assumption)); (walk_at "ev"); (first | rfl | assumption))
  | (apply ed_lenL; (apply edr_var; (rfl); (assumption); (assumption)))
  | (apply ed_call; (walk_at "eva"); (walk_at "post")))
local macro_rules | `(tactic| walk_at "edl") => `(tactic| first
  | assumption
  | (apply edl_lst; (walk_at "eva"); (walk_at "bb")))
local macro_rules | `(tactic| walk_at "eva") => `(tactic| first
  | exact eda_nil
  | (apply eda_cons; (walk_at "ev"); (walk_at "eva")))
local macro_rules | `(tactic| walk_at "evo") => `(tactic| first
  | exact eok_none
  | (apply eok_some; walk_at "ev"))
local macro_rules | `(tactic| walk_at "bb") => `(tactic| first | rfl | assumption | (simp; done) | (simp; omega) | decide +kernel)
local macro_rules | `(tactic| walk_at "et") => `(tactic| first
  | exact tk_yes
  | (apply tk_andF; walk_at "et")
  | (apply tk_and; (walk_at "et"); (intro _; walk_at "et"))
  | (apply tk_orT; walk_at "et")
  | (apply tk_or; (walk_at "et"); (intro _; walk_at "et"))
  | (apply tk_notT; walk_at "et")
  | (apply tk_notF; walk_at "et")
  | (apply tk_not; walk_at "et")
  | (apply tk_v; walk_at "ev")
  | (apply tk_vB; walk_at "ev"))
local macro_rules | `(tactic| walk_at "if") => `(tactic| first
  | (apply pst_whenF; (walk_at "et"); (walk_at "bb"))
  | (apply pst_whenT; (walk_at "et"); (walk_at "bb")))
local macro_rules | `(tactic| walk_at "post") => `(tactic| first | assumption | exact ⟨_, _, rfl, rfl⟩ | exact ⟨_, _, _, _, rfl, by omega, by omega, rfl⟩ | exact ⟨_, _, _, 0, rfl, by omega, by omega, rfl⟩)
local macro_rules | `(tactic| walk_at "cc") => `(tactic| first | assumption | decide | omega | (refine ⟨?_, ?_⟩ <;> first | decide | omega) | (exact Or.inl (by constructor <;> omega)))

def pBods (ds : List PyData) (d : PyData) : Prop := ∃ s : Stm, ds = [encS s] ∧ d = .tuple ((bods s).map fun b => .tuple (encB b))
def pCount (n : Nat) (ds : List PyData) (d : PyData) : Prop := ∃ b : List Stm, ds = [.tuple (encB b)] ∧ b.length ≤ 1000 ∧ smB b = true ∧ dpB b + 1 ≤ n ∧ d = .int (cntB b : Int)
theorem filter_yes {α : Type} (xs : List α) : xs.filter (fun _ => true) = xs := List.filter_eq_self.mpr fun _ _ => rfl
theorem sum_cast : ∀ xs : List Nat, (xs.map fun n => ((n : Nat) : Int)).sum = ((xs.sum : Nat) : Int)
  | [] => rfl
  | x :: r => by simp [sum_cast r]
section
variable {P : Program} {w : World} {K : PySem.W.Frag} {mg : Str → Option Value} {base : Heap} (T : Tx K mg)
include T
theorem ok_bodyN (GT : Fn_is_thing T P w base CX0 8 (spF K (pThing 6))) (GC : Fn_is_call T P w base CX0 9 (spF K pCall)) : ∀ n : Nat, Fn_is_body T P w base CX0 (10 + 2 * n) (spF K (pBody n)) := by
  intro n
  induction n with
  | zero => exact fn_vac fun vs H Q E ⟨ds, d, _, ⟨_, _, _, w, _, _, _, _, h1, h2, _⟩, _⟩ => by omega
  | succ n ih => exact ok_is_body T (ok_is_step (k := 10 + 2 * n) T (by omega) GT GC ih)
theorem ok_bodies_of {k : Nat} : Fn_bodies_of T P w base CX0 (k + 1) (spF K pBods) := by
  refine T.F_bodies_of.ok sc_bodies_of (spF_len fun ds d h => by obtain ⟨s, rfl, _⟩ := h; rfl) fun cdv A outer s H vs Q E hr h => ?_
  obtain ⟨ds, d, ht, ⟨st, rfl, rfl⟩, k⟩ := h
  obtain _ | ⟨t1, _ | _⟩ := ht
  refine ⟨_, (pss_one (ps_ret (pe_ifExp (pt_cmpR (kop_eq K hr.units) (pe_ix (kix_tup K) (pv 0) pe_int (fun _ _ => rfl)) pe_str (nomark _)) (pe_slice (ksl_tup K) (pv 0) (po_some pe_int) po_none) (pe_tup pa_nil)))), ?_⟩
  refine Pst.go (K := K) ?_
  apply pst_ret _ k
  cases st with
  | ite t a b =>
    apply ed_ifT
    · apply tk_is
      · walk_at "et"
      · walk_at "bb"
    · apply ed_is
      · walk_at "ev"
      · rfl
  | _ =>
    apply ed_ifF
    · apply tk_is
      · walk_at "et"
      · walk_at "bb"
    · apply ed_is
      · walk_at "ev"
      · rfl
theorem ok_count (GB : Fn_bodies_of T P w base CX0 1 (spF K pBods)) : ∀ n : Nat, Fn_count T P w base CX0 (n + 1) (spF K (pCount n)) := by
  intro n
  induction n with
  | zero => exact fn_vac fun vs H Q E ⟨ds, d, _, ⟨_, _, _, _, h2, _⟩, _⟩ => by omega
  | succ n ih =>
    have G_bodies_of := GB
    have G_count := ih
    refine T.F_count.ok sc_count (spF_len fun ds d h => by obtain ⟨s, rfl, _⟩ := h; rfl) fun cdv A outer s H vs Q E hr h => ?_
    obtain ⟨ds, d, ht, ⟨b, rfl, hl, hs, hn, rfl⟩, k⟩ := h
    obtain _ | ⟨t1, _ | _⟩ := ht
    refine ⟨_, (pss_one (ps_ret (pe_callB (kc_sum K) rfl T.b_sum (by decide +kernel) (pa_cons (pe_lc (own := [("step", 1)]) (g := gName 1) (tt := tYes) rfl sc_count.nd (kpi_tup K (pv 0)) (blkOk_by (N := ["body", "step", "inner"]) (sc := defScope s_count) (by decide +kernel)) (fun _ _ _ _ _ => (pg_name (i := 1) sc_count.nd rfl (Or.inl rfl))) (fun _ _ _ _ _ => pts_nil) (fun _ _ _ _ _ => (pe_op op_add pe_int (pe_callB (kc_sum K) rfl T.b_sum (by decide +kernel) (pa_cons (pe_lc (own := [("inner", 2)]) (g := gName 2) (tt := tYes) rfl sc_count.nd (kpi_tup K (pe_call G_bodies_of (hr.mono (by omega)) (by rfl) T.g_bodies_of T.k_bodies_of T.bd_bodies_of .nil pass0 (pa_cons (pv 1) pa_nil))) (blkOk_by (N := ["body", "step", "inner"]) (sc := relS _ (defScope s_count)) (by decide +kernel)) (fun _ _ _ _ _ => (pg_name (i := 2) sc_count.nd rfl (Or.inl rfl))) (fun _ _ _ _ _ => pts_nil) (fun _ _ _ _ _ => (pe_call G_count (hr.mono (by omega)) (by rfl) T.g_count T.k_count T.bd_count .nil pass0 (pa_cons (pv 2) pa_nil)))) pa_nil))))) pa_nil)))), ?_⟩
    refine Pst.go (K := K) ?_
    apply pst_ret _ k
    apply ed_is
    · refine ed_sum (ns := b.map fun s => (cntS s : Int)) ?_
      apply EvDL.rd
      apply edl_is
      · apply edl_lcM (xs := b) (f := encS) (p := fun _ => true) (g := fun s => .int (cntS s : Int))
        · walk_at "ev"
        · exact encB_map b
        · omega
        · intro x
          rfl
        · intro x v H1 e1 hx tx
          exact tk_yes
        · intro x v H1 e1 hx _ tx
          apply ed_is
          · apply ed_I0i
            · exact ed_ci
            · refine ed_sum (ns := (bods x).map fun b => (cntB b : Int)) ?_
              apply EvDL.rd
              apply edl_is
              · apply edl_lcM (xs := bods x) (f := fun b => .tuple (encB b)) (p := fun _ => true) (g := fun b => .int (cntB b : Int))
                · apply ed_call
                  · walk_at "eva"
                  · exact ⟨x, rfl, rfl⟩
                · rfl
                · cases x <;> simp [bods]
                · intro x
                  rfl
                · intro x v H1 e1 hx tx
                  exact tk_yes
                · intro y v H1 e1 hy _ ty
                  have hy2 := bods_sm (smB_mem hs hx) hy
                  have hy3 := bods_dp hy
                  have hx3 := dpB_mem hx
                  apply ed_call
                  · walk_at "eva"
                  · exact ⟨y, rfl, hy2.1, hy2.2, by omega, rfl⟩
              · rw [filter_yes, List.map_map]
                rfl
          · rw [cntS_bods]
            have := sum_cast ((bods x).map cntB)
            rw [List.map_map] at this
            show PyData.int (1 + ((bods x).map fun b => (cntB b : Int)).sum) = _
            rw [show ((bods x).map fun b => (cntB b : Int)) = (bods x).map ((fun n : Nat => (n : Int)) ∘ cntB) from rfl, this]
            rfl
      · rw [filter_yes, List.map_map]
        rfl
    · have := sum_cast (b.map cntS)
      rw [List.map_map] at this
      rw [show (b.map fun s => (cntS s : Int)) = b.map ((fun n : Nat => (n : Int)) ∘ cntS) from rfl, this, cntB_sum]
end
end Hw

set_option maxRecDepth 100000
set_option maxHeartbeats 4000000
/-! PC5: works, programs, ways -/
namespace Hw
open PySem PySem.Spec PyProof.Rows L2 Evl
local macro_rules | `(tactic| walk_at "dd") => `(tactic| first | rfl | decide | (simp; done) | omega)
local macro_rules | `(tactic| walk_at "td") => `(tactic| first | assumption | exact Td.int _ | exact Td.bl _ | exact Td.str _ | exact Td.non | exact Td.tup (by assumption) (by assumption))
local macro_rules | `(tactic| walk_at "ev") => `(tactic| first
  | exact ed_ci | exact ed_cs | exact ed_cb | exact ed_cn
  | (apply ed_cg; assumption)
  | (apply ed_var; (rfl); (walk_at "td"))
  | (apply ed_ixT; (walk_at "ev"); (walk_at "ev"); (first | rfl | assumption))
  | (apply ed_rowI; (rfl); (assumption); (walk_at "ev"); (rfl))
  | (apply ed_ixL; (apply EvDL.rd; walk_at "edl"); (walk_at "ev"); (rfl))
  | (apply ed_intb; (walk_at "ev"))
  | (apply ed_len; walk_at "ev")
  | (apply ed_lenV; (apply ev_rowR; (rfl); (assumption); (walk_at "ev"); (rfl)); (assumption))
  | (apply ed_Ii; (walk_at "ev"); (walk_at "ev"); (walk_at "cc"))
  | (apply ed_isi; (walk_at "ev"); (rfl))
  | (apply ed_I0i; (walk_at "ev"); (walk_at "ev"))
  | (apply ed_I0b; (walk_at "ev"); (walk_at "ev"))
  | (apply ed_eqi; (walk_at "ev"); (walk_at "ev"))
  | (apply ed_nei; (walk_at "ev"); (walk_at "ev"))
  | (apply ed_andF; walk_at "ev")
  | (apply ed_andV; (walk_at "ev"); (intro _; walk_at "ev"))
  | (apply ed_orT; walk_at "ev")
  | (apply ed_orV; (walk_at "ev"); (intro _; walk_at "ev"))
  | (apply ed_notT; walk_at "ev")
  | (apply ed_notF; walk_at "ev")
  | (apply ed_notV; walk_at "ev")
  | (apply ed_chain; (walk_at "ev"); (walk_at "ev"); (intro _; walk_at "ev"))
  | (apply ed_eqS; (walk_at "ev"); (walk_at "ev"); (walk_at "bb"); (walk_at "bb"))
  | (apply ed_neS; (walk_at "ev"); (walk_at "ev"); (walk_at "bb"); (walk_at "bb"))
  | (apply ed_inT; (walk_at "ev"); (walk_at "ev"); (rfl); (rfl))
  | (apply ed_niT; (walk_at "ev"); (walk_at "ev"); (rfl); (rfl))
  | (apply ed_tup; (walk_at "eva"); (walk_at "bb"))
  | (apply ed_sl; (walk_at "ev"); (walk_at "evo"); (walk_at "evo"))
  | (apply ed_eqN; (apply EvDL.rd; walk_at "edl"); (walk_at "edl"); (walk_at "bb"))
  | (apply ed_neN; (apply EvDL.rd; walk_at "edl"); (walk_at "edl"); (walk_at "bb"))
  | (apply ed_ixL; (apply edr_var; (rfl); (assumption); (assumption)); (walk_at "ev"); (first | rfl | assumption))
  | (apply ed_lenL; (apply edr_var; (rfl); (assumption); (assumption)))
  | (apply ed_call; (walk_at "eva"); (walk_at "post")))
local macro_rules | `(tactic| walk_at "edl") => `(tactic| first
  | assumption
  | (apply edl_lst; (walk_at "eva"); (walk_at "bb")))
local macro_rules | `(tactic| walk_at "eva") => `(tactic| first
  | exact eda_nil
  | (apply eda_cons; (walk_at "ev"); (walk_at "eva")))
local macro_rules | `(tactic| walk_at "evo") => `(tactic| first
  | exact eok_none
  | (apply eok_some; walk_at "ev"))
local macro_rules | `(tactic| walk_at "bb") => `(tactic| first | rfl | assumption | (simp; done) | (simp; omega) | decide +kernel)
local macro_rules | `(tactic| walk_at "et") => `(tactic| first
  | exact tk_yes
  | (apply tk_andF; walk_at "et")
  | (apply tk_and; (walk_at "et"); (intro _; walk_at "et"))
  | (apply tk_orT; walk_at "et")
  | (apply tk_or; (walk_at "et"); (intro _; walk_at "et"))
  | (apply tk_notT; walk_at "et")
  | (apply tk_notF; walk_at "et")
  | (apply tk_not; walk_at "et")
  | (apply tk_v; walk_at "ev")
  | (apply tk_vB; walk_at "ev"))
local macro_rules | `(tactic| walk_at "if") => `(tactic| first
  | (apply pst_whenF; (walk_at "et"); (walk_at "bb"))
  | (apply pst_whenT; (walk_at "et"); (walk_at "bb")))
local macro_rules | `(tactic| walk_at "post") => `(tactic| first | assumption | exact ⟨_, _, rfl, rfl⟩ | exact ⟨_, _, _, _, rfl, by omega, by omega, rfl⟩ | exact ⟨_, _, _, 0, rfl, by omega, by omega, rfl⟩)
local macro_rules | `(tactic| walk_at "cc") => `(tactic| first | assumption | decide | omega | (refine ⟨?_, ?_⟩ <;> first | decide | omega) | (exact Or.inl (by constructor <;> omega)))

def smP (p : List Wk) : Prop := p.length ≤ 1000 ∧ ∀ w ∈ p, w.body.length ≤ 1000 ∧ smB w.body = true
theorem ints_lay (f : Nat → Int) : ∀ xs : List Nat, PyData.canLayAll0 (xs.map fun i => PyData.int (f i)) = true
  | [] => by simp [PyData.canLayAll0]
  | x :: r => by simp [PyData.canLayAll0, PyData.canLay0, ints_lay f r]
theorem strs_lay : ∀ xs : List Str, (∀ s ∈ xs, (PyData.str s).canLay0 = true) → PyData.canLayAll0 (xs.map PyData.str) = true
  | [], _ => by simp [PyData.canLayAll0]
  | x :: r, h => by
    simp only [List.map_cons, PyData.canLayAll0, Bool.and_eq_true]
    exact ⟨h x List.mem_cons_self, strs_lay r fun s hs => h s (List.mem_cons_of_mem _ hs)⟩
def pWork (ds : List PyData) (d : PyData) : Prop := ∃ (p : List Wk) (at_ : Nat), ds = [encP p, .int (at_ : Int)] ∧ smP p ∧ at_ < p.length ∧ d = .bool (okW p at_)
/-- need_program(program) as a statement -/
theorem pst_callNP {K : PySem.W.Frag} {σ : L2.St} {H : Hp} {D : Ends} {tz : TS} {E : XK} {n : Nat} {v : V} {spNP : Sp} (h : σ[n]? = some (some v)) (hsp : ∀ H1, Ex H H1 → ∀ Q : VK, (∀ H', Ex H1 H' → Q .non H') → spNP [v] H1 Q E)
    (k : Pst K tz D σ H) : Pst K (tSeq (tDrop (tCall spNP [] E (tCons (tVar n) tNil))) tz) D σ H := fun H1 a => ⟨v, h, hsp H1 a _ fun H' e => k H' (a.trans e)⟩
section
variable {P : Program} {w : World} {K : PySem.W.Frag} {mg : Str → Option Value} {base : Heap} (T : Tx K mg)
include T
theorem ok_is_work (G_is_body : Fn_is_body T P w base CX0 22 (spF K (pBody 6))) (G_count : Fn_count T P w base CX0 8 (spF K (pCount 7))) : Fn_is_work T P w base CX0 23 (spF K pWork) := by
  refine T.F_is_work.ok sc_is_work (spF_len fun ds d h => by obtain ⟨s, _, rfl, _⟩ := h; rfl) fun cdv A outer s H vs Q E hr h => ?_
  obtain ⟨ds, d, ht, ⟨p, at_, rfl, hs, hat, rfl⟩, k⟩ := h
  obtain _ | ⟨t1, _ | ⟨t2, _ | _⟩⟩ := ht
  refine ⟨_, (pss_cons (ps_asg (pe_ix (kix_tup K) (pv 0) (pv 1) (fun _ _ => rfl)) (kpg_tup K rfl (pgs_cons (pg_name (i := 2) sc_is_work.nd rfl (Or.inl rfl)) (pgs_cons (pg_name (i := 3) sc_is_work.nd rfl (Or.inl rfl)) (pgs_cons (pg_name (i := 4) sc_is_work.nd rfl (Or.inl rfl)) pgs_nil)))))
  (pss_cons (ps_if (PW.pt (pw_or (pt_not (pt_chain op_le op_le pe_int (pv 2) (pe_gint rfl T.g_MOST_PARAMS))) (pw_or (pt_not (pt_chain op_le op_le pe_int (pv 3) (pe_gint rfl T.g_MOST_OWNS))) (pw_or1 (PW.pt (pw_and (pt_cmpR op_eq (pv 1) pe_int (nomark _)) (pw_and1 (pt_cmpR op_gt (pv 2) pe_int (nomark _)))))))))
    (pss_one (ps_ret pe_bl))
    pss_nil)
  (pss_one (ps_ret (pe_and (pe_call G_is_body (hr.mono (by omega)) (by rfl) T.g_is_body T.k_is_body T.bd_is_body .nil pass0 (pa_cons (pv 0) (pa_cons (pv 1) (pa_cons (pv 4) (pa_cons pe_int pa_nil))))) (pe_one (pe_cmpR op_le (pe_call G_count (hr.mono (by omega)) (by rfl) T.g_count T.k_count T.bd_count .nil pass0 (pa_cons (pv 4) pa_nil)) (pe_gint rfl T.g_MOST_STEPS) (nomark _)))))))), ?_⟩
  cases t2
  have hwk : p[at_]? = some p[at_] := List.getElem?_eq_getElem hat
  have hix : atI (p.map encW) (at_ : Int) = some (encW p[at_]) := atI_enc hwk
  have hsm := hs.2 p[at_] (List.getElem_mem hat)
  refine Pst.go (K := K) ?_
  refine pst_unp3 (d1 := .int (p[at_].params : Int)) (d2 := .int (p[at_].owns : Int)) (d3 := .tuple (encB p[at_].body)) ?_ ?_
  · apply ed_is
    · walk_at "ev"
    · rfl
  intro v1 v2 v3 H1 e1 u1 u2 u3
  cases u1
  cases u2
  replace t1 := t1.ex e1
  replace k := fun v H' (e : Ex H1 H') => k v H' (e1.trans e)
  apply pst_when
  · walk_at "et"
  · intro hb
    apply pst_ret _ k
    apply ed_is
    · walk_at "ev"
    · simp only [okW, hwk]
      simp at hb ⊢
      intros
      exfalso
      omega
  · intro hb
    apply pst_ret _ k
    apply ed_is
    · apply ed_andV
      · apply ed_call
        · walk_at "eva"
        · exact ⟨p, at_, p[at_].body, 0, rfl, hat, hsm.1, hsm.2, by omega, by omega, rfl⟩
      · intro hok
        apply ed_I0b
        · apply ed_call
          · walk_at "eva"
          · exact ⟨p[at_].body, rfl, hsm.1, hsm.2, by have := okB_dp _ _ hok; omega, rfl⟩
        · walk_at "ev"
    · simp only [okW, hwk]
      simp at hb
      have h1 : p[at_].params ≤ 3 := by omega
      have h2 : p[at_].owns ≤ 99 := by omega
      have h3 : at_ = 0 → p[at_].params = 0 := by omega
      have h4 : (decide (at_ ≠ 0) || decide (p[at_].params = 0)) = true := by
        by_cases e : at_ = 0
        · simp [h3 e]
        · simp [e]
      rw [h4]
      simp [h1, h2]
      congr 1
      exact decide_eq_decide.mpr (by omega)
/-- refused, or let by -/
def spNP (K : PySem.W.Frag) : Sp := fun vs H Q E => ∃ p, TdAll K H vs [encP p] ∧ smP p ∧ (okP p = true → ∀ H', Ex H H' → Q .non H') ∧ (okP p = false → ∀ H', Ex H H' → E (.ref (He.ga K "BadProgram")) none H')
theorem ok_need_program (G_is_work : Fn_is_work T P w base CX0 23 (spF K pWork)) : Fn_need_program T P w base (L2.CX P w) 24 (spNP K) := by
  refine T.F_need_program.ok sc_need_program (fun vs H Q E h => by obtain ⟨p, ht, _⟩ := h; exact ht.length) fun cdv A outer s H vs Q E hr h => ?_
  obtain ⟨p, ht, hs, kq, ke⟩ := h
  obtain _ | ⟨t1, _ | _⟩ := ht
  refine ⟨_, (pss_cons (ps_if (pt_not (pt_chain op_le op_le pe_int (pe_callB (kc_len K) rfl T.b_len PySem.boot_len (pa_cons (pv 0) pa_nil)) (pe_gint rfl T.g_MOST_WORKS)))
    (pss_one (ps_raise rfl (takes_of rfl rfl rfl rfl) (pmk_own PySem.F.excBase_ValueError T.x_BadProgram T.g_BadProgram T.k_BadProgram (raises_own T.be_BadProgram T.ty_BadProgram) (by exact rfl))))
    pss_nil)
  (pss_one (ps_if (pt_cmpR (kop_ne K hr.units) (pe_lc (own := [("at", 1)]) (g := gName 1) (tt := _) rfl sc_need_program.nd (pi_range1 rfl T.b_range (pa_cons (pe_callB (kc_len K) rfl T.b_len PySem.boot_len (pa_cons (pv 0) pa_nil)) pa_nil)) (blkOk_by (N := ["program", "at"]) (sc := defScope s_need_program) (by decide +kernel)) (fun _ _ _ _ _ => (pg_name (i := 1) sc_need_program.nd rfl (Or.inl rfl))) (fun _ _ _ _ _ => (pts_one (pt_not (pt_val (pe_call G_is_work (hr.mono (by omega)) (by rfl) T.g_is_work T.k_is_work T.bd_is_work .nil pass0 (pa_cons (pv 0) (pa_cons (pv 1) pa_nil))))))) (fun _ _ _ _ _ => (pv 1))) (pe_lst pa_nil) (nomark _))
    (pss_one (ps_raise rfl (takes_of rfl rfl rfl rfl) (pmk_own PySem.F.excBase_ValueError T.x_BadProgram T.g_BadProgram T.k_BadProgram (raises_own T.be_BadProgram T.ty_BadProgram) (by exact rfl))))
    pss_nil))), ?_⟩
  refine Pst.go (K := K) ?_
  apply pst_when
  · walk_at "et"
  · intro hb H1 e1
    refine ke ?_ H1 e1
    simp [encP] at hb
    simp [okP]
    omega
  intro hb
  simp at hb
  apply pst_if (b := !((List.range p.length).all (okW p)))
  · apply tk_v
    apply ed_is
    · apply ed_neN
      · apply EvDL.rd
        apply edl_lcR (n := p.length) (p := fun i => !okW p i) (g := fun i => .int (i : Int))
        · apply eda_cons
          · apply ed_is
            · walk_at "ev"
            · simp
          · exact eda_nil
        · have := hs.1
          omega
        · intro x
          rfl
        · intro i H1 e1 hi
          replace t1 := t1.ex e1
          apply tk_not
          apply tk_vB
          apply ed_call
          · walk_at "eva"
          · exact ⟨p, i, rfl, hs, hi, rfl⟩
        · intro i H1 e1 hi _
          walk_at "ev"
      · walk_at "edl"
      · exact ints_lay _ _
    · rw [List.isEmpty_map, filter_not_isEmpty]
  · intro hb2 H1 e1
    refine ke ?_ H1 e1
    simp only [okP]
    simp at hb2
    simp
    intros
    obtain ⟨x, h1, h2⟩ := hb2
    exact ⟨x, h1, h2⟩
  · intro hb2 H1 e1
    refine kq ?_ H1 e1
    simp only [okP]
    simp at hb2
    simp
    refine ⟨by omega, by omega, hb2⟩
def spNY (K : PySem.W.Frag) : Sp := fun vs H Q E => ∃ p ys, TdAll K H vs [encP p, encY ys] ∧ smP p ∧ smY ys ∧ (okP p = true → okY p ys = true → ∀ H', Ex H H' → Q .non H') ∧ (okP p = false → ∀ H', Ex H H' → E (.ref (He.ga K "BadProgram")) none H') ∧
  (okP p = true → okY p ys = false → ∀ H', Ex H H' → E (.ref (He.ga K "BadWays")) none H')
theorem ok_need_ways (G_need_program : Fn_need_program T P w base (L2.CX P w) 24 (spNP K)) : Fn_need_ways T P w base (L2.CX P w) 25 (spNY K) := by
  refine T.F_need_ways.ok sc_need_ways (fun vs H Q E h => by obtain ⟨p, _, ht, _⟩ := h; exact ht.length) fun cdv A outer s H vs Q E hr h => ?_
  obtain ⟨p, ys, ht, hs, hy, kq, ke, kw⟩ := h
  obtain _ | ⟨t1, _ | ⟨t2, _ | _⟩⟩ := ht
  refine ⟨_, (pss_cons (ps_expr (pe_call G_need_program (hr.mono (by omega)) (by rfl) T.g_need_program T.k_need_program T.bd_need_program .nil (passes_call (takes_of rfl rfl rfl rfl) (fun _ _ _ _ h => h)) (pa_cons (pv 0) pa_nil)))
  (pss_cons (ps_if (pt_cmpR op_ne (pe_callB (kc_len K) rfl T.b_len PySem.boot_len (pa_cons (pv 1) pa_nil)) (pe_callB (kc_len K) rfl T.b_len PySem.boot_len (pa_cons (pv 0) pa_nil)) (nomark _))
    (pss_one (ps_raise rfl (takes_of rfl rfl rfl rfl) (pmk_own PySem.F.excBase_ValueError T.x_BadWays T.g_BadWays T.k_BadWays (raises_own T.be_BadWays T.ty_BadWays) (by exact rfl))))
    pss_nil)
  (pss_one (ps_for (passes_of rfl) rfl (kpi_zip K (by rfl) T.b_zip (pa_cons (pv 0) (pa_cons (pv 1) pa_nil))) (kpg_tup K rfl (pgs_cons (pg_name (i := 2) sc_need_ways.nd rfl (Or.inl rfl)) (pgs_cons (pg_name (i := 3) sc_need_ways.nd rfl (Or.inl rfl)) pgs_nil)))
    (pss_one (ps_if (PW.pt (pw_or (pt_cmpR op_ne (pe_callB (kc_len K) rfl T.b_len PySem.boot_len (pa_cons (pv 3) pa_nil)) (pe_ix (kix_tup K) (pv 2) pe_int (fun _ _ => rfl)) (nomark _)) (pw_or1 (pt_cmpR (kop_ne K hr.units) (pe_lc (own := [("way", 4)]) (g := gName 4) (tt := _) rfl sc_need_ways.nd (kpi_tup K (pv 3)) (blkOk_by (N := ["program", "ways", "work", "some", "way"]) (sc := defScope s_need_ways) (by decide +kernel)) (fun _ _ _ _ _ => (pg_name (i := 4) sc_need_ways.nd rfl (Or.inl rfl))) (fun _ _ _ _ _ => (pts_one (pt_cmpR (kop_ni K) (pv 4) (pe_glob (v := .ref _) rfl T.g_WAYS rfl) rfl))) (fun _ _ _ _ _ => (pv 4))) (pe_lst pa_nil) (nomark _)))))
      (pss_one (ps_raise rfl (takes_of rfl rfl rfl rfl) (pmk_own PySem.F.excBase_ValueError T.x_BadWays T.g_BadWays T.k_BadWays (raises_own T.be_BadWays T.ty_BadWays) (by exact rfl))))
      pss_nil)))))), ?_⟩
  refine Pst.go (K := K) ?_
  cases hok : okP p with
  | false =>
    intro H1 e1
    exact ⟨_, rfl, p, .cons (t1.ex e1) .nil, hs, (fun e => by rw [hok] at e; cases e), fun _ H' e => ke hok H' (e1.trans e)⟩
  | true =>
    refine pst_callNP (v := _) rfl (fun H1 e1 Q kQ => ⟨p, .cons (t1.ex e1) .nil, hs, fun _ => kQ, (fun e => by rw [hok] at e; cases e)⟩) ?_
    have hW : ∀ H, Td K H (.ref (He.ga K "WAYS")) (.tuple [.str "back", .str "copy", .str "place", .str "want"]) := fun H => .tup (T.t_WAYS H) (.cons (.str _) (.cons (.str _) (.cons (.str _) (.cons (.str _) .nil))))
    apply pst_when
    · walk_at "et"
    · intro hb H1 e1
      refine kw hok ?_ H1 e1
      simp at hb
      have hb2 : ¬ ys.length = p.length := by omega
      simp [okY, hb2]
    intro hb
    simp at hb
    have hlen : ys.length = p.length := by omega
    refine pst_forZ p ys encW (fun y => .tuple (y.map PyData.str)) ?_ hlen.symm (fun i σ' _ => ∃ a b, σ' = [some _, some _, a, b, none] ∧ ∀ j, j < i → (decide ((ys.getD j []).length = shP (shapes p) j) && (ys.getD j []).all isWay) = true) (fun _ _ _ _ _ h => h) ⟨none, none, rfl, fun j hj => by omega⟩ ?_ ?_
    · walk_at "eva"
    · rintro i x y v u σ' H1 hx hyi e1 tv tu ⟨a, b, rfl, hall⟩ N hN
      have hym := hy.2 y (List.mem_of_getElem? hyi)
      have hgd : ys.getD i [] = y := by simp [hyi]
      apply pst_if (b := !(decide (y.length = x.params) && y.all isWay))
      · apply tk_is
        · apply tk_or
          · apply tk_v
            apply ed_nei
            · walk_at "ev"
            · walk_at "ev"
          intro _
          apply tk_v
          apply ed_neN
          · apply EvDL.rd
            apply edl_lcM (xs := y) (f := PyData.str) (p := fun s => !isWay s) (g := PyData.str)
            · walk_at "ev"
            · rfl
            · omega
            · intro x
              rfl
            · intro s v H2 e2 _ ts
              apply tk_is
              · walk_at "et"
              · rfl
            · intro s v H2 e2 _ _ ts
              walk_at "ev"
          · walk_at "edl"
          · exact strs_lay (y.filter fun s => !isWay s) fun s hs2 => hym.2 s (List.mem_filter.mp hs2).1
        · rw [List.isEmpty_map, filter_not_isEmpty]
          have e : ((y.length : Int) = (x.params : Int)) ↔ y.length = x.params := by omega
          simp [e]
      · intro hb2 H2 e2
        refine kw hok ?_ H2 (e1.trans e2)
        have hi : i < p.length := (List.getElem?_eq_some_iff.mp hx).1
        have : (List.range p.length).all (fun i => decide ((ys.getD i []).length = shP (shapes p) i) && (ys.getD i []).all isWay) = false := by
          rw [List.all_eq_false]
          refine ⟨i, List.mem_range.mpr hi, ?_⟩
          rw [hgd, shP_get hx]
          intro e
          rw [e] at hb2
          cases hb2
        unfold okY
        rw [this, Bool.and_false]
      · intro hb2 H2 e2
        refine hN _ _ ⟨_, _, rfl, fun j hj => ?_⟩ e2
        by_cases e : j = i
        · subst e
          rw [hgd, shP_get hx]
          simpa using hb2
        · exact hall j (by omega)
    · rintro σ' H1 e1 ⟨a, b, rfl, hall⟩
      refine kq hok ?_ H1 e1
      simp only [okY, hlen]
      simp only [decide_true, Bool.true_and, List.all_eq_true]
      intro j hj
      exact hall j (List.mem_range.mp hj)
end
end Hw

set_option maxRecDepth 100000
set_option maxHeartbeats 4000000
/-! W4: more rules: int(a truth), steps with effects -/
namespace Hw
open PySem PySem.Spec PyProof.Rows L2 Evl
section
variable {K : PySem.W.Frag} {σ : L2.St} {H H' : Hp} {D : Ends} {tu tz tw : TS} {ds es : List PyData} {ta tr : TA} {tb te tx : TE} {t : TT} {d : PyData} {v : V} {i j : Int} {Q : VK}
/-! one step at a time, whatever it does -/
theorem w_d (h : EvD K te σ H d) (k : ∀ v H1, Ex H H1 → Td K H1 v d → Q v H1) : te σ H Q := h H (Ex.refl H) Q k
theorem w_t {b : Bool} {Q : Bool → Hp → Prop} (h : EvTK K t σ H b) (k : ∀ H1, Ex H H1 → Q b H1) : t σ H Q := h H (Ex.refl H) Q k
theorem w_dl (h : EvDL K te σ H ds) (k : ∀ p xs H1, H p = none → Ex H H1 → H1 p = some (.lst xs) → TdAll K H1 xs ds → Q (.ref p) H1) : te σ H Q := h H (Ex.refl H) Q k
theorem w_ret (h : te σ H D.rt) : tRet te D σ H := h
theorem w_cons {Q : List V → Hp → Prop} (h : te σ H fun x H1 => tr σ H1 fun xs H2 => Q (x :: xs) H2) : tCons te tr σ H Q := h
theorem w_nil {Q : List V → Hp → Prop} (h : Q [] H) : tNil σ H Q := h
theorem w_c (h : Q v H) : tC v σ H Q := h
theorem w_v {n : Nat} (hs : σ[n]? = some (some v)) (h : Q v H) : tVar n σ H Q := ⟨v, hs, h⟩
theorem w_tup (h : ta σ H fun xs H1 => xs.length ≤ sizeLine ∧ ∀ p, H1 p = none → Q (.ref p) (upd H1 p (.tup xs))) : tTup ta σ H Q := h
theorem w_asg {n : Nat} (h : te σ H fun x H1 => D.nx (σ.set n (some x)) H1) : tAsg te (gName n) D σ H := h
theorem w_seq (h : tu { D with nx := tz D } σ H) : tSeq tu tz D σ H := h
theorem w_call {sp : Sp} {E : XK} (h : ta σ H fun vs H1 => sp (vs ++ []) H1 Q E) : tCall sp [] E ta σ H Q := h
theorem w_op {r : R2} (h : tb σ H fun x H1 => te σ H1 fun y H2 => r x y H2 Q) : tOp r tb te σ H Q := h
theorem w_if (h : t σ H fun c H1 => if c = true then tb σ H1 Q else te σ H1 Q) : tIf t tb te σ H Q := h
theorem w_ifs (h : t σ H fun b H1 => if b = true then tu D σ H1 else tw D σ H1) : tIfS t tu tw D σ H := h
theorem w_test {Q : Bool → Hp → Prop} (h : te σ H fun x H' => ∃ k, x = .bl k ∧ Q k H') : tTest te σ H Q := h
theorem w_and {u : TT} {Q : Bool → Hp → Prop} (h : t σ H fun c H1 => if c = true then u σ H1 Q else Q false H1) : tAnd t u σ H Q := h
theorem w_drop (h : te σ H fun _ H1 => D.nx σ H1) : tDrop te D σ H := h
/-- xs.append(e), by what e is worth -/
theorem w_app {l : Addr} {n : Nat} {ys : List V} (hs : σ[n]? = some (some (.ref l))) (hl : H l = some (.lst ys)) (h : te σ H fun x H1 => ∃ xs, H1 l = some (.lst xs) ∧ xs.length < sizeLine ∧ D.nx σ (upd H1 l (.lst (xs ++ [x])))) :
    tDrop (tBM K "list" rAppend (tVar n) (tCons te tNil)) D σ H := ⟨.ref l, hs, .inl ⟨rfl, ys, SqL.of hl⟩, by
    show te σ H fun x H1 => rAppend (.ref l) [x] H1 fun _ H2 => D.nx σ H2
    have e : (fun (x : V) (H1 : Hp) => rAppend (.ref l) [x] H1 fun _ H2 => D.nx σ H2) = fun x H1 => ∃ xs, H1 l = some (.lst xs) ∧ xs.length < sizeLine ∧ D.nx σ (upd H1 l (.lst (xs ++ [x]))) := by
      funext x H1
      refine propext ⟨fun ⟨l2, xs, y, e1, e2, e3, e4, e5⟩ => ?_, fun ⟨xs, e3, e4, e5⟩ => ⟨l, xs, x, rfl, rfl, e3, e4, e5⟩⟩
      cases e1
      cases e2
      exact ⟨xs, e3, e4, e5⟩
    rw [e]
    exact h⟩
theorem tdall2 {v1 v2 : V} {d1 d2 : PyData} (h1 : Td K H v1 d1) (h2 : Td K H v2 d2) : TdAll K H [v1, v2] [d1, d2] := .cons h1 (.cons h2 .nil)
theorem tdall3 {v1 v2 v3 : V} {d1 d2 d3 : PyData} (h1 : Td K H v1 d1) (h2 : Td K H v2 d2) (h3 : Td K H v3 d3) : TdAll K H [v1, v2, v3] [d1, d2, d3] := .cons h1 (.cons h2 (.cons h3 .nil))
/-- a new tuple -/
theorem td_new {p : Addr} {xs : List V} (hp : H p = none) (h : TdAll K H xs ds) : Td K (upd H p (.tup xs)) (.ref p) (.tuple ds) := .tup (SqT.of upd_same) (h.ex (Ex.new hp))
end
end Hw

set_option maxRecDepth 100000
set_option maxHeartbeats 4000000
/-! PG1: what the law takes of the script -/
namespace Hw
open PySem PySem.Spec PyProof.Rows L2 Evl
local macro_rules | `(tactic| walk_at "dd") => `(tactic| first | rfl | decide | (simp; done) | omega)
local macro_rules | `(tactic| walk_at "td") => `(tactic| first | assumption | exact Td.int _ | exact Td.bl _ | exact Td.str _ | exact Td.non | exact Td.tup (by assumption) (by assumption))
local macro_rules | `(tactic| walk_at "ev") => `(tactic| first
  | exact ed_ci | exact ed_cs | exact ed_cb | exact ed_cn
  | (apply ed_cg; assumption)
  | (apply ed_var; (rfl); (walk_at "td"))
  | (apply ed_ixT; (walk_at "ev"); (walk_at "ev"); (first | rfl | assumption))
  | (apply ed_rowI; (rfl); (assumption); (walk_at "ev"); (rfl))
  | (apply ed_ixL; (apply EvDL.rd; walk_at "edl"); (walk_at "ev"); (rfl))
  | (apply ed_intb; (walk_at "ev"))
  | (apply ed_len; walk_at "ev")
  | (apply ed_lenV; (apply ev_rowR; (rfl); (assumption); (walk_at "ev"); (rfl)); (assumption))
  | (apply ed_Ii; (walk_at "ev"); (walk_at "ev"); (walk_at "cc"))
  | (apply ed_isi; (walk_at "ev"); (rfl))
  | (apply ed_I0i; (walk_at "ev"); (walk_at "ev"))
  | (apply ed_I0b; (walk_at "ev"); (walk_at "ev"))
  | (apply ed_eqi; (walk_at "ev"); (walk_at "ev"))
  | (apply ed_nei; (walk_at "ev"); (walk_at "ev"))
  | (apply ed_andF; walk_at "ev")
  | (apply ed_andV; (walk_at "ev"); (intro _; walk_at "ev"))
  | (apply ed_orT; walk_at "ev")
  | (apply ed_orV; (walk_at "ev"); (intro _; walk_at "ev"))
  | (apply ed_notT; walk_at "ev")
  | (apply ed_notF; walk_at "ev")
  | (apply ed_notV; walk_at "ev")
  | (apply ed_chain; (walk_at "ev"); (walk_at "ev"); (intro _; walk_at "ev"))
  | (apply ed_eqS; (walk_at "ev"); (walk_at "ev"); (walk_at "bb"); (walk_at "bb"))
  | (apply ed_neS; (walk_at "ev"); (walk_at "ev"); (walk_at "bb"); (walk_at "bb"))
  | (apply ed_inT; (walk_at "ev"); (walk_at "ev"); (rfl); (rfl))
  | (apply ed_niT; (walk_at "ev"); (walk_at "ev"); (rfl); (rfl))
  | (apply ed_tup; (walk_at "eva"); (walk_at "bb"))
  | (apply ed_sl; (walk_at "ev"); (walk_at "evo"); (walk_at "evo"))
  | (apply ed_eqN; (apply EvDL.rd; walk_at "edl"); (walk_at "edl"); (walk_at "bb"))
  | (apply ed_neN; (apply EvDL.rd; walk_at "edl"); (walk_at "edl"); (walk_at "bb"))
  | (apply ed_ixL; (apply edr_var; (rfl); (assumption); (assumption)); (walk_at "ev"); (first | rfl | assumption))
  | (apply ed_lenL; (apply edr_var; (rfl); (assumption); (assumption)))
  | (apply ed_call; (walk_at "eva"); (walk_at "post")))
local macro_rules | `(tactic| walk_at "edl") => `(tactic| first
  | assumption
  | (apply edl_lst; (walk_at "eva"); (walk_at "bb")))
local macro_rules | `(tactic| walk_at "eva") => `(tactic| first
  | exact eda_nil
  | (apply eda_cons; (walk_at "ev"); (walk_at "eva")))
local macro_rules | `(tactic| walk_at "evo") => `(tactic| first
  | exact eok_none
  | (apply eok_some; walk_at "ev"))
local macro_rules | `(tactic| walk_at "bb") => `(tactic| first | rfl | assumption | (simp; done) | (simp; omega) | decide +kernel)
local macro_rules | `(tactic| walk_at "et") => `(tactic| first
  | exact tk_yes
  | (apply tk_andF; walk_at "et")
  | (apply tk_and; (walk_at "et"); (intro _; walk_at "et"))
  | (apply tk_orT; walk_at "et")
  | (apply tk_or; (walk_at "et"); (intro _; walk_at "et"))
  | (apply tk_notT; walk_at "et")
  | (apply tk_notF; walk_at "et")
  | (apply tk_not; walk_at "et")
  | (apply tk_v; walk_at "ev")
  | (apply tk_vB; walk_at "ev"))
local macro_rules | `(tactic| walk_at "if") => `(tactic| first
  | (apply pst_whenF; (walk_at "et"); (walk_at "bb"))
  | (apply pst_whenT; (walk_at "et"); (walk_at "bb")))
local macro_rules | `(tactic| walk_at "post") => `(tactic| first | assumption | exact ⟨_, _, rfl, rfl⟩ | exact ⟨_, _, _, _, rfl, by omega, by omega, rfl⟩ | exact ⟨_, _, _, 0, rfl, by omega, by omega, rfl⟩)
local macro_rules | `(tactic| walk_at "cc") => `(tactic| first | assumption | decide | omega | (refine ⟨?_, ?_⟩ <;> first | decide | omega) | (exact Or.inl (by constructor <;> omega)))

/-- the law's row stands at r, over the script at s -/
def RowAt (K : PySem.W.Frag) (s : Addr) (ns : List Int) (H : Hp) (r : Addr) : Prop := ∃ a b c : Int, H r = some (.lst [.ref s, .int a, .int b, .int c]) ∧ SqL K H s (ns.map V.int) ∧ 0 ≤ a ∧ 0 ≤ b ∧ b < 2147483647 ∧ 0 ≤ c
theorem seq_upd {K : PySem.W.Frag} {H : Hp} {s r a : Addr} {ns : List Int} {xs ys : List V} (hr : H r = some (.lst (.ref a :: xs))) (h : SqL K H s (ns.map V.int)) : SqL K (upd H r (.lst ys)) s (ns.map V.int) := by
  rcases h with (h | ⟨o, h⟩) | h
  · refine .inl (.inl ?_)
    rw [upd_ne]
    · exact h
    · intro e
      subst e
      rw [h] at hr
      cases ns <;> simp at hr
  · refine .inl (.inr ⟨o, ?_⟩)
    rw [upd_ne]
    · exact h
    · intro e
      subst e
      rw [h] at hr
      cases hr
  · exact .inr h
theorem RowAt.ex {K : PySem.W.Frag} {s : Addr} {ns : List Int} {H H' : Hp} {r : Addr} (h : RowAt K s ns H r) (e : Ex H H') : RowAt K s ns H' r := by
  obtain ⟨a, b, c, h1, h2, h3⟩ := h
  exact ⟨a, b, c, e _ _ h1, ex_l e h2, h3⟩
theorem RowAt.mu {K : PySem.W.Frag} {s : Addr} {ns : List Int} {H : Hp} {r : Addr} (h : RowAt K s ns H r) : ∃ u, H r = some u ∧ Mut (some u) := by
  obtain ⟨a, b, c, h1, _⟩ := h
  exact ⟨_, h1, True.intro⟩
theorem RowAt.upd {K : PySem.W.Frag} {s : Addr} {ns : List Int} {H : Hp} {r : Addr} {xs : List V} {a b c : Int} (hr : H r = some (.lst (.ref s :: xs))) (h : SqL K H s (ns.map V.int)) (h1 : 0 ≤ a) (h2 : 0 ≤ b) (h3 : b < 2147483647) (h4 : 0 ≤ c) : RowAt K s ns (upd H r (.lst [.ref s, .int a, .int b, .int c])) r :=
  ⟨a, b, c, upd_same, seq_upd hr h, h1, h2, h3, h4⟩
theorem fm_nat {m : Int} (hm : 0 < m) (x : Int) : ∃ k : Nat, x.fmod m = (k : Int) ∧ (k : Int) < m := by
  have h1 : x.fmod m = x % m := Int.fmod_eq_emod_of_nonneg x (by omega)
  have h2 := Int.emod_nonneg x (show m ≠ 0 by omega)
  have h3 := Int.emod_lt_of_pos x hm
  exact ⟨(x % m).toNat, by omega, by omega⟩
theorem fd_nn {m c : Int} (hm : 0 < m) (hc : 0 ≤ c) : 0 ≤ c.fdiv m := by
  rw [Int.fdiv_eq_ediv_of_nonneg c (by omega)]
  exact Int.ediv_nonneg hc (by omega)
/-- a number below many -/
def spTaken (K : PySem.W.Frag) : Sp := fun vs H Q _ => ∃ (r s : Addr) (ns : List Int) (m : Int), vs = [.ref r, .int m] ∧ RowAt K s ns H r ∧ ns.length ≤ 63 ∧ 0 < m ∧ m < 1000001 ∧ ∀ (k : Nat) H', (k : Int) < m → Fr [r] H H' → RowAt K s ns H' r → Q (.int (k : Int)) H'
section
variable {P : Program} {w : World} {K : PySem.W.Frag} {mg : Str → Option Value} {base : Heap} (T : Tx K mg)
include T
theorem ok_taken : Fn__law_taken T P w base CX0 1 (spTaken K) := by
  refine T.F__law_taken.ok sc__law_taken (fun vs H Q E h => by obtain ⟨r, s, ns, m, rfl, _⟩ := h; rfl) fun cdv A outer s0 H vs Q E hr h => ?_
  obtain ⟨r, s, ns, m, rfl, ⟨a, b, c, hrow, hscr, ha, hb, hb2, hc⟩, hn, hm, hm2, k⟩ := h
  refine ⟨_, (pss_cons (ps_if (pt_cmpR op_gt (pe_ix (kix_list K) (pv 0) pe_int (fun _ _ => rfl)) pe_int (nomark _))
    (pss_cons (ps_set (i := 2) sc__law_taken.nd rfl (Or.inl rfl) (pe_op op_modN (pe_ix (kix_list K) (pv 0) pe_int (fun _ _ => rfl)) (pv 1)))
    (pss_cons (ps_asg (pe_op op_fdivN (pe_ix (kix_list K) (pv 0) pe_int (fun _ _ => rfl)) (pv 1)) (pg_sub (pv 0) pe_int set_list))
    (pss_one (ps_ret (pv 2)))))
    pss_nil)
  (pss_cons (ps_asg (pe_op op_add (pe_ix (kix_list K) (pv 0) pe_int (fun _ _ => rfl)) pe_int) (pg_sub (pv 0) pe_int set_list))
  (pss_cons (ps_if (pt_cmpR op_gt (pe_ix (kix_list K) (pv 0) pe_int (fun _ _ => rfl)) (pe_callB (kc_len K) rfl T.b_len PySem.boot_len (pa_cons (pe_ix (kix_list K) (pv 0) pe_int (fun _ _ => rfl)) pa_nil)) (nomark _))
    (pss_cons (ps_asg (pe_op op_modN (pe_op op_add (pe_op op_mul (pe_ix (kix_list K) (pv 0) pe_int (fun _ _ => rfl)) pe_int) pe_int) pe_int) (pg_sub (pv 0) pe_int set_list))
    (pss_one (ps_ret (pe_op op_modN (pe_op op_fdivN (pe_ix (kix_list K) (pv 0) pe_int (fun _ _ => rfl)) pe_int) (pv 1)))))
    pss_nil)
  (pss_cons (ps_set (i := 3) sc__law_taken.nd rfl (Or.inl rfl) (pe_ix (kix_list K) (pe_ix (kix_list K) (pv 0) pe_int (fun _ _ => rfl)) (pe_op op_sub (pe_ix (kix_list K) (pv 0) pe_int (fun _ _ => rfl)) pe_int) (fun _ _ => rfl)))
  (pss_cons (ps_asg (pe_op op_modN (pe_op op_add (pe_op op_add (pe_op op_mul (pe_ix (kix_list K) (pv 0) pe_int (fun _ _ => rfl)) pe_int) (pv 3)) pe_int) pe_int) (pg_sub (pv 0) pe_int set_list))
  (pss_cons (ps_if (pt_cmpR op_ge (pv 3) (pe_op op_pow pe_int pe_int) (nomark _))
    (pss_one (ps_asg (pe_op op_fdivN (pv 3) (pv 1)) (pg_sub (pv 0) pe_int set_list)))
    pss_nil)
  (pss_one (ps_ret (pe_op op_modN (pv 3) (pv 1)))))))))), ?_⟩
  have hmn : m ≠ 0 := by omega
  have hdv : CDivN c m := ⟨hmn, by omega⟩
  have hrow2 : SqL K H r [.ref s, .int a, .int b, .int c] := SqL.of hrow
  refine Pst.go (K := K) ?_
  apply pst_when
  · walk_at "et"
  · intro hb1
    apply pst_asg
    · walk_at "ev"
    intro v H1 e1 t1
    cases t1
    have hrow3 : SqL K H1 r [.ref s, .int a, .int b, .int c] := ex_l e1 hrow2
    apply pst_setI
    · rfl
    · exact e1 _ _ hrow
    · walk_at "ev"
    · walk_at "ev"
    · rfl
    intro H2 e2
    obtain ⟨kk, ek, hk⟩ := fm_nat hm c
    have hd := fd_nn hm hc
    apply pst_ret
    · rw [ek]
      walk_at "ev"
    intro v H3 e3 t3
    cases t3
    have hr2 : H2 r = some (.lst [.ref s, .int a, .int b, .int c]) := e2 _ _ (e1 _ _ hrow)
    exact k kk H3 hk (((Fr.of (e1.trans e2)).trans (Fr.upd (List.mem_cons_self))).trans (Fr.of e3)) ((RowAt.upd hr2 (ex_l (e1.trans e2) hscr) ha hb hb2 hd).ex e3)
  · intro hb1
    apply pst_setI
    · rfl
    · exact hrow
    · walk_at "ev"
    · walk_at "ev"
    · rfl
    intro H1 e1
    have hr1 := e1 _ _ hrow
    have hs1 := seq_upd (ys := [.ref s, .int (a + 1), .int b, .int c]) hr1 (ex_l e1 hscr)
    have hR1 : RowAt K s ns (upd H1 r (.lst [.ref s, .int (a + 1), .int b, .int c])) r := RowAt.upd hr1 (ex_l e1 hscr) (by omega) hb hb2 hc
    have hF1 : Fr [r] H (upd H1 r (.lst [.ref s, .int (a + 1), .int b, .int c])) := (Fr.of e1).trans (Fr.upd (List.mem_cons_self))
    have hq1 : upd H1 r (.lst [.ref s, .int (a + 1), .int b, .int c]) r = some (.lst [.ref s, .int (a + 1), .int b, .int c]) := upd_same
    show Pst K _ _ _ (upd H1 r (.lst [.ref s, .int (a + 1), .int b, .int c]))
    generalize upd H1 r (.lst [.ref s, .int (a + 1), .int b, .int c]) = H2 at *
    have hl2 : SqL K H2 r [.ref s, .int (a + 1), .int b, .int c] := SqL.of hq1
    apply pst_when
    · walk_at "et"
    · intro hb3
      apply pst_setI
      · rfl
      · exact hq1
      · walk_at "ev"
      · walk_at "ev"
      · rfl
      intro H3 e3
      obtain ⟨bb, eb, hbb⟩ := fm_nat (m := 2147483647) (by decide) (b * 48271 + 11)
      have hr3 := e3 _ _ hq1
      have hR3 : RowAt K s ns (upd H3 r (.lst [.ref s, .int (a + 1), .int (bb : Int), .int c])) r := RowAt.upd hr3 (ex_l e3 hs1) (by omega) (by omega) hbb hc
      have hF3 : Fr [r] H (upd H3 r (.lst [.ref s, .int (a + 1), .int (bb : Int), .int c])) := (hF1.trans (Fr.of e3)).trans (Fr.upd (List.mem_cons_self))
      rw [eb]
      have hq3 : upd H3 r (.lst [.ref s, .int (a + 1), .int (bb : Int), .int c]) r = some (.lst [.ref s, .int (a + 1), .int (bb : Int), .int c]) := upd_same
      show Pst K _ _ _ (upd H3 r (.lst [.ref s, .int (a + 1), .int (bb : Int), .int c]))
      generalize upd H3 r (.lst [.ref s, .int (a + 1), .int (bb : Int), .int c]) = H4 at *
      have hl4 : SqL K H4 r [.ref s, .int (a + 1), .int (bb : Int), .int c] := SqL.of hq3
      have h7 : CDivN (bb : Int) 7 := ⟨by decide, by decide⟩
      obtain ⟨kk, ek, hk⟩ := fm_nat hm ((bb : Int).fdiv 7)
      apply pst_ret (d := .int (kk : Int))
      · rw [← ek]
        walk_at "ev"
      intro v H5 e5 t5
      cases t5
      exact k kk H5 hk (hF3.trans (Fr.of e5)) (hR3.ex e5)
    · intro hb3
      simp at hb3
      obtain ⟨x, hx⟩ : ∃ x, ns[a.toNat]? = some x := by
        have : a.toNat < ns.length := by omega
        exact ⟨ns[a.toNat], List.getElem?_eq_getElem this⟩
      have hat : atI (ns.map V.int) (a + 1 - 1) = some (.int x) := by
        have e : (a + 1 - 1 : Int) = ((a.toNat : Nat) : Int) := by omega
        rw [e]
        exact atI_nat (by rw [List.getElem?_map, hx] <;> rfl)
      apply pst_asg (d := .int x)
      · apply ed_i
        refine ev_op (ev_rowR (K := K) (i := 0) rfl hl2 ?_ rfl) (EvD.iv (K := K) (i := a + 1 - 1) ?_) (rv_ixL hs1 hat)
        · walk_at "ev"
        · walk_at "ev"
      intro v H3 e3 t3
      cases t3
      have hl3 : SqL K H3 r [.ref s, .int (a + 1), .int b, .int c] := ex_l e3 hl2
      apply pst_setI
      · rfl
      · exact e3 _ _ hq1
      · walk_at "ev"
      · walk_at "ev"
      · rfl
      intro H4 e4
      obtain ⟨bb, eb, hbb⟩ := fm_nat (m := 2147483647) (by decide) (b * 48271 + x + 11)
      have hr4 := e4 _ _ (e3 _ _ hq1)
      rw [eb]
      have hs4 := seq_upd (ys := [.ref s, .int (a + 1), .int (bb : Int), .int c]) hr4 (ex_l (e3.trans e4) hs1)
      have hR4 : RowAt K s ns (upd H4 r (.lst [.ref s, .int (a + 1), .int (bb : Int), .int c])) r := RowAt.upd hr4 (ex_l (e3.trans e4) hs1) (by omega) (by omega) hbb hc
      have hF4 : Fr [r] H (upd H4 r (.lst [.ref s, .int (a + 1), .int (bb : Int), .int c])) := (hF1.trans (Fr.of (e3.trans e4))).trans (Fr.upd (List.mem_cons_self))
      have hq4 : upd H4 r (.lst [.ref s, .int (a + 1), .int (bb : Int), .int c]) r = some (.lst [.ref s, .int (a + 1), .int (bb : Int), .int c]) := upd_same
      show Pst K _ _ _ (upd H4 r (.lst [.ref s, .int (a + 1), .int (bb : Int), .int c]))
      generalize upd H4 r (.lst [.ref s, .int (a + 1), .int (bb : Int), .int c]) = H5 at *
      have h18 : CPow 10 18 := ⟨by decide, by decide, by decide⟩
      have hdx : CDivN x m := ⟨hmn, by omega⟩
      obtain ⟨kk, ek, hk⟩ := fm_nat hm x
      apply pst_when
      · walk_at "et"
      · intro hb4
        simp at hb4
        apply pst_setI1
        · rfl
        · exact hq4
        · walk_at "ev"
        · walk_at "ev"
        · rfl
        intro H6 e6
        have hd := fd_nn (c := x) hm (by omega)
        dsimp only
        refine Pst.go (K := K) ?_
        have hR6 : RowAt K s ns (upd H6 r (.lst [.ref s, .int (a + 1), .int (bb : Int), .int (x.fdiv m)])) r := RowAt.upd (e6 _ _ hq4) (ex_l e6 hs4) (by omega) (by omega) hbb hd
        have hF6 : Fr [r] H (upd H6 r (.lst [.ref s, .int (a + 1), .int (bb : Int), .int (x.fdiv m)])) := (hF4.trans (Fr.of e6)).trans (Fr.upd (List.mem_cons_self))
        apply pst_ret (d := .int (kk : Int))
        · rw [← ek]
          walk_at "ev"
        intro v H7 e7 t7
        cases t7
        exact k kk H7 hk (hF6.trans (Fr.of e7)) (hR6.ex e7)
      · intro hb4
        apply pst_ret (d := .int (kk : Int))
        · rw [← ek]
          walk_at "ev"
        intro v H7 e7 t7
        cases t7
        exact k kk H7 hk (hF4.trans (Fr.of e7)) (hR4.ex e7)
end
end Hw

set_option maxRecDepth 100000
set_option maxHeartbeats 4000000
/-! PG2: drawn things and places -/
namespace Hw
open PySem PySem.Spec PyProof.Rows L2 Evl
local macro_rules | `(tactic| walk_at "dd") => `(tactic| first | rfl | decide | (simp; done) | omega)
local macro_rules | `(tactic| walk_at "td") => `(tactic| first | assumption | exact Td.int _ | exact Td.bl _ | exact Td.str _ | exact Td.non | exact Td.tup (by assumption) (by assumption))
local macro_rules | `(tactic| walk_at "ev") => `(tactic| first
  | exact ed_ci | exact ed_cs | exact ed_cb | exact ed_cn
  | (apply ed_cg; assumption)
  | (apply ed_var; (rfl); (walk_at "td"))
  | (apply ed_ixT; (walk_at "ev"); (walk_at "ev"); (first | rfl | assumption))
  | (apply ed_rowI; (rfl); (assumption); (walk_at "ev"); (rfl))
  | (apply ed_ixL; (apply EvDL.rd; walk_at "edl"); (walk_at "ev"); (rfl))
  | (apply ed_intb; (walk_at "ev"))
  | (apply ed_len; walk_at "ev")
  | (apply ed_lenV; (apply ev_rowR; (rfl); (assumption); (walk_at "ev"); (rfl)); (assumption))
  | (apply ed_Ii; (walk_at "ev"); (walk_at "ev"); (walk_at "cc"))
  | (apply ed_isi; (walk_at "ev"); (rfl))
  | (apply ed_I0i; (walk_at "ev"); (walk_at "ev"))
  | (apply ed_I0b; (walk_at "ev"); (walk_at "ev"))
  | (apply ed_eqi; (walk_at "ev"); (walk_at "ev"))
  | (apply ed_nei; (walk_at "ev"); (walk_at "ev"))
  | (apply ed_andF; walk_at "ev")
  | (apply ed_andV; (walk_at "ev"); (intro _; walk_at "ev"))
  | (apply ed_orT; walk_at "ev")
  | (apply ed_orV; (walk_at "ev"); (intro _; walk_at "ev"))
  | (apply ed_notT; walk_at "ev")
  | (apply ed_notF; walk_at "ev")
  | (apply ed_notV; walk_at "ev")
  | (apply ed_chain; (walk_at "ev"); (walk_at "ev"); (intro _; walk_at "ev"))
  | (apply ed_eqS; (walk_at "ev"); (walk_at "ev"); (walk_at "bb"); (walk_at "bb"))
  | (apply ed_neS; (walk_at "ev"); (walk_at "ev"); (walk_at "bb"); (walk_at "bb"))
  | (apply ed_inT; (walk_at "ev"); (walk_at "ev"); (rfl); (rfl))
  | (apply ed_niT; (walk_at "ev"); (walk_at "ev"); (rfl); (rfl))
  | (apply ed_tup; (walk_at "eva"); (walk_at "bb"))
  | (apply ed_sl; (walk_at "ev"); (walk_at "evo"); (walk_at "evo"))
  | (apply ed_eqN; (apply EvDL.rd; walk_at "edl"); (walk_at "edl"); (walk_at "bb"))
  | (apply ed_neN; (apply EvDL.rd; walk_at "edl"); (walk_at "edl"); (walk_at "bb"))
  | (apply ed_ixL; (apply edr_var; (rfl); (assumption); (assumption)); (walk_at "ev"); (first | rfl | assumption))
  | (apply ed_lenL; (apply edr_var; (rfl); (assumption); (assumption)))
  | (apply ed_call; (walk_at "eva"); (walk_at "post")))
local macro_rules | `(tactic| walk_at "edl") => `(tactic| first
  | assumption
  | (apply edl_lst; (walk_at "eva"); (walk_at "bb")))
local macro_rules | `(tactic| walk_at "eva") => `(tactic| first
  | exact eda_nil
  | (apply eda_cons; (walk_at "ev"); (walk_at "eva")))
local macro_rules | `(tactic| walk_at "evo") => `(tactic| first
  | exact eok_none
  | (apply eok_some; walk_at "ev"))
local macro_rules | `(tactic| walk_at "bb") => `(tactic| first | rfl | assumption | (simp; done) | (simp; omega) | decide +kernel)
local macro_rules | `(tactic| walk_at "et") => `(tactic| first
  | exact tk_yes
  | (apply tk_andF; walk_at "et")
  | (apply tk_and; (walk_at "et"); (intro _; walk_at "et"))
  | (apply tk_orT; walk_at "et")
  | (apply tk_or; (walk_at "et"); (intro _; walk_at "et"))
  | (apply tk_notT; walk_at "et")
  | (apply tk_notF; walk_at "et")
  | (apply tk_not; walk_at "et")
  | (apply tk_v; walk_at "ev")
  | (apply tk_vB; walk_at "ev"))
local macro_rules | `(tactic| walk_at "if") => `(tactic| first
  | (apply pst_whenF; (walk_at "et"); (walk_at "bb"))
  | (apply pst_whenT; (walk_at "et"); (walk_at "bb")))
local macro_rules | `(tactic| walk_at "post") => `(tactic| first | assumption | exact ⟨_, _, rfl, rfl⟩ | exact ⟨_, _, _, _, rfl, by omega, by omega, rfl⟩ | exact ⟨_, _, _, 0, rfl, by omega, by omega, rfl⟩)
local macro_rules | `(tactic| walk_at "cc") => `(tactic| first | assumption | decide | omega | (refine ⟨?_, ?_⟩ <;> first | decide | omega) | (exact Or.inl (by constructor <;> omega)))

def dpT : Th → Nat
  | .cell t => dpT t + 1
  | .sum a b => max (dpT a) (dpT b) + 1
  | _ => 0
def wfT (ps os : Nat) : Th → Bool
  | .num n => decide (n < 3)
  | .own k => decide (k < os)
  | .par k => decide (k < ps)
  | .cell t => wfT ps os t
  | .sum a b => wfT ps os a && wfT ps os b
theorem okT_of {ps os : Nat} : ∀ (t : Th) (j : Nat), wfT ps os t = true → dpT t + j ≤ 4 → okT ps os t j = true
  | .num n, j, h, hd => by simp [wfT] at h; simp [dpT] at hd; simp [okT]; omega
  | .own n, j, h, hd => by simp [wfT] at h; simp [dpT] at hd; simp [okT]; omega
  | .par n, j, h, hd => by simp [wfT] at h; simp [dpT] at hd; simp [okT]; omega
  | .cell t, j, h, hd => by
    simp only [wfT] at h
    simp only [dpT] at hd
    simp only [okT, okT_of t (j + 1) h (by omega), Bool.and_true, decide_eq_true_eq]
    omega
  | .sum a b, j, h, hd => by
    simp only [wfT, Bool.and_eq_true] at h
    simp only [dpT] at hd
    simp only [okT, okT_of a (j + 1) h.1 (by omega), okT_of b (j + 1) h.2 (by omega), Bool.and_true, decide_eq_true_eq]
    omega
def szD (ps os : Nat) : PyData := .tuple [.int (ps : Int), .int (os : Int)]
def spThing (K : PySem.W.Frag) (n : Nat) : Sp := fun vs H Q _ => ∃ (r s : Addr) (ns : List Int) (v : V) (ps os : Nat), vs = [.ref r, v, .int (n : Int)] ∧ RowAt K s ns H r ∧ ns.length ≤ 63 ∧ Td K H v (szD ps os) ∧ ps ≤ 99 ∧ os ≤ 99 ∧
  ∀ t x H', wfT ps os t = true → dpT t ≤ n + 1 → Fr [r] H H' → RowAt K s ns H' r → Td K H' x (encT t) → Q x H'
def spPlace (K : PySem.W.Frag) (n : Nat) : Sp := fun vs H Q _ => ∃ (r s : Addr) (ns : List Int) (v : V) (ps os : Nat), vs = [.ref r, v, .int (n : Int)] ∧ RowAt K s ns H r ∧ ns.length ≤ 63 ∧ Td K H v (szD ps os) ∧ ps ≤ 99 ∧ os ≤ 99 ∧
  ∀ t x H', wfT ps os t = true → isPlace t = true → dpT t ≤ n + 2 → Fr [r] H H' → RowAt K s ns H' r → Td K H' x (encT t) → Q x H'
section
variable {K : PySem.W.Frag} {σ : L2.St} {H H' : Hp} {te tx : TE} {Q : VK} {r s : Addr} {ns : List Int} {E : XK} {n i : Nat}
theorem RowAt.keep (h : RowAt K s ns H r) (f : Fr [r] H H') : Keep K H H' := f.keep fun a ha => by
  have e : a = r := by simpa using ha
  rw [e]
  exact h.mu
theorem w_taken {m : Int} (hs : σ[n]? = some (some (.ref r))) (hR : RowAt K s ns H r) (hn : ns.length ≤ 63) (hm : EvD K te σ H (.int m)) (h0 : 0 < m) (h1 : m < 1000001)
    (k : ∀ (k : Nat) H', (k : Int) < m → Fr [r] H H' → RowAt K s ns H' r → Q (.int (k : Int)) H') : tCall (spTaken K) [] E (tCons (tVar n) (tCons te tNil)) σ H Q :=
  ⟨.ref r, hs, hm.iv H (Ex.refl H) _ fun H1 e1 => ⟨r, s, ns, m, rfl, hR.ex e1, hn, h0, h1, fun j H' hj hf hR' => k j H' hj ((Fr.of e1).trans hf) hR'⟩⟩
theorem w_thing {m ps os : Nat} (hs : σ[n]? = some (some (.ref r))) (hR : RowAt K s ns H r) (hn : ns.length ≤ 63) (hz : EvD K tx σ H (szD ps os)) (hp : ps ≤ 99) (ho : os ≤ 99) (hm : EvD K te σ H (.int (m : Int)))
    (k : ∀ t x H', wfT ps os t = true → dpT t ≤ m + 1 → Fr [r] H H' → RowAt K s ns H' r → Td K H' x (encT t) → Q x H') : tCall (spThing K m) [] E (tCons (tVar n) (tCons tx (tCons te tNil))) σ H Q :=
  ⟨.ref r, hs, hz H (Ex.refl H) _ fun v H1 e1 tv => hm.iv H1 e1 _ fun H2 e2 => ⟨r, s, ns, v, ps, os, rfl, hR.ex (e1.trans e2), hn, tv.ex e2, hp, ho, fun t x H' h1 h2 hf hR' td => k t x H' h1 h2 ((Fr.of (e1.trans e2)).trans hf) hR' td⟩⟩
theorem w_place {m ps os : Nat} (hs : σ[n]? = some (some (.ref r))) (hR : RowAt K s ns H r) (hn : ns.length ≤ 63) (hz : EvD K tx σ H (szD ps os)) (hp : ps ≤ 99) (ho : os ≤ 99) (hm : EvD K te σ H (.int (m : Int)))
    (k : ∀ t x H', wfT ps os t = true → isPlace t = true → dpT t ≤ m + 2 → Fr [r] H H' → RowAt K s ns H' r → Td K H' x (encT t) → Q x H') : tCall (spPlace K m) [] E (tCons (tVar n) (tCons tx (tCons te tNil))) σ H Q :=
  ⟨.ref r, hs, hz H (Ex.refl H) _ fun v H1 e1 tv => hm.iv H1 e1 _ fun H2 e2 => ⟨r, s, ns, v, ps, os, rfl, hR.ex (e1.trans e2), hn, tv.ex e2, hp, ho, fun t x H' h1 h2 h3 hf hR' td => k t x H' h1 h2 h3 ((Fr.of (e1.trans e2)).trans hf) hR' td⟩⟩
end
theorem pick58 (n : Nat) : atI [PyData.int 5, PyData.int 8] (if decide (0 < (n : Int)) = true then 1 else 0) = some (.int (if n = 0 then 5 else 8)) := by
  cases n with
  | zero => rfl
  | succ n =>
    rw [if_pos (decide_eq_true (by omega)), if_neg (by omega)]
    rfl
section
variable {P : Program} {w : World} {K : PySem.W.Frag} {mg : Str → Option Value} {base : Heap} (T : Tx K mg)
include T
theorem ok_thing (GT : Fn__law_taken T P w base CX0 1 (spTaken K)) : ∀ n : Nat, Fn__law_thing T P w base CX0 (n + 2) (spThing K n) := by
  have all : ∀ (n : Nat) (spI : Sp) (hspI : 0 < n → spI = spThing K (n - 1)), Fn__law_thing T P w base CX0 (n + 1) spI → Fn__law_thing T P w base CX0 (n + 2) (spThing K n) := by
    intro n spI hspI G_I
    have G__law_taken := GT
    have G__law_thing := G_I
    refine T.F__law_thing.ok sc__law_thing (fun vs H Q E h => by obtain ⟨r, s, ns, v, ps, os, rfl, _⟩ := h; rfl) fun cdv A outer s0 H vs Q E hr h => ?_
    obtain ⟨r, s, ns, v, ps, os, rfl, hR, hn, tz, hps, hos, k⟩ := h
    refine ⟨_, (pss_cons (ps_set (i := 3) sc__law_thing.nd rfl (Or.inl rfl) (pe_call G__law_taken (hr.mono (by omega)) (by rfl) T.g__law_taken T.k__law_taken T.bd__law_taken .nil pass0 (pa_cons (pv 0) (pa_cons (pe_ix (kix_list K) (pe_lst (pa_cons pe_int (pa_cons pe_int pa_nil))) (pe_callTy kc_int rfl T.b_int (by decide +kernel) (pa_cons (pe_cmpR op_gt (pv 2) pe_int (nomark _)) pa_nil)) (fun _ _ => rfl)) pa_nil))))
  (pss_cons (ps_if (PW.pt (pw_and (pt_cmpR op_lt (pv 3) pe_int (nomark _)) (pw_and1 (pt_cmpR op_gt (pe_ix (kix_tup K) (pv 1) pe_int (fun _ _ => rfl)) pe_int (nomark _)))))
    (pss_one (ps_ret (pe_tup (pa_cons pe_str (pa_cons (pe_call G__law_taken (hr.mono (by omega)) (by rfl) T.g__law_taken T.k__law_taken T.bd__law_taken .nil pass0 (pa_cons (pv 0) (pa_cons (pe_ix (kix_tup K) (pv 1) pe_int (fun _ _ => rfl)) pa_nil))) pa_nil)))))
    pss_nil)
  (pss_cons (ps_if (PW.pt (pw_and (pt_cmpR op_eq (pv 3) pe_int (nomark _)) (pw_and1 (pt_cmpR op_gt (pe_ix (kix_tup K) (pv 1) pe_int (fun _ _ => rfl)) pe_int (nomark _)))))
    (pss_one (ps_ret (pe_tup (pa_cons pe_str (pa_cons (pe_call G__law_taken (hr.mono (by omega)) (by rfl) T.g__law_taken T.k__law_taken T.bd__law_taken .nil pass0 (pa_cons (pv 0) (pa_cons (pe_ix (kix_tup K) (pv 1) pe_int (fun _ _ => rfl)) pa_nil))) pa_nil)))))
    pss_nil)
  (pss_cons (ps_if (pt_cmpR op_gt (pv 3) pe_int (nomark _))
    (pss_one (ps_ret (pe_tup (pa_cons pe_str (pa_cons (pe_call G__law_thing (hr.mono (by omega)) (by rfl) T.g__law_thing T.k__law_thing T.bd__law_thing .nil pass0 (pa_cons (pv 0) (pa_cons (pv 1) (pa_cons (pe_op op_sub (pv 2) pe_int) pa_nil)))) (pa_cons (pe_call G__law_thing (hr.mono (by omega)) (by rfl) T.g__law_thing T.k__law_thing T.bd__law_thing .nil pass0 (pa_cons (pv 0) (pa_cons (pv 1) (pa_cons (pe_op op_sub (pv 2) pe_int) pa_nil)))) pa_nil))))))
    pss_nil)
  (pss_cons (ps_if (pt_cmpR op_gt (pv 3) pe_int (nomark _))
    (pss_one (ps_ret (pe_tup (pa_cons pe_str (pa_cons (pe_ifExp (pt_cmpR op_gt (pv 2) pe_int (nomark _)) (pe_call G__law_thing (hr.mono (by omega)) (by rfl) T.g__law_thing T.k__law_thing T.bd__law_thing .nil pass0 (pa_cons (pv 0) (pa_cons (pv 1) (pa_cons (pe_op op_sub (pv 2) pe_int) pa_nil)))) (pe_tup (pa_cons pe_str (pa_cons (pe_call G__law_taken (hr.mono (by omega)) (by rfl) T.g__law_taken T.k__law_taken T.bd__law_taken .nil pass0 (pa_cons (pv 0) (pa_cons pe_int pa_nil))) pa_nil)))) pa_nil)))))
    pss_nil)
  (pss_one (ps_ret (pe_tup (pa_cons pe_str (pa_cons (pe_call G__law_taken (hr.mono (by omega)) (by rfl) T.g__law_taken T.k__law_taken T.bd__law_taken .nil pass0 (pa_cons (pv 0) (pa_cons pe_int pa_nil))) pa_nil)))))))))), ?_⟩
    refine w_seq (w_asg (w_taken rfl hR hn (m := if n = 0 then 5 else 8) ?_ (by split <;> decide) (by split <;> decide) fun k1 H1 hk1 f1 R1 => ?_))
    · apply ed_ixL
      · apply EvDL.rd
        walk_at "edl"
      · walk_at "ev"
      · exact pick58 n
    have tz1 : Td K H1 v (.tuple [.int (ps : Int), .int (os : Int)]) := tz.kp (hR.keep f1)
    dsimp only
    refine Pst.go (K := K) ?_
    apply pst_when
    · walk_at "et"
    · intro hb H2 e2
      simp at hb
      have tz2 := tz1.ex e2
      refine w_ret (w_tup (w_cons (w_c (w_cons (w_taken rfl (R1.ex e2) hn (m := (ps : Int)) ?_ (by omega) (by omega) fun k2 H3 hk2 f3 R3 => w_nil ⟨by show 2 ≤ sizeLine; decide, fun p hp => ?_⟩)))))
      · walk_at "ev"
      exact k (.par k2) _ _ (by simp [wfT]; omega) (by simp [dpT]) (((f1.trans (Fr.of e2)).trans f3).trans (Fr.of (Ex.new hp))) (R3.ex (Ex.new hp)) (td_new hp (tdall2 (.str _) (.int _)))
    intro hb
    apply pst_when
    · walk_at "et"
    · intro hb H2 e2
      simp at hb
      have tz2 := tz1.ex e2
      refine w_ret (w_tup (w_cons (w_c (w_cons (w_taken rfl (R1.ex e2) hn (m := (os : Int)) ?_ (by omega) (by omega) fun k2 H3 hk2 f3 R3 => w_nil ⟨by show 2 ≤ sizeLine; decide, fun p hp => ?_⟩)))))
      · walk_at "ev"
      exact k (.own k2) _ _ (by simp [wfT]; omega) (by simp [dpT]) (((f1.trans (Fr.of e2)).trans f3).trans (Fr.of (Ex.new hp))) (R3.ex (Ex.new hp)) (td_new hp (tdall2 (.str _) (.int _)))
    intro hb
    apply pst_when
    · walk_at "et"
    · intro hb H2 e2
      simp at hb
      have tz2 := tz1.ex e2
      have hn0 : n ≠ 0 := by
        intro e
        rw [if_pos e] at hk1
        omega
      obtain ⟨m, rfl⟩ : ∃ m, n = m + 1 := ⟨n - 1, by omega⟩
      rw [hspI (by omega)]
      have em : m + 1 - 1 = m := by omega
      rw [em]
      have eI : ∀ H, EvD K (tOp (rI0 fun i j => .int (i - j)) (tVar 2) (tC (.int 1))) (List.set (L2.start ["_law_row", "_law_sizes", "_law_within", "_law_way"] [.ref r, v, .int ((m + 1 : Nat) : Int)]) 3 (some (.int (k1 : Int)))) H (.int (m : Int)) := by
        intro H
        apply ed_is
        · walk_at "ev"
        · simp
      refine w_ret (w_tup (w_cons (w_c (w_cons (w_thing (ps := ps) (os := os) rfl (R1.ex e2) hn ?_ hps hos (eI _) fun ta xa H3 wa da f3 R3 tda => ?_)))))
      · unfold szD
        walk_at "ev"
      have tz3 := tz2.kp ((R1.ex e2).keep f3)
      refine w_cons (w_thing (ps := ps) (os := os) rfl R3 hn ?_ hps hos (eI _) fun tb xb H4 wb db f4 R4 tdb => w_nil ⟨by show 3 ≤ sizeLine; decide, fun p hp => ?_⟩)
      · unfold szD
        walk_at "ev"
      have tda4 := tda.kp (R3.keep f4)
      exact k (.sum ta tb) _ _ (by simp [wfT, wa, wb]) (by simp only [dpT]; omega) ((((f1.trans (Fr.of e2)).trans f3).trans f4).trans (Fr.of (Ex.new hp))) (R4.ex (Ex.new hp)) (td_new hp (tdall3 (.str _) tda4 tdb))
    intro hb
    apply pst_when
    · walk_at "et"
    · intro hb H2 e2
      have tz2 := tz1.ex e2
      refine w_ret (w_tup (w_cons (w_c (w_cons (w_if (w_t (K := K) (b := decide (0 < (n : Int))) ?_ fun H3 e3 => ?_))))))
      · walk_at "et"
      have tz3 := tz2.ex e3
      have R3 := (R1.ex e2).ex e3
      have f3 : Fr [r] H H3 := (f1.trans (Fr.of e2)).trans (Fr.of e3)
      by_cases hn0 : n = 0
      · subst hn0
        refine iteF ?_
        refine w_tup (w_cons (w_c (w_cons (w_taken rfl R3 hn (m := 3) ?_ (by decide) (by decide) fun k2 H4 hk2 f4 R4 => w_nil ⟨by show 2 ≤ sizeLine; decide, fun p hp => ?_⟩))))
        · walk_at "ev"
        refine w_nil ⟨by show 2 ≤ sizeLine; decide, fun p2 hp2 => ?_⟩
        have t5 : Td K (upd H4 p (.tup [.str "num", .int (k2 : Int)])) (.ref p) (encT (.num k2)) := td_new hp (tdall2 (.str _) (.int _))
        exact k (.cell (.num k2)) _ _ (by simp [wfT]; omega) (by simp [dpT]) (((f3.trans f4).trans (Fr.of (Ex.new hp))).trans (Fr.of (Ex.new hp2))) ((R4.ex (Ex.new hp)).ex (Ex.new hp2)) (td_new hp2 (tdall2 (.str _) t5))
      · obtain ⟨m, rfl⟩ : ∃ m, n = m + 1 := ⟨n - 1, by omega⟩
        rw [hspI (by omega)]
        have em : m + 1 - 1 = m := by omega
        rw [em]
        rw [if_pos (decide_eq_true (by omega))]
        refine w_thing (ps := ps) (os := os) rfl R3 hn ?_ hps hos ?_ fun ta xa H4 wa da f4 R4 tda => ?_
        · unfold szD
          walk_at "ev"
        · apply ed_is
          · walk_at "ev"
          · simp
        refine w_nil ⟨by show 2 ≤ sizeLine; decide, fun p hp => ?_⟩
        exact k (.cell ta) _ _ (by simp [wfT, wa]) (by simp only [dpT]; omega) ((f3.trans f4).trans (Fr.of (Ex.new hp))) (R4.ex (Ex.new hp)) (td_new hp (tdall2 (.str _) tda))
    intro hb H2 e2
    refine w_ret (w_tup (w_cons (w_c (w_cons (w_taken rfl (R1.ex e2) hn (m := 3) ?_ (by omega) (by omega) fun k2 H3 hk2 f3 R3 => w_nil ⟨by show 2 ≤ sizeLine; decide, fun p hp => ?_⟩)))))
    · walk_at "ev"
    exact k (.num k2) _ _ (by simp [wfT]; omega) (by simp [dpT]) (((f1.trans (Fr.of e2)).trans f3).trans (Fr.of (Ex.new hp))) (R3.ex (Ex.new hp)) (td_new hp (tdall2 (.str _) (.int _)))
  intro n
  induction n with
  | zero => exact all 0 (fun _ _ _ _ => False) (fun h => absurd h (Nat.lt_irrefl _)) (fn_vac fun _ _ _ _ h => h)
  | succ n ih => exact all (n + 1) (spThing K n) (fun _ => rfl) ih
theorem ok_place {n : Nat} (GT : Fn__law_thing T P w base CX0 (n + 2) (spThing K n)) : Fn__law_place T P w base CX0 (n + 3) (spPlace K n) := by
  have G__law_thing := GT
  refine T.F__law_place.ok sc__law_place (fun vs H Q E h => by obtain ⟨r, s, ns, v, ps, os, rfl, _⟩ := h; rfl) fun cdv A outer s0 H vs Q E hr h => ?_
  obtain ⟨r, s, ns, v, ps, os, rfl, hR, hn, tz, hps, hos, k⟩ := h
  refine ⟨_, (pss_cons (ps_set (i := 3) sc__law_place.nd rfl (Or.inl rfl) (pe_call G__law_thing (hr.mono (by omega)) (by rfl) T.g__law_thing T.k__law_thing T.bd__law_thing .nil pass0 (pa_cons (pv 0) (pa_cons (pv 1) (pa_cons (pv 2) pa_nil)))))
  (pss_one (ps_ret (pe_ifExp (pt_cmpR (kop_in K) (pe_ix (kix_tup K) (pv 3) pe_int (fun _ _ => rfl)) (pe_tup (pa_cons pe_str (pa_cons pe_str (pa_cons pe_str pa_nil)))) rfl) (pv 3) (pe_tup (pa_cons pe_str (pa_cons (pv 3) pa_nil))))))), ?_⟩
  refine w_seq (w_asg (w_thing (ps := ps) (os := os) rfl hR hn ?_ hps hos ?_ fun t x H1 wt dt f1 R1 td => ?_))
  · walk_at "ev"
  · walk_at "ev"
  dsimp only
  refine w_ret (w_if (w_t (K := K) (b := isPlace t) ?_ fun H2 e2 => ?_))
  · cases t <;> (apply tk_is; (walk_at "et"); (simp [isPlace]))
  obtain hp | hp : isPlace t = true ∨ isPlace t = false := by cases isPlace t <;> simp
  · rw [hp]
    refine iteT (w_v rfl ?_)
    exact k t x H2 wt hp (by omega) (f1.trans (Fr.of e2)) (R1.ex e2) (td.ex e2)
  · rw [hp]
    refine iteF (w_tup (w_cons (w_c (w_cons (w_v rfl (w_nil ⟨by show 2 ≤ sizeLine; decide, fun p hp => ?_⟩))))))
    exact k (.cell t) _ _ (by simp [wfT, wt]) rfl (by simp only [dpT]; omega) ((f1.trans (Fr.of e2)).trans (Fr.of (Ex.new hp))) ((R1.ex e2).ex (Ex.new hp)) (td_new hp (tdall2 (.str _) (td.ex e2)))
end
end Hw

set_option maxRecDepth 100000
set_option maxHeartbeats 4000000
/-! PG3: drawn steps and bodies -/
namespace Hw
open PySem PySem.Spec PyProof.Rows L2 Evl
local macro_rules | `(tactic| walk_at "dd") => `(tactic| first | rfl | decide | (simp; done) | omega)
local macro_rules | `(tactic| walk_at "td") => `(tactic| first | assumption | exact Td.int _ | exact Td.bl _ | exact Td.str _ | exact Td.non | exact Td.tup (by assumption) (by assumption))
local macro_rules | `(tactic| walk_at "ev") => `(tactic| first
  | exact ed_ci | exact ed_cs | exact ed_cb | exact ed_cn
  | (apply ed_cg; assumption)
  | (apply ed_var; (rfl); (walk_at "td"))
  | (apply ed_ixT; (walk_at "ev"); (walk_at "ev"); (first | rfl | assumption))
  | (apply ed_rowI; (rfl); (assumption); (walk_at "ev"); (rfl))
  | (apply ed_ixL; (apply EvDL.rd; walk_at "edl"); (walk_at "ev"); (rfl))
  | (apply ed_intb; (walk_at "ev"))
  | (apply ed_len; walk_at "ev")
  | (apply ed_lenV; (apply ev_rowR; (rfl); (assumption); (walk_at "ev"); (rfl)); (assumption))
  | (apply ed_Ii; (walk_at "ev"); (walk_at "ev"); (walk_at "cc"))
  | (apply ed_isi; (walk_at "ev"); (rfl))
  | (apply ed_I0i; (walk_at "ev"); (walk_at "ev"))
  | (apply ed_I0b; (walk_at "ev"); (walk_at "ev"))
  | (apply ed_eqi; (walk_at "ev"); (walk_at "ev"))
  | (apply ed_nei; (walk_at "ev"); (walk_at "ev"))
  | (apply ed_andF; walk_at "ev")
  | (apply ed_andV; (walk_at "ev"); (intro _; walk_at "ev"))
  | (apply ed_orT; walk_at "ev")
  | (apply ed_orV; (walk_at "ev"); (intro _; walk_at "ev"))
  | (apply ed_notT; walk_at "ev")
  | (apply ed_notF; walk_at "ev")
  | (apply ed_notV; walk_at "ev")
  | (apply ed_chain; (walk_at "ev"); (walk_at "ev"); (intro _; walk_at "ev"))
  | (apply ed_eqS; (walk_at "ev"); (walk_at "ev"); (walk_at "bb"); (walk_at "bb"))
  | (apply ed_neS; (walk_at "ev"); (walk_at "ev"); (walk_at "bb"); (walk_at "bb"))
  | (apply ed_inT; (walk_at "ev"); (walk_at "ev"); (rfl); (rfl))
  | (apply ed_niT; (walk_at "ev"); (walk_at "ev"); (rfl); (rfl))
  | (apply ed_tup; (walk_at "eva"); (walk_at "bb"))
  | (apply ed_sl; (walk_at "ev"); (walk_at "evo"); (walk_at "evo"))
  | (apply ed_eqN; (apply EvDL.rd; walk_at "edl"); (walk_at "edl"); (walk_at "bb"))
  | (apply ed_neN; (apply EvDL.rd; walk_at "edl"); (walk_at "edl"); (walk_at "bb"))
  | (apply ed_ixL; (apply edr_var; (rfl); (assumption); (assumption)); (walk_at "ev"); (first | rfl | assumption))
  | (apply ed_lenL; (apply edr_var; (rfl); (assumption); (assumption)))
  | (apply ed_call; (walk_at "eva"); (walk_at "post")))
local macro_rules | `(tactic| walk_at "edl") => `(tactic| first
  | assumption
  | (apply edl_lst; (walk_at "eva"); (walk_at "bb")))
local macro_rules | `(tactic| walk_at "eva") => `(tactic| first
  | exact eda_nil
  | (apply eda_cons; (walk_at "ev"); (walk_at "eva")))
local macro_rules | `(tactic| walk_at "evo") => `(tactic| first
  | exact eok_none
  | (apply eok_some; walk_at "ev"))
local macro_rules | `(tactic| walk_at "bb") => `(tactic| first | rfl | assumption | (simp; done) | (simp; omega) | decide +kernel)
local macro_rules | `(tactic| walk_at "et") => `(tactic| first
  | exact tk_yes
  | (apply tk_andF; walk_at "et")
  | (apply tk_and; (walk_at "et"); (intro _; walk_at "et"))
  | (apply tk_orT; walk_at "et")
  | (apply tk_or; (walk_at "et"); (intro _; walk_at "et"))
  | (apply tk_notT; walk_at "et")
  | (apply tk_notF; walk_at "et")
  | (apply tk_not; walk_at "et")
  | (apply tk_v; walk_at "ev")
  | (apply tk_vB; walk_at "ev"))
local macro_rules | `(tactic| walk_at "if") => `(tactic| first
  | (apply pst_whenF; (walk_at "et"); (walk_at "bb"))
  | (apply pst_whenT; (walk_at "et"); (walk_at "bb")))
local macro_rules | `(tactic| walk_at "post") => `(tactic| first | assumption | exact ⟨_, _, rfl, rfl⟩ | exact ⟨_, _, _, _, rfl, by omega, by omega, rfl⟩ | exact ⟨_, _, _, 0, rfl, by omega, by omega, rfl⟩)
local macro_rules | `(tactic| walk_at "cc") => `(tactic| first | assumption | decide | omega | (refine ⟨?_, ?_⟩ <;> first | decide | omega) | (exact Or.inl (by constructor <;> omega)))

section
variable {K : PySem.W.Frag} {σ : L2.St} {H H' : Hp} {D : Ends} {tu : TS} {ta : TA} {ds : List PyData} {te tx tv tw ty : TE} {Q : VK} {r s sh l : Addr} {ns : List Int} {E : XK}
theorem Fr.fresh {p : Addr} {S : List Addr} (h : Fr (p :: S) H H') (hp : H p = none) : Fr S H H' := fun q o hq e => h q o (fun z => by
  rcases List.mem_cons.mp z with z | z
  · subst z
    rw [hp] at e
    cases e
  · exact hq z) e
/-- for i in range(n) -/
theorem w_forR {n j : Nat} (h : EvDA K ta σ H [.int (n : Int)]) (hn : n ≤ 100000) (Pv : Nat → L2.St → Hp → Prop) (h0 : ∀ H1, Ex H H1 → Pv 0 σ H1)
    (hs : ∀ i σ' H', i < n → Pv i σ' H' → tu { D with nx := Pv (i + 1), ct := Pv (i + 1), bk := D.nx } (σ'.set j (some (.int (i : Int)))) H') (hd : ∀ σ' H', Pv n σ' H' → D.nx σ' H') : tFor (iRng1 ta) (gName j) tu D σ H :=
  h H (Ex.refl H) _ fun ws H1 e tw => by
    obtain _ | ⟨w1, _ | _⟩ := tw
    cases w1
    refine ⟨(n : Int), rfl, by omega, by omega, ?_⟩
    have en : ((n : Int)).toNat = n := by simp
    rw [en]
    refine for_range (lo := 0) (n := n) Pv (h0 H1 e) (fun i σ' H' hi p => ?_) hd
    have e0 : (0 : Int) + (i : Int) = (i : Int) := Int.zero_add _
    show tu _ (σ'.set j (some (.int ((0 : Int) + (i : Int))))) H'
    rw [e0]
    exact hs i σ' H' hi p
def RngGo (g : TG) (tu : TS) (D : Ends) (σ : L2.St) (ws : List V) (H1 : Hp) : Prop := ∃ j : Int, ws = [.int j] ∧ -(2 ^ 62) ≤ j ∧ j < 2 ^ 62 ∧ ∃ W : Nat → Nat → L2.St → Hp → Prop, (∃ m, W 0 m σ H1) ∧ ∀ i m σ H, W i m σ H →
  ((Itr 0 j.toNat).stop i H ∧ D.nx σ H) ∨ ((Itr 0 j.toNat).go i H ∧ ∃ N : L2.St → Hp → Prop, (∀ σ' H', N σ' H' → ∃ m', m' < m ∧ W (i + 1) m' σ' H') ∧ ∀ x H', (Itr 0 j.toNat).yld i H x H' → g x σ H' fun σ2 H2 => tu { D with nx := N, ct := N, bk := D.nx } σ2 H2)
theorem w_forR0 {g : TG} (h : ta σ H (RngGo g tu D σ)) : tFor (iRng1 ta) g tu D σ H := h
theorem rng_go {n j : Nat} (hn : n ≤ 100000) (Pv : Nat → L2.St → Hp → Prop) (h0 : Pv 0 σ H) (hs : ∀ i σ' H', i < n → Pv i σ' H' → tu { D with nx := Pv (i + 1), ct := Pv (i + 1), bk := D.nx } (σ'.set j (some (.int (i : Int)))) H') (hd : ∀ σ' H', Pv n σ' H' → D.nx σ' H') : RngGo (gName j) tu D σ [.int (n : Int)] H := by
  refine ⟨(n : Int), rfl, by omega, by omega, ?_⟩
  have en : ((n : Int)).toNat = n := by simp
  rw [en]
  refine for_range (lo := 0) (n := n) Pv h0 (fun i σ' H' hi p => ?_) hd
  have e0 : (0 : Int) + (i : Int) = (i : Int) := Int.zero_add _
  show tu _ (σ'.set j (some (.int ((0 : Int) + (i : Int))))) H'
  rw [e0]
  exact hs i σ' H' hi p
theorem pst_of {t : TS} (h : ∀ H1, Ex H H1 → t D σ H1) : Pst K t D σ H := h
/-- what the law's drawing stands on: its row, the works' shapes, what is left -/
structure Gs (K : PySem.W.Frag) (s r sh l : Addr) (ns : List Int) (shs : List (Nat × Nat)) (a b : Nat) (H : Hp) : Prop where
  row : RowAt K s ns H r
  shp : ∃ xs, H sh = some (.lst xs) ∧ TdAll K H xs (shs.map fun x => szD x.1 x.2)
  lft : H l = some (.lst [.int (a : Int), .int (b : Int)])
  n1 : sh ≠ r
  n2 : sh ≠ l
  n3 : l ≠ r
  n4 : s ≠ l ∨ SqL K (fun _ => none) s (ns.map V.int)
variable {shs : List (Nat × Nat)} {a b c d : Nat}
theorem sql_none {xs : List V} (h : SqL K (fun _ => none) s xs) : SqL K H s xs := by
  rcases h with (h | ⟨o, h⟩) | h
  · cases h
  · cases h
  · exact .inr h
theorem sql_split {xs : List V} (h : SqL K H s xs) : (∃ u, H s = some u) ∨ SqL K (fun _ => none) s xs := by
  rcases h with (h | ⟨o, h⟩) | h
  · exact .inl ⟨_, h⟩
  · exact .inl ⟨_, h⟩
  · exact .inr (.inr h)
theorem sql_upd {xs : List V} {o : HO} (h : SqL K H s xs) (n : s ≠ l ∨ SqL K (fun _ => none) s xs) : SqL K (upd H l o) s xs := by
  rcases n with n | n
  · rcases h with (h | ⟨o2, h⟩) | h
    · exact .inl (.inl (by rw [upd_ne n]; exact h))
    · exact .inl (.inr ⟨o2, by rw [upd_ne n]; exact h⟩)
    · exact .inr h
  · exact sql_none n
theorem Gs.ex (g : Gs K s r sh l ns shs a b H) (e : Ex H H') : Gs K s r sh l ns shs a b H' := by
  obtain ⟨xs, h1, h2⟩ := g.shp
  exact ⟨g.row.ex e, ⟨xs, e _ _ h1, h2.ex e⟩, e _ _ g.lft, g.n1, g.n2, g.n3, g.n4⟩
theorem Gs.fr (g : Gs K s r sh l ns shs a b H) (f : Fr [r] H H') (R : RowAt K s ns H' r) : Gs K s r sh l ns shs a b H' := by
  obtain ⟨xs, h1, h2⟩ := g.shp
  exact ⟨R, ⟨xs, f _ _ (by simpa using g.n1) h1, h2.kp (g.row.keep f)⟩, f _ _ (by simpa using g.n3) g.lft, g.n1, g.n2, g.n3, g.n4⟩
theorem Gs.mu (g : Gs K s r sh l ns shs a b H) : ∀ a ∈ [r, l], ∃ u, H a = some u ∧ Mut (some u) := fun x hx => by
  rcases List.mem_cons.mp hx with e | hx
  · rw [e]; exact g.row.mu
  · have e : x = l := by simpa using hx
    rw [e]
    exact ⟨_, g.lft, True.intro⟩
theorem Gs.keep (g : Gs K s r sh l ns shs a b H) (f : Fr [r, l] H H') : Keep K H H' := f.keep g.mu
theorem Gs.setl (g : Gs K s r sh l ns shs a b H) {i j : Int} (hi : i = (c : Int)) (hj : j = (d : Int)) : Gs K s r sh l ns shs c d (upd H l (.lst [.int i, .int j])) := by
  subst hi hj
  obtain ⟨xs, h1, h2⟩ := g.shp
  obtain ⟨p, q, t, h3, h4, h5⟩ := g.row
  refine ⟨⟨p, q, t, ?_, sql_upd h4 g.n4, h5⟩, ⟨xs, ?_, h2.kp (Keep.upd g.lft True.intro)⟩, upd_same, g.n1, g.n2, g.n3, g.n4⟩
  · rw [upd_ne (Ne.symm g.n3)]
    exact h3
  · rw [upd_ne g.n2]
    exact h1
/-- a list beside what the drawing stands on -/
structure Off (K : PySem.W.Frag) (s r sh l : Addr) (ns : List Int) (p : Addr) : Prop where
  o1 : p ≠ r
  o2 : p ≠ l
  o3 : p ≠ sh
  o4 : s ≠ p ∨ SqL K (fun _ => none) s (ns.map V.int)
theorem Gs.off {p : Addr} (g : Gs K s r sh l ns shs a b H) (hp : H p = none) : Off K s r sh l ns p := by
  obtain ⟨xs, h1, h2⟩ := g.shp
  obtain ⟨p0, q, t, h3, h4, h5⟩ := g.row
  refine ⟨fun e => ?_, fun e => ?_, fun e => ?_, ?_⟩
  · subst e; rw [hp] at h3; cases h3
  · subst e; have := g.lft; rw [hp] at this; cases this
  · subst e; rw [hp] at h1; cases h1
  · rcases sql_split h4 with ⟨u, h⟩ | h
    · refine .inl fun e => ?_
      subst e; rw [hp] at h; cases h
    · exact .inr h
theorem Gs.updo {p : Addr} {xs ys : List V} (g : Gs K s r sh l ns shs a b H) (o : Off K s r sh l ns p) (hp : H p = some (.lst xs)) : Gs K s r sh l ns shs a b (upd H p (.lst ys)) := by
  obtain ⟨zs, h1, h2⟩ := g.shp
  obtain ⟨p0, q, t, h3, h4, h5⟩ := g.row
  refine ⟨⟨p0, q, t, ?_, sql_upd h4 o.o4, h5⟩, ⟨zs, ?_, h2.kp (Keep.upd hp True.intro)⟩, ?_, g.n1, g.n2, g.n3, g.n4⟩
  · rw [upd_ne (Ne.symm o.o1)]; exact h3
  · rw [upd_ne (Ne.symm o.o3)]; exact h1
  · rw [upd_ne (Ne.symm o.o2)]; exact g.lft
theorem Fr.rl (f : Fr [r] H H') : Fr [r, l] H H' := f.sub (by simp)
end
/-! what is drawn -/
def goT (shs : List (Nat × Nat)) (at_ : Nat) (t : Th) : Bool := wfT (shP shs at_) (shO shs at_) t && decide (dpT t ≤ 3)
mutual
def goS (shs : List (Nat × Nat)) (at_ : Nat) : Nat → Stm → Bool
  | _, .set p t => goT shs at_ p && (isPlace p && goT shs at_ t)
  | _, .say t => goT shs at_ t
  | 0, .ite _ _ _ => false
  | n + 1, .ite t a b => goT shs at_ t && ((decide (a.length ≤ 13) && goB shs at_ n a) && (decide (b.length ≤ 13) && goB shs at_ n b))
  | _, .call c ts => decide (at_ < c) && (decide (c < shs.length) && (decide (ts.length = shP shs c) && ts.all (goT shs at_)))
def goB (shs : List (Nat × Nat)) (at_ : Nat) : Nat → List Stm → Bool
  | _, [] => true
  | n, s :: r => goS shs at_ n s && goB shs at_ n r
end
mutual
def clS : Stm → Nat
  | .ite _ a b => clB a + clB b
  | .call _ _ => 1
  | _ => 0
def clB : List Stm → Nat
  | [] => 0
  | s :: r => clS s + clB r
end
theorem goB_app {shs : List (Nat × Nat)} {at_ n : Nat} : ∀ {xs ys : List Stm}, goB shs at_ n xs = true → goB shs at_ n ys = true → goB shs at_ n (xs ++ ys) = true
  | [], ys, _, h => by simpa using h
  | x :: xs, ys, h1, h2 => by
    simp only [goB, Bool.and_eq_true] at h1
    simp only [List.cons_append, goB, h1.1, goB_app h1.2 h2, Bool.and_self]
theorem cntB_app : ∀ xs ys : List Stm, cntB (xs ++ ys) = cntB xs + cntB ys
  | [], ys => by simp [cntB]
  | x :: xs, ys => by simp only [List.cons_append, cntB, cntB_app xs ys]; omega
theorem clB_app : ∀ xs ys : List Stm, clB (xs ++ ys) = clB xs + clB ys
  | [], ys => by simp [clB]
  | x :: xs, ys => by simp only [List.cons_append, clB, clB_app xs ys]; omega
def shOk (shs : List (Nat × Nat)) : Prop := shs.length ≤ 4 ∧ ∀ x ∈ shs, x.1 ≤ 3 ∧ x.2 ≤ 10
def spStep (K : PySem.W.Frag) (n : Nat) : Sp := fun vs H Q _ => ∃ (r s sh l : Addr) (ns : List Int) (shs : List (Nat × Nat)) (at_ a b : Nat), vs = [.ref r, .ref sh, .int (at_ : Int), .ref l, .int (n : Int)] ∧ Gs K s r sh l ns shs a b H ∧ ns.length ≤ 63 ∧ shOk shs ∧ at_ < shs.length ∧
  ∀ st x H' a' b', goS shs at_ n st = true → cntS st + a' ≤ a + 1 → clS st + b' ≤ b → Fr [r, l] H H' → Gs K s r sh l ns shs a' b' H' → Td K H' x (encS st) → Q x H'
def spBody (K : PySem.W.Frag) (n : Nat) : Sp := fun vs H Q _ => ∃ (r s sh l : Addr) (ns : List Int) (shs : List (Nat × Nat)) (at_ a b : Nat), vs = [.ref r, .ref sh, .int (at_ : Int), .ref l, .int (n : Int)] ∧ Gs K s r sh l ns shs a b H ∧ ns.length ≤ 63 ∧ shOk shs ∧ at_ < shs.length ∧
  ∀ bd x H' a' b', bd.length ≤ 13 → goB shs at_ n bd = true → cntB bd + a' ≤ a → clB bd + b' ≤ b → Fr [r, l] H H' → Gs K s r sh l ns shs a' b' H' → Td K H' x (.tuple (encB bd)) → Q x H'
section
variable {K : PySem.W.Frag} {σ : L2.St} {H H' : Hp} {te t1 t2 t3 t4 : TE} {Q : VK} {r s sh l : Addr} {ns : List Int} {E : XK} {shs : List (Nat × Nat)} {at_ a b m n0 n1 n2 n3 : Nat}
theorem w_step (g : Gs K s r sh l ns shs a b H) (hn : ns.length ≤ 63) (ho : shOk shs) (ha : at_ < shs.length) (h0 : σ[n0]? = some (some (.ref r))) (h1 : σ[n1]? = some (some (.ref sh))) (h2 : EvD K te σ H (.int (at_ : Int))) (h3 : σ[n3]? = some (some (.ref l))) (h4 : EvD K t4 σ H (.int (m : Int)))
    (k : ∀ st x H' a' b', goS shs at_ m st = true → cntS st + a' ≤ a + 1 → clS st + b' ≤ b → Fr [r, l] H H' → Gs K s r sh l ns shs a' b' H' → Td K H' x (encS st) → Q x H') :
    tCall (spStep K m) [] E (tCons (tVar n0) (tCons (tVar n1) (tCons te (tCons (tVar n3) (tCons t4 tNil))))) σ H Q :=
  ⟨_, h0, _, h1, h2.iv H (Ex.refl H) _ fun H1 e1 => ⟨_, h3, h4.iv H1 e1 _ fun H2 e2 => ⟨r, s, sh, l, ns, shs, at_, a, b, rfl, g.ex (e1.trans e2), hn, ho, ha, fun st x H' a' b' q1 q2 q3 f g' td => k st x H' a' b' q1 q2 q3 ((Fr.of (e1.trans e2)).trans f) g' td⟩⟩⟩
theorem w_body (g : Gs K s r sh l ns shs a b H) (hn : ns.length ≤ 63) (ho : shOk shs) (ha : at_ < shs.length) (h0 : σ[n0]? = some (some (.ref r))) (h1 : σ[n1]? = some (some (.ref sh))) (h2 : EvD K te σ H (.int (at_ : Int))) (h3 : σ[n3]? = some (some (.ref l))) (h4 : EvD K t4 σ H (.int (m : Int)))
    (k : ∀ bd x H' a' b', bd.length ≤ 13 → goB shs at_ m bd = true → cntB bd + a' ≤ a → clB bd + b' ≤ b → Fr [r, l] H H' → Gs K s r sh l ns shs a' b' H' → Td K H' x (.tuple (encB bd)) → Q x H') :
    tCall (spBody K m) [] E (tCons (tVar n0) (tCons (tVar n1) (tCons te (tCons (tVar n3) (tCons t4 tNil))))) σ H Q :=
  ⟨_, h0, _, h1, h2.iv H (Ex.refl H) _ fun H1 e1 => ⟨_, h3, h4.iv H1 e1 _ fun H2 e2 => ⟨r, s, sh, l, ns, shs, at_, a, b, rfl, g.ex (e1.trans e2), hn, ho, ha, fun st x H' a' b' q0 q1 q2 q3 f g' td => k st x H' a' b' q0 q1 q2 q3 ((Fr.of (e1.trans e2)).trans f) g' td⟩⟩⟩
end
section
variable {P : Program} {w : World} {K : PySem.W.Frag} {mg : Str → Option Value} {base : Heap} (T : Tx K mg)
include T
theorem ok_body {n lv : Nat} (hl : 1 ≤ lv) (GS : Fn__law_step T P w base CX0 lv (spStep K n)) (GT : Fn__law_taken T P w base CX0 1 (spTaken K)) : Fn__law_body T P w base CX0 (lv + 1) (spBody K n) := by
  have G__law_step := GS
  have G__law_taken := GT
  refine T.F__law_body.ok sc__law_body (fun vs H Q E h => by obtain ⟨r, s, sh, l, ns, shs, at_, a, b, rfl, _⟩ := h; rfl) fun cdv A outer s0 H vs Q E hr h => ?_
  obtain ⟨r, s, sh, l, ns, shs, at_, a, b, rfl, g, hn, ho, hat, k⟩ := h
  refine ⟨_, (pss_cons (ps_set (i := 5) sc__law_body.nd rfl (Or.inl rfl) (pe_lst pa_nil))
  (pss_cons (ps_for (passes_of rfl) rfl (pi_range1 rfl T.b_range (pa_cons (pe_call G__law_taken (hr.mono (by omega)) (by rfl) T.g__law_taken T.k__law_taken T.bd__law_taken .nil pass0 (pa_cons (pv 0) (pa_cons (pe_ix (kix_list K) (pe_lst (pa_cons pe_int (pa_cons pe_int pa_nil))) (pe_callTy kc_int rfl T.b_int (by decide +kernel) (pa_cons (pe_cmpR op_gt (pe_ix (kix_list K) (pv 3) pe_int (fun _ _ => rfl)) pe_int (nomark _)) pa_nil)) (fun _ _ => rfl)) pa_nil))) pa_nil)) (pg_name (i := 6) sc__law_body.nd rfl (Or.inl rfl))
    (pss_one (ps_if (pt_cmpR op_gt (pe_ix (kix_list K) (pv 3) pe_int (fun _ _ => rfl)) pe_int (nomark _))
      (pss_cons (ps_asg (pe_op op_sub (pe_ix (kix_list K) (pv 3) pe_int (fun _ _ => rfl)) pe_int) (pg_sub (pv 3) pe_int set_list))
      (pss_one (ps_expr (pe_bm PySem.F.plainAttrs_list PySem.F.slot_list_append PySem.F.type_list_append mt_append (pv 5) (pa_cons (pe_call G__law_step (hr.mono (by omega)) (by rfl) T.g__law_step T.k__law_step T.bd__law_step .nil pass0 (pa_cons (pv 0) (pa_cons (pv 1) (pa_cons (pv 2) (pa_cons (pv 3) (pa_cons (pv 4) pa_nil)))))) pa_nil)))))
      pss_nil)))
  (pss_one (ps_ret (pe_callTy (kc_tuple K) rfl T.b_tuple (by decide +kernel) (pa_cons (pv 5) pa_nil)))))), ?_⟩
  refine Pst.go (K := K) ?_
  refine pst_asgL (edl_lst eda_nil (by simp)) fun fl xs0 H1 hfl e1 hx0 ht0 => ?_
  cases ht0
  have g1 := g.ex e1
  have off := g.off hfl
  refine pst_of fun H2 e2 => ?_
  have g2 := g1.ex e2
  have hl2 : SqL K H2 l [.int (a : Int), .int (b : Int)] := SqL.of g2.lft
  refine w_seq (w_forR0 (w_cons (w_taken rfl g2.row hn (m := if 12 < a then 14 else 5) ?_ (by split <;> decide) (by split <;> decide) fun k1 H3 hk1 f3 R3 => w_nil ?_)))
  · apply ed_ixL
    · apply EvDL.rd
      walk_at "edl"
    · walk_at "ev"
    · by_cases h12 : 12 < a
      · rw [if_pos (decide_eq_true (by omega)), if_pos h12] <;> rfl
      · rw [if_neg (by simp; omega), if_neg h12] <;> rfl
  have hk13 : k1 ≤ 13 := by
    split at hk1 <;> omega
  refine rng_go (by omega) (fun i σ' H' => ∃ (bd : List Stm) (xs : List V) (a' b' : Nat) (u : Option V), σ' = [some (.ref r), some (.ref sh), some (.int (at_ : Int)), some (.ref l), some (.int (n : Int)), some (.ref fl), u] ∧ H' fl = some (.lst xs) ∧ TdAll K H' xs (encB bd) ∧ bd.length ≤ i ∧ goB shs at_ n bd = true ∧ cntB bd + a' ≤ a ∧ clB bd + b' ≤ b ∧ Fr [fl, r, l] H1 H' ∧ Gs K s r sh l ns shs a' b' H') ?_ ?_ ?_
  · exact ⟨[], [], a, b, _, rfl, f3 _ _ (by simpa using off.o1) (e2 _ _ hx0), .nil, Nat.le_refl _, rfl, by simp [cntB], by simp [clB], (Fr.of e2).trans (f3.sub (by simp)), g2.fr f3 R3⟩
  · rintro i σ' H' hi ⟨bd, xs, a', b', u, rfl, hxs, hall, hlen, hgo, hc, hcl, hf, g'⟩
    have hl' : SqL K H' l [.int (a' : Int), .int (b' : Int)] := SqL.of g'.lft
    dsimp only
    refine Pst.go (K := K) ?_
    refine pst_if (K := K) (b := decide (0 < (a' : Int))) ?_ (fun hb => ?_) (fun hb => ?_)
    · walk_at "et"
    · simp at hb
      obtain ⟨a1, rfl⟩ : ∃ a1, a' = a1 + 1 := ⟨a' - 1, by omega⟩
      apply pst_setI
      · rfl
      · exact g'.lft
      · walk_at "ev"
      · walk_at "ev"
      · rfl
      intro H4 e4
      have g4 : Gs K s r sh l ns shs a1 b' (upd H4 l (.lst [.int (((a1 + 1 : Nat) : Int) - 1), .int (b' : Int)])) := (g'.ex e4).setl (by omega) rfl
      have f4 : Fr [fl, r, l] H1 (upd H4 l (.lst [.int (((a1 + 1 : Nat) : Int) - 1), .int (b' : Int)])) := (hf.trans (Fr.of e4)).trans (Fr.upd (by simp))
      have hx4 : upd H4 l (.lst [.int (((a1 + 1 : Nat) : Int) - 1), .int (b' : Int)]) fl = some (.lst xs) := by
        rw [upd_ne off.o2]
        exact e4 _ _ hxs
      have ht4 := (hall.ex e4).kp (Keep.upd (o := .lst [.int (((a1 + 1 : Nat) : Int) - 1), .int (b' : Int)]) (g'.ex e4).lft True.intro)
      show Pst K _ _ _ (upd H4 l (.lst [.int (((a1 + 1 : Nat) : Int) - 1), .int (b' : Int)]))
      generalize upd H4 l (.lst [.int (((a1 + 1 : Nat) : Int) - 1), .int (b' : Int)]) = H5 at *
      refine pst_of fun H6 e6 => ?_
      have g6 := g4.ex e6
      refine w_app rfl (e6 _ _ hx4) (w_step g6 hn ho hat rfl rfl ?_ rfl ?_ fun st x H7 a2 b2 q1 q2 q3 f7 g7 t7 => ?_)
      · walk_at "ev"
      · walk_at "ev"
      have hx7 : H7 fl = some (.lst xs) := f7 _ _ (by simp [off.o1, off.o2]) (e6 _ _ hx4)
      have ht7 := (ht4.ex e6).kp (g6.keep f7)
      refine ⟨xs, hx7, by rw [hall.length, encB_length]; exact sz_lt (by omega), bd ++ [st], xs ++ [x], a2, b2, _, rfl, upd_same, ?_, by simp; omega, goB_app hgo (by simp [goB, q1]), ?_, ?_, ((f4.trans (Fr.of e6)).trans (f7.sub (by simp))).trans (Fr.upd (by simp)), g7.updo off hx7⟩
      · have kk : Keep K H7 (upd H7 fl (.lst (xs ++ [x]))) := Keep.upd hx7 True.intro
        rw [encB_map, List.map_append, ← encB_map]
        exact (ht7.kp kk).snoc (t7.kp kk)
      · rw [cntB_app]; simp only [cntB]; omega
      · rw [clB_app]; simp only [clB]; omega
    · refine pst_of fun H4 e4 => ?_
      exact ⟨bd, xs, a', b', _, rfl, e4 _ _ hxs, hall.ex e4, by omega, hgo, hc, hcl, hf.trans (Fr.of e4), g'.ex e4⟩
  · rintro σ' H' ⟨bd, xs, a', b', u, rfl, hxs, hall, hlen, hgo, hc, hcl, hf, g'⟩
    dsimp only
    refine w_ret (w_d (ed_tupL (edr_var rfl (SqL.of hxs) hall)) fun v H4 e4 t4 => ?_)
    exact k bd v H4 a' b' (by omega) hgo hc hcl (((Fr.of e1).trans hf).fresh hfl |>.trans (Fr.of e4)) (g'.ex e4) t4
end
end Hw

set_option maxRecDepth 100000
set_option maxHeartbeats 4000000
/-! PG4: drawn steps -/
namespace Hw
open PySem PySem.Spec PyProof.Rows L2 Evl
local macro_rules | `(tactic| walk_at "dd") => `(tactic| first | rfl | decide | (simp; done) | omega)
local macro_rules | `(tactic| walk_at "td") => `(tactic| first | assumption | exact Td.int _ | exact Td.bl _ | exact Td.str _ | exact Td.non | exact Td.tup (by assumption) (by assumption))
local macro_rules | `(tactic| walk_at "ev") => `(tactic| first
  | exact ed_ci | exact ed_cs | exact ed_cb | exact ed_cn
  | (apply ed_cg; assumption)
  | (apply ed_var; (rfl); (walk_at "td"))
  | (apply ed_ixT; (walk_at "ev"); (walk_at "ev"); (first | rfl | assumption))
  | (apply ed_rowI; (rfl); (assumption); (walk_at "ev"); (rfl))
  | (apply ed_ixL; (apply EvDL.rd; walk_at "edl"); (walk_at "ev"); (rfl))
  | (apply ed_intb; (walk_at "ev"))
  | (apply ed_len; walk_at "ev")
  | (apply ed_lenV; (apply ev_rowR; (rfl); (assumption); (walk_at "ev"); (rfl)); (assumption))
  | (apply ed_Ii; (walk_at "ev"); (walk_at "ev"); (walk_at "cc"))
  | (apply ed_isi; (walk_at "ev"); (rfl))
  | (apply ed_I0i; (walk_at "ev"); (walk_at "ev"))
  | (apply ed_I0b; (walk_at "ev"); (walk_at "ev"))
  | (apply ed_eqi; (walk_at "ev"); (walk_at "ev"))
  | (apply ed_nei; (walk_at "ev"); (walk_at "ev"))
  | (apply ed_andF; walk_at "ev")
  | (apply ed_andV; (walk_at "ev"); (intro _; walk_at "ev"))
  | (apply ed_orT; walk_at "ev")
  | (apply ed_orV; (walk_at "ev"); (intro _; walk_at "ev"))
  | (apply ed_notT; walk_at "ev")
  | (apply ed_notF; walk_at "ev")
  | (apply ed_notV; walk_at "ev")
  | (apply ed_chain; (walk_at "ev"); (walk_at "ev"); (intro _; walk_at "ev"))
  | (apply ed_eqS; (walk_at "ev"); (walk_at "ev"); (walk_at "bb"); (walk_at "bb"))
  | (apply ed_neS; (walk_at "ev"); (walk_at "ev"); (walk_at "bb"); (walk_at "bb"))
  | (apply ed_inT; (walk_at "ev"); (walk_at "ev"); (rfl); (rfl))
  | (apply ed_niT; (walk_at "ev"); (walk_at "ev"); (rfl); (rfl))
  | (apply ed_tup; (walk_at "eva"); (walk_at "bb"))
  | (apply ed_sl; (walk_at "ev"); (walk_at "evo"); (walk_at "evo"))
  | (apply ed_eqN; (apply EvDL.rd; walk_at "edl"); (walk_at "edl"); (walk_at "bb"))
  | (apply ed_neN; (apply EvDL.rd; walk_at "edl"); (walk_at "edl"); (walk_at "bb"))
  | (apply ed_ixL; (apply edr_var; (rfl); (assumption); (assumption)); (walk_at "ev"); (first | rfl | assumption))
  | (apply ed_lenL; (apply edr_var; (rfl); (assumption); (assumption)))
  | (apply ed_call; (walk_at "eva"); (walk_at "post")))
local macro_rules | `(tactic| walk_at "edl") => `(tactic| first
  | assumption
  | (apply edl_lst; (walk_at "eva"); (walk_at "bb")))
local macro_rules | `(tactic| walk_at "eva") => `(tactic| first
  | exact eda_nil
  | (apply eda_cons; (walk_at "ev"); (walk_at "eva")))
local macro_rules | `(tactic| walk_at "evo") => `(tactic| first
  | exact eok_none
  | (apply eok_some; walk_at "ev"))
local macro_rules | `(tactic| walk_at "bb") => `(tactic| first | rfl | assumption | (simp; done) | (simp; omega) | decide +kernel)
local macro_rules | `(tactic| walk_at "et") => `(tactic| first
  | exact tk_yes
  | (apply tk_andF; walk_at "et")
  | (apply tk_and; (walk_at "et"); (intro _; walk_at "et"))
  | (apply tk_orT; walk_at "et")
  | (apply tk_or; (walk_at "et"); (intro _; walk_at "et"))
  | (apply tk_notT; walk_at "et")
  | (apply tk_notF; walk_at "et")
  | (apply tk_not; walk_at "et")
  | (apply tk_v; walk_at "ev")
  | (apply tk_vB; walk_at "ev"))
local macro_rules | `(tactic| walk_at "if") => `(tactic| first
  | (apply pst_whenF; (walk_at "et"); (walk_at "bb"))
  | (apply pst_whenT; (walk_at "et"); (walk_at "bb")))
local macro_rules | `(tactic| walk_at "post") => `(tactic| first | assumption | exact ⟨_, _, rfl, rfl⟩ | exact ⟨_, _, _, _, rfl, by omega, by omega, rfl⟩ | exact ⟨_, _, _, 0, rfl, by omega, by omega, rfl⟩)
local macro_rules | `(tactic| walk_at "cc") => `(tactic| first | assumption | decide | omega | (refine ⟨?_, ?_⟩ <;> first | decide | omega) | (exact Or.inl (by constructor <;> omega)))

def spThings (K : PySem.W.Frag) : Sp := fun vs H Q E => ∃ n, n ≤ 2 ∧ spThing K n vs H Q E
section
variable {K : PySem.W.Frag} {σ : L2.St} {H H' : Hp} {te tx : TE} {Q : VK} {r s : Addr} {ns : List Int} {E : XK} {n : Nat}
theorem w_things {m ps os : Nat} (hm2 : m ≤ 2) (hs : σ[n]? = some (some (.ref r))) (hR : RowAt K s ns H r) (hn : ns.length ≤ 63) (hz : EvD K tx σ H (szD ps os)) (hp : ps ≤ 99) (ho : os ≤ 99) (hm : EvD K te σ H (.int (m : Int)))
    (k : ∀ t x H', wfT ps os t = true → dpT t ≤ m + 1 → Fr [r] H H' → RowAt K s ns H' r → Td K H' x (encT t) → Q x H') : tCall (spThings K) [] E (tCons (tVar n) (tCons tx (tCons te tNil))) σ H Q :=
  ⟨.ref r, hs, hz H (Ex.refl H) _ fun v H1 e1 tv => hm.iv H1 e1 _ fun H2 e2 => ⟨m, hm2, r, s, ns, v, ps, os, rfl, hR.ex (e1.trans e2), hn, tv.ex e2, hp, ho, fun t x H' h1 h2 hf hR' td => k t x H' h1 h2 ((Fr.of (e1.trans e2)).trans hf) hR' td⟩⟩
end
section
variable {P : Program} {w : World} {K : PySem.W.Frag} {mg : Str → Option Value} {base : Heap} (T : Tx K mg)
include T
theorem ok_step {n lv : Nat} (hl : 4 ≤ lv) (spI : Sp) (hspI : 0 < n → spI = spBody K (n - 1)) (GB : Fn__law_body T P w base CX0 lv spI) (GT : Fn__law_taken T P w base CX0 1 (spTaken K)) (GH : Fn__law_thing T P w base CX0 4 (spThings K)) (GP : Fn__law_place T P w base CX0 4 (spPlace K 1)) :
    Fn__law_step T P w base CX0 (lv + 1) (spStep K n) := by
  have G__law_body := GB
  have G__law_taken := GT
  have G__law_thing := GH
  have G__law_place := GP
  refine T.F__law_step.ok sc__law_step (fun vs H Q E h => by obtain ⟨r, s, sh, l, ns, shs, at_, a, b, rfl, _⟩ := h; rfl) fun cdv A outer s0 H vs Q E hr h => ?_
  obtain ⟨r, s, sh, l, ns, shs, at_, a, b, rfl, g, hn, ho, hat, k⟩ := h
  refine ⟨_, (pss_cons (ps_set (i := 5) sc__law_step.nd rfl (Or.inl rfl) (pe_ix (kix_list K) (pv 1) (pv 2) (fun _ _ => rfl)))
  (pss_cons (ps_set (i := 6) sc__law_step.nd rfl (Or.inl rfl) (pe_call G__law_taken (hr.mono (by omega)) (by rfl) T.g__law_taken T.k__law_taken T.bd__law_taken .nil pass0 (pa_cons (pv 0) (pa_cons pe_int pa_nil))))
  (pss_cons (ps_if (PW.pt (pw_and (pt_cmpR op_gt (pv 6) pe_int (nomark _)) (pw_and (pt_cmpR op_lt (pe_op op_add (pv 2) pe_int) (pe_callB (kc_len K) rfl T.b_len PySem.boot_len (pa_cons (pv 1) pa_nil)) (nomark _)) (pw_and1 (pt_cmpR op_gt (pe_ix (kix_list K) (pv 3) pe_int (fun _ _ => rfl)) pe_int (nomark _))))))
    (pss_cons (ps_asg (pe_op op_sub (pe_ix (kix_list K) (pv 3) pe_int (fun _ _ => rfl)) pe_int) (pg_sub (pv 3) pe_int set_list))
    (pss_cons (ps_set (i := 7) sc__law_step.nd rfl (Or.inl rfl) (pe_op op_add (pe_op op_add (pv 2) pe_int) (pe_call G__law_taken (hr.mono (by omega)) (by rfl) T.g__law_taken T.k__law_taken T.bd__law_taken .nil pass0 (pa_cons (pv 0) (pa_cons (pe_op op_sub (pe_op op_sub (pe_callB (kc_len K) rfl T.b_len PySem.boot_len (pa_cons (pv 1) pa_nil)) (pv 2)) pe_int) pa_nil)))))
    (pss_cons (ps_set (i := 8) sc__law_step.nd rfl (Or.inl rfl) (pe_lst pa_nil))
    (pss_cons (ps_for (passes_of rfl) rfl (pi_range1 rfl T.b_range (pa_cons (pe_ix (kix_tup K) (pe_ix (kix_list K) (pv 1) (pv 7) (fun _ _ => rfl)) pe_int (fun _ _ => rfl)) pa_nil)) (pg_name (i := 9) sc__law_step.nd rfl (Or.inl rfl))
      (pss_cons (ps_set (i := 10) sc__law_step.nd rfl (Or.inl rfl) (pe_call G__law_thing (hr.mono (by omega)) (by rfl) T.g__law_thing T.k__law_thing T.bd__law_thing .nil pass0 (pa_cons (pv 0) (pa_cons (pv 5) (pa_cons pe_int pa_nil)))))
      (pss_one (ps_expr (pe_bm PySem.F.plainAttrs_list PySem.F.slot_list_append PySem.F.type_list_append mt_append (pv 8) (pa_cons (pe_ifExp (pt_cmpR op_eq (pe_call G__law_taken (hr.mono (by omega)) (by rfl) T.g__law_taken T.k__law_taken T.bd__law_taken .nil pass0 (pa_cons (pv 0) (pa_cons pe_int pa_nil))) pe_int (nomark _)) (pv 10) (pe_call G__law_place (hr.mono (by omega)) (by rfl) T.g__law_place T.k__law_place T.bd__law_place .nil pass0 (pa_cons (pv 0) (pa_cons (pv 5) (pa_cons pe_int pa_nil))))) pa_nil))))))
    (pss_one (ps_ret (pe_tup (pa_cons pe_str (pa_cons (pv 7) (pa_cons (pe_callTy (kc_tuple K) rfl T.b_tuple (by decide +kernel) (pa_cons (pv 8) pa_nil)) pa_nil))))))))))
    pss_nil)
  (pss_cons (ps_if (PW.pt (pw_and (pt_cmpR op_eq (pv 6) pe_int (nomark _)) (pw_and1 (pt_cmpR op_gt (pv 4) pe_int (nomark _)))))
    (pss_cons (ps_set (i := 11) sc__law_step.nd rfl (Or.inl rfl) (pe_call G__law_body (hr.mono (by omega)) (by rfl) T.g__law_body T.k__law_body T.bd__law_body .nil pass0 (pa_cons (pv 0) (pa_cons (pv 1) (pa_cons (pv 2) (pa_cons (pv 3) (pa_cons (pe_op op_sub (pv 4) pe_int) pa_nil)))))))
    (pss_one (ps_ret (pe_tup (pa_cons pe_str (pa_cons (pe_call G__law_thing (hr.mono (by omega)) (by rfl) T.g__law_thing T.k__law_thing T.bd__law_thing .nil pass0 (pa_cons (pv 0) (pa_cons (pv 5) (pa_cons pe_int pa_nil)))) (pa_cons (pv 11) (pa_cons (pe_call G__law_body (hr.mono (by omega)) (by rfl) T.g__law_body T.k__law_body T.bd__law_body .nil pass0 (pa_cons (pv 0) (pa_cons (pv 1) (pa_cons (pv 2) (pa_cons (pv 3) (pa_cons (pe_op op_sub (pv 4) pe_int) pa_nil)))))) pa_nil))))))))
    pss_nil)
  (pss_cons (ps_if (pt_cmpR op_eq (pv 6) pe_int (nomark _))
    (pss_one (ps_ret (pe_tup (pa_cons pe_str (pa_cons (pe_call G__law_thing (hr.mono (by omega)) (by rfl) T.g__law_thing T.k__law_thing T.bd__law_thing .nil pass0 (pa_cons (pv 0) (pa_cons (pv 5) (pa_cons pe_int pa_nil)))) pa_nil)))))
    pss_nil)
  (pss_one (ps_ret (pe_tup (pa_cons pe_str (pa_cons (pe_call G__law_place (hr.mono (by omega)) (by rfl) T.g__law_place T.k__law_place T.bd__law_place .nil pass0 (pa_cons (pv 0) (pa_cons (pv 5) (pa_cons pe_int pa_nil)))) (pa_cons (pe_call G__law_thing (hr.mono (by omega)) (by rfl) T.g__law_thing T.k__law_thing T.bd__law_thing .nil pass0 (pa_cons (pv 0) (pa_cons (pv 5) (pa_cons pe_int pa_nil)))) pa_nil))))))))))), ?_⟩
  obtain ⟨⟨ps, os⟩, hsz⟩ : ∃ z, shs[at_]? = some z := ⟨_, List.getElem?_eq_getElem hat⟩
  have hbd := ho.2 _ (List.mem_of_getElem? hsz)
  have hps : ps ≤ 99 := Nat.le_trans hbd.1 (by decide)
  have hos : os ≤ 99 := Nat.le_trans hbd.2 (by decide)
  have eP : shP shs at_ = ps := by simp [shP, List.getD, hsz]
  have eO : shO shs at_ = os := by simp [shO, List.getD, hsz]
  have goes : ∀ {t : Th}, wfT ps os t = true → dpT t ≤ 3 → goT shs at_ t = true := fun h1 h2 => by
    unfold goT
    rw [eP, eO, h1, decide_eq_true h2]
    rfl
  obtain ⟨sxs, hsx, hsa⟩ := g.shp
  have hat2 : atI (shs.map fun x => szD x.1 x.2) (at_ : Int) = some (szD ps os) := atI_nat (by rw [List.getElem?_map, hsz] <;> rfl)
  refine Pst.go (K := K) ?_
  refine pst_asg (d := szD ps os) ?_ fun vz H1 e1 tz => ?_
  · have hsl : SqL K H sh sxs := SqL.of hsx
    walk_at "ev"
  refine pst_of fun H2 e2 => ?_
  have g2 := g.ex (e1.trans e2)
  refine w_seq (w_asg (w_taken rfl g2.row hn (m := 10) ?_ (by decide) (by decide) fun way H3 hway f3 R3 => ?_))
  · walk_at "ev"
  have g3 := g2.fr f3 R3
  have tz3 : Td K H3 vz (szD ps os) := (tz.ex e2).kp (g2.row.keep f3)
  have fr3 : Fr [r, l] H H3 := (Fr.of (e1.trans e2)).trans f3.rl
  clear g2 f3 R3 tz e1 e2 hsx hsa
  obtain ⟨sxs, hsx, hsa⟩ := g3.shp
  have hsl : SqL K H3 sh sxs := SqL.of hsx
  have hll : SqL K H3 l [.int (a : Int), .int (b : Int)] := SqL.of g3.lft
  dsimp only
  refine Pst.go (K := K) ?_
  apply pst_when
  · walk_at "et"
  · intro hb
    simp only [Bool.and_eq_true, decide_eq_true_eq] at hb
    rw [List.length_map] at hb
    obtain ⟨b1, rfl⟩ : ∃ b1, b = b1 + 1 := ⟨b - 1, by omega⟩
    apply pst_setI
    · rfl
    · exact g3.lft
    · walk_at "ev"
    · walk_at "ev"
    · rfl
    intro H4 e4
    have g4 : Gs K s r sh l ns shs a b1 (upd H4 l (.lst [.int (a : Int), .int (((b1 + 1 : Nat) : Int) - 1)])) := (g3.ex e4).setl rfl (by omega)
    have f4 : Fr [r, l] H (upd H4 l (.lst [.int (a : Int), .int (((b1 + 1 : Nat) : Int) - 1)])) := (fr3.trans (Fr.of e4)).trans (Fr.upd (by simp))
    have tz4 := (tz3.ex e4).kp (Keep.upd (o := .lst [.int (a : Int), .int (((b1 + 1 : Nat) : Int) - 1)]) (g3.ex e4).lft True.intro)
    show Pst K _ _ _ (upd H4 l (.lst [.int (a : Int), .int (((b1 + 1 : Nat) : Int) - 1)]))
    generalize upd H4 l (.lst [.int (a : Int), .int (((b1 + 1 : Nat) : Int) - 1)]) = H5 at *
    clear hsx hsa hsl hll
    obtain ⟨sxs, hsx, hsa⟩ := g4.shp
    have hsl : SqL K H5 sh sxs := SqL.of hsx
    refine pst_of fun H6 e6 => ?_
    have g6 := g4.ex e6
    have hsl6 : SqL K H6 sh sxs := ex_l e6 hsl
    have hsa6 := hsa.ex e6
    refine w_seq (w_asg (w_op (w_d (K := K) (d := .int ((at_ : Int) + 1)) ?_ fun v7 H7 e7 t7 => ?_)))
    · walk_at "ev"
    cases t7
    have hsl7 : SqL K H7 sh sxs := ex_l e7 hsl6
    have hsa7 := hsa6.ex e7
    have g7 := g6.ex e7
    refine w_taken rfl g7.row hn (m := (shs.length : Int) - (at_ : Int) - 1) ?_ (by omega) (by have := ho.1; omega) fun kw H8 hkw f8 R8 => ?_
    · apply ed_is
      · walk_at "ev"
      · rw [List.length_map]
    refine ⟨_, _, rfl, rfl, ?_⟩
    have g8 := g7.fr f8 R8
    have tz8 : Td K H8 vz (szD ps os) := ((tz4.ex e6).ex e7).kp (g7.row.keep f8)
    have fr8 : Fr [r, l] H H8 := ((f4.trans (Fr.of e6)).trans (Fr.of e7)).trans f8.rl
    obtain ⟨c, hc⟩ : ∃ c : Nat, c = at_ + 1 + kw := ⟨_, rfl⟩
    have ec : ((at_ : Int) + 1 + (kw : Int)) = (c : Int) := by omega
    have hcl : c < shs.length := by omega
    obtain ⟨⟨cp, co⟩, hcz⟩ : ∃ z, shs[c]? = some z := ⟨_, List.getElem?_eq_getElem hcl⟩
    have hcp : cp ≤ 3 := (ho.2 _ (List.mem_of_getElem? hcz)).1
    have ecp : shP shs c = cp := by simp [shP, List.getD, hcz]
    have hcat : atI (shs.map fun x => szD x.1 x.2) (c : Int) = some (.tuple [.int (cp : Int), .int (co : Int)]) := atI_nat (by rw [List.getElem?_map, hcz] <;> rfl)
    dsimp only
    rw [ec]
    refine Pst.go (K := K) ?_
    refine pst_asgL (edl_lst eda_nil (by simp)) fun fl xs0 H9 hfl e9 hx0 ht0 => ?_
    cases ht0
    have off := g8.off hfl
    have g9 := g8.ex e9
    refine pst_of fun H10 e10 => ?_
    have g10 := g9.ex e10
    clear hsx hsa hsl hsl6 hsa6 hsl7 hsa7
    obtain ⟨sxs, hsx, hsa⟩ := g10.shp
    have hsl : SqL K H10 sh sxs := SqL.of hsx
    refine w_seq (w_forR (K := K) (n := cp) ?_ (by omega) (fun i σ' H' => ∃ (ts : List Th) (xs : List V) (u1 u2 u3 : Option V), σ' = [some (.ref r), some (.ref sh), some (.int (at_ : Int)), some (.ref l), some (.int (n : Int)), some vz, some (.int (way : Int)), some (.int (c : Int)), some (.ref fl), u1, u2, u3] ∧ H' fl = some (.lst xs) ∧ TdAll K H' xs (ts.map encT) ∧ ts.length = i ∧ ts.all (goT shs at_) = true ∧ Fr [fl, r, l] H9 H' ∧ Td K H' vz (szD ps os) ∧ Gs K s r sh l ns shs a b1 H') ?_ ?_ ?_)
    · apply eda_cons
      · walk_at "ev"
      · exact eda_nil
    · intro H11 e11
      exact ⟨[], [], _, _, _, rfl, e11 _ _ (e10 _ _ hx0), .nil, rfl, rfl, (Fr.of e10).trans (Fr.of e11), ((tz8.ex e9).ex e10).ex e11, g10.ex e11⟩
    · rintro i σ' H' hi ⟨ts, xs, u1, u2, u3, rfl, hxs, hall, hlen, hgo, hf, tz', g'⟩
      refine w_seq (w_asg (w_things (m := 1) (ps := ps) (os := os) (by decide) rfl g'.row hn ?_ hps hos ?_ fun t xt H11 wt dt f11 R11 tt => ?_))
      · walk_at "ev"
      · exact ed_ci
      have g11 := g'.fr f11 R11
      have hx11 : H11 fl = some (.lst xs) := f11 _ _ (by simpa using off.o1) hxs
      have k11 := g'.row.keep f11
      dsimp only
      refine w_app rfl hx11 (w_if (w_test (w_op (w_taken rfl R11 hn (m := 3) ?_ (by decide) (by decide) fun kk H12 hkk f12 R12 => ?_))))
      · walk_at "ev"
      refine ⟨by rfl, decide (V.int (kk : Int) = V.int 2), rfl, ?_⟩
      have g12 := g11.fr f12 R12
      have hx12 : H12 fl = some (.lst xs) := f12 _ _ (by simpa using off.o1) hx11
      have k12 := R11.keep f12
      have hfin : ∀ (t : Th) (x : V) (H13 : Hp), goT shs at_ t = true → Fr [r] H12 H13 → RowAt K s ns H13 r → Td K H13 x (encT t) → ∃ xs, H13 fl = some (.lst xs) ∧ xs.length < sizeLine ∧ (∃ (ts : List Th) (xs' : List V) (y1 y2 y3 : Option V), ([some (V.ref r), some (.ref sh), some (.int (at_ : Int)), some (.ref l), some (.int (n : Int)), some vz, some (.int (way : Int)), some (.int (c : Int)), some (.ref fl), some (.int (i : Int)), some xt, u3] : L2.St) = [some (.ref r), some (.ref sh), some (.int (at_ : Int)), some (.ref l), some (.int (n : Int)), some vz, some (.int (way : Int)), some (.int (c : Int)), some (.ref fl), y1, y2, y3] ∧ upd H13 fl (.lst (xs ++ [x])) fl = some (.lst xs') ∧ TdAll K (upd H13 fl (.lst (xs ++ [x]))) xs' (ts.map encT) ∧ ts.length = i + 1 ∧ ts.all (goT shs at_) = true ∧ Fr [fl, r, l] H9 (upd H13 fl (.lst (xs ++ [x]))) ∧ Td K (upd H13 fl (.lst (xs ++ [x]))) vz (szD ps os) ∧ Gs K s r sh l ns shs a b1 (upd H13 fl (.lst (xs ++ [x])))) := by
        intro t x H13 hg f13 R13 t13
        have hx13 : H13 fl = some (.lst xs) := f13 _ _ (by simpa using off.o1) hx12
        have k13 := R12.keep f13
        have kk : Keep K H13 (upd H13 fl (.lst (xs ++ [x]))) := Keep.upd hx13 True.intro
        refine ⟨xs, hx13, by rw [hall.length, List.length_map]; exact sz_lt (by omega), ts ++ [t], xs ++ [x], _, _, _, rfl, upd_same, ?_, by simp [hlen], by simp [hgo, hg], (((hf.trans (f11.sub (by simp))).trans (f12.sub (by simp))).trans (f13.sub (by simp))).trans (Fr.upd (by simp)), ((((tz'.kp k11).kp k12).kp k13).kp kk), (g12.fr f13 R13).updo off hx13⟩
        rw [List.map_append]
        exact ((((hall.kp k11).kp k12).kp k13).kp kk).snoc (t13.kp kk)
      by_cases hk2 : V.int (kk : Int) = V.int 2
      · rw [decide_eq_true hk2]
        refine iteT (w_v rfl ?_)
        exact hfin t xt H12 (goes wt (by omega)) Fr.refl R12 (tt.kp k12)
      · rw [decide_eq_false hk2]
        refine iteF (w_place (m := 1) (ps := ps) (os := os) rfl R12 hn ?_ hps hos ?_ fun t2 x2 H13 w2 i2 d2 f13 R13 t13 => ?_)
        · have tz12 := (tz'.kp k11).kp k12
          walk_at "ev"
        · exact ed_ci
        exact hfin t2 x2 H13 (goes w2 (by omega)) f13 R13 t13
    · rintro σ' H' ⟨ts, xs, u1, u2, u3, rfl, hxs, hall, hlen, hgo, hf, tz', g'⟩
      dsimp only
      have hxl : SqL K H' fl xs := SqL.of hxs
      refine w_ret (w_d (K := K) (d := encS (.call c ts)) ?_ fun v H11 e11 t11 => ?_)
      · unfold encS
        apply ed_tup
        · apply eda_cons
          · walk_at "ev"
          apply eda_cons
          · walk_at "ev"
          apply eda_cons
          · exact ed_tupL (edr_var rfl hxl hall)
          · exact eda_nil
        · simp
      exact k (.call c ts) v H11 a b1 (by simp only [goS, Bool.and_eq_true, decide_eq_true_eq]; exact ⟨by omega, hcl, by rw [ecp, hlen], hgo⟩) (by simp [cntS]; omega) (by simp [clS]; omega) ((fr8.trans ((Fr.of e9).trans hf |>.fresh hfl)).trans (Fr.of e11)) (g'.ex e11) t11
  intro hb
  apply pst_when
  · walk_at "et"
  · intro hb
    simp at hb
    obtain ⟨m, rfl⟩ : ∃ m, n = m + 1 := ⟨n - 1, by omega⟩
    rw [hspI (by omega)]
    have em : m + 1 - 1 = m := by omega
    rw [em]
    refine pst_of fun H4 e4 => ?_
    have g4 := g3.ex e4
    have eI : ∀ (σ : L2.St) H, σ[4]? = some (some (V.int ((m + 1 : Nat) : Int))) → EvD K (tOp (rI0 fun i j => .int (i - j)) (tVar 4) (tC (.int 1))) σ H (.int (m : Int)) := by
      intro σ H hσ
      apply ed_is
      · apply ed_I0i
        · exact ed_var hσ (.int _)
        · walk_at "ev"
      · simp
    refine w_seq (w_asg (w_body g4 hn ho hat rfl rfl ?_ rfl (eI _ _ rfl) fun b1 x1 H5 a5 b5 l1 q1 c1 d1 f5 g5 t5 => ?_))
    · walk_at "ev"
    have tz5 := (tz3.ex e4).kp (g4.keep f5)
    dsimp only
    refine w_ret (w_tup (w_cons (w_c (w_cons (w_things (m := 1) (ps := ps) (os := os) (by decide) rfl g5.row hn ?_ hps hos ed_ci fun t xt H6 wt dt f6 R6 tt => ?_)))))
    · walk_at "ev"
    have g6 := g5.fr f6 R6
    refine w_cons (w_v rfl (w_cons (w_body g6 hn ho hat rfl rfl ?_ rfl (eI _ _ rfl) fun b2 x2 H7 a7 b7 l2 q2 c2 d2 f7 g7 t7 => w_nil ⟨by show 4 ≤ sizeLine; decide, fun p hp => ?_⟩)))
    · walk_at "ev"
    refine k (.ite t b1 b2) _ _ a7 b7 (by simp [goS, goes wt (by omega : dpT t ≤ 3), l1, l2, q1, q2]) (by simp only [cntS]; omega) (by simp only [clS]; omega) (((((fr3.trans (Fr.of e4)).trans f5).trans f6.rl).trans f7).trans (Fr.of (Ex.new hp))) (g7.ex (Ex.new hp)) ?_
    unfold encS
    exact td_new hp (.cons (.str _) (.cons (tt.kp (g6.keep f7)) (.cons ((t5.kp (g5.row.keep f6)).kp (g6.keep f7)) (.cons t7 .nil))))
  intro hb
  apply pst_when
  · walk_at "et"
  · intro hb
    refine pst_of fun H4 e4 => ?_
    have g4 := g3.ex e4
    have tz4 := tz3.ex e4
    refine w_ret (w_tup (w_cons (w_c (w_cons (w_things (m := 2) (ps := ps) (os := os) (by decide) rfl g4.row hn ?_ hps hos ed_ci fun t xt H6 wt dt f6 R6 tt => w_nil ⟨by show 2 ≤ sizeLine; decide, fun p hp => ?_⟩)))))
    · walk_at "ev"
    refine k (.say t) _ _ a b (by simp [goS, goes wt (by omega : dpT t ≤ 3)]) (by simp [cntS]; omega) (by simp [clS]) (((fr3.trans (Fr.of e4)).trans f6.rl).trans (Fr.of (Ex.new hp))) ((g4.fr f6 R6).ex (Ex.new hp)) ?_
    unfold encS
    exact td_new hp (tdall2 (.str _) tt)
  intro hb
  refine pst_of fun H4 e4 => ?_
  have g4 := g3.ex e4
  have tz4 := tz3.ex e4
  refine w_ret (w_tup (w_cons (w_c (w_cons (w_place (m := 1) (ps := ps) (os := os) rfl g4.row hn ?_ hps hos ed_ci fun pt xp H5 wp ip dp f5 R5 tp => ?_)))))
  · walk_at "ev"
  have tz5 := tz4.kp (g4.row.keep f5)
  refine w_cons (w_things (m := 2) (ps := ps) (os := os) (by decide) rfl R5 hn ?_ hps hos ed_ci fun t xt H6 wt dt f6 R6 tt => w_nil ⟨by show 3 ≤ sizeLine; decide, fun p hp => ?_⟩)
  · walk_at "ev"
  refine k (.set pt t) _ _ a b (by simp [goS, goes wp (by omega : dpT pt ≤ 3), ip, goes wt (by omega : dpT t ≤ 3)]) (by simp [cntS]; omega) (by simp [clS]) ((((fr3.trans (Fr.of e4)).trans f5.rl).trans f6.rl).trans (Fr.of (Ex.new hp))) (((g4.fr f5 R5).fr f6 R6).ex (Ex.new hp)) ?_
  unfold encS
  exact td_new hp (tdall3 (.str _) (tp.kp (R5.keep f6)) tt)
end
end Hw

set_option maxRecDepth 100000
set_option maxHeartbeats 4000000
/-! PG5: drawn programs -/
namespace Hw
open PySem PySem.Spec PyProof.Rows L2 Evl
local macro_rules | `(tactic| walk_at "dd") => `(tactic| first | rfl | decide | (simp; done) | omega)
local macro_rules | `(tactic| walk_at "td") => `(tactic| first | assumption | exact Td.int _ | exact Td.bl _ | exact Td.str _ | exact Td.non | exact Td.tup (by assumption) (by assumption))
local macro_rules | `(tactic| walk_at "ev") => `(tactic| first
  | exact ed_ci | exact ed_cs | exact ed_cb | exact ed_cn
  | (apply ed_cg; assumption)
  | (apply ed_var; (rfl); (walk_at "td"))
  | (apply ed_ixT; (walk_at "ev"); (walk_at "ev"); (first | rfl | assumption))
  | (apply ed_rowI; (rfl); (assumption); (walk_at "ev"); (rfl))
  | (apply ed_ixL; (apply EvDL.rd; walk_at "edl"); (walk_at "ev"); (rfl))
  | (apply ed_intb; (walk_at "ev"))
  | (apply ed_len; walk_at "ev")
  | (apply ed_lenV; (apply ev_rowR; (rfl); (assumption); (walk_at "ev"); (rfl)); (assumption))
  | (apply ed_Ii; (walk_at "ev"); (walk_at "ev"); (walk_at "cc"))
  | (apply ed_isi; (walk_at "ev"); (rfl))
  | (apply ed_I0i; (walk_at "ev"); (walk_at "ev"))
  | (apply ed_I0b; (walk_at "ev"); (walk_at "ev"))
  | (apply ed_eqi; (walk_at "ev"); (walk_at "ev"))
  | (apply ed_nei; (walk_at "ev"); (walk_at "ev"))
  | (apply ed_andF; walk_at "ev")
  | (apply ed_andV; (walk_at "ev"); (intro _; walk_at "ev"))
  | (apply ed_orT; walk_at "ev")
  | (apply ed_orV; (walk_at "ev"); (intro _; walk_at "ev"))
  | (apply ed_notT; walk_at "ev")
  | (apply ed_notF; walk_at "ev")
  | (apply ed_notV; walk_at "ev")
  | (apply ed_chain; (walk_at "ev"); (walk_at "ev"); (intro _; walk_at "ev"))
  | (apply ed_eqS; (walk_at "ev"); (walk_at "ev"); (walk_at "bb"); (walk_at "bb"))
  | (apply ed_neS; (walk_at "ev"); (walk_at "ev"); (walk_at "bb"); (walk_at "bb"))
  | (apply ed_inT; (walk_at "ev"); (walk_at "ev"); (rfl); (rfl))
  | (apply ed_niT; (walk_at "ev"); (walk_at "ev"); (rfl); (rfl))
  | (apply ed_tup; (walk_at "eva"); (walk_at "bb"))
  | (apply ed_sl; (walk_at "ev"); (walk_at "evo"); (walk_at "evo"))
  | (apply ed_eqN; (apply EvDL.rd; walk_at "edl"); (walk_at "edl"); (walk_at "bb"))
  | (apply ed_neN; (apply EvDL.rd; walk_at "edl"); (walk_at "edl"); (walk_at "bb"))
  | (apply ed_ixL; (apply edr_var; (rfl); (assumption); (assumption)); (walk_at "ev"); (first | rfl | assumption))
  | (apply ed_lenL; (apply edr_var; (rfl); (assumption); (assumption)))
  | (apply ed_call; (walk_at "eva"); (walk_at "post")))
local macro_rules | `(tactic| walk_at "edl") => `(tactic| first
  | assumption
  | (apply edl_lst; (walk_at "eva"); (walk_at "bb")))
local macro_rules | `(tactic| walk_at "eva") => `(tactic| first
  | exact eda_nil
  | (apply eda_cons; (walk_at "ev"); (walk_at "eva")))
local macro_rules | `(tactic| walk_at "evo") => `(tactic| first
  | exact eok_none
  | (apply eok_some; walk_at "ev"))
local macro_rules | `(tactic| walk_at "bb") => `(tactic| first | rfl | assumption | (simp; done) | (simp; omega) | decide +kernel)
local macro_rules | `(tactic| walk_at "et") => `(tactic| first
  | exact tk_yes
  | (apply tk_andF; walk_at "et")
  | (apply tk_and; (walk_at "et"); (intro _; walk_at "et"))
  | (apply tk_orT; walk_at "et")
  | (apply tk_or; (walk_at "et"); (intro _; walk_at "et"))
  | (apply tk_notT; walk_at "et")
  | (apply tk_notF; walk_at "et")
  | (apply tk_not; walk_at "et")
  | (apply tk_v; walk_at "ev")
  | (apply tk_vB; walk_at "ev"))
local macro_rules | `(tactic| walk_at "if") => `(tactic| first
  | (apply pst_whenF; (walk_at "et"); (walk_at "bb"))
  | (apply pst_whenT; (walk_at "et"); (walk_at "bb")))
local macro_rules | `(tactic| walk_at "post") => `(tactic| first | assumption | exact ⟨_, _, rfl, rfl⟩ | exact ⟨_, _, _, _, rfl, by omega, by omega, rfl⟩ | exact ⟨_, _, _, 0, rfl, by omega, by omega, rfl⟩)
local macro_rules | `(tactic| walk_at "cc") => `(tactic| first | assumption | decide | omega | (refine ⟨?_, ?_⟩ <;> first | decide | omega) | (exact Or.inl (by constructor <;> omega)))

section
variable {K : PySem.W.Frag} {σ : L2.St} {H H' : Hp} {D : Ends} {tu tz : TS} {ta : TA} {te : TE} {Q : VK} {r s p : Addr} {ns : List Int}
theorem w_lst (h : ta σ H fun xs H1 => xs.length ≤ sizeLine ∧ ∀ p, H1 p = none → Q (.ref p) (upd H1 p (.lst xs))) : tLst ta σ H Q := h
/-- one step, by what holds behind it -/
theorem seq_cut (R : L2.St → Hp → Prop) (h2 : ∀ σ' H', R σ' H' → tz D σ' H') (h1 : ∀ N : L2.St → Hp → Prop, (∀ σ' H', R σ' H' → N σ' H') → tu { D with nx := N } σ H) : tSeq tu tz D σ H := h1 _ h2
/-- [e for j in range(n)], whatever e does -/
theorem w_lcR {n j : Nat} {vs : List Nat} (h : EvDA K ta σ H [.int (n : Int)]) (hz : n ≤ 40000) (hw : ∀ x, wipe ((wipe σ vs).set j (some x)) vs = wipe σ vs) (Pv : Addr → Nat → Hp → Prop)
    (h0 : ∀ H1 p, Ex H H1 → H1 p = none → Pv p 0 (upd H1 p (.lst [])))
    (hs : ∀ p i H1, i < n → Pv p i H1 → te ((wipe σ vs).set j (some (.int (i : Int)))) H1 fun y H4 => ∃ acc, H4 p = some (.lst acc) ∧ acc.length < sizeLine ∧ Pv p (i + 1) (upd H4 p (.lst (acc ++ [y]))))
    (hd : ∀ p H1, Pv p n H1 → Q (.ref p) H1) : tLc (iRng1 ta) (gName j) tYes te vs σ H Q := h H (Ex.refl H) _ fun ws H1 e1 tw => by
  obtain _ | ⟨w1, _ | _⟩ := tw
  cases w1
  refine ⟨(n : Int), rfl, by omega, by omega, fun Dl hD => ?_⟩
  have en : ((n : Int)).toNat = n := by simp
  rw [en]
  refine lc_range (lo := 0) (n := n) (fun i H' => Pv Dl i H') (h0 H1 Dl e1 hD) (fun i H' hi c => ?_) (fun H' c => hd Dl H' c)
  have e0 : (0 : Int) + (i : Int) = (i : Int) := Int.zero_add _
  show wipe ((wipe σ vs).set j (some (.int ((0 : Int) + (i : Int))))) vs = wipe σ vs ∧ _
  rw [e0]
  refine ⟨hw _, ?_⟩
  exact hs Dl i H' hi c
theorem w_tupl (h : te σ H fun x H1 => rTupS K [x] H1 Q) : tCB (rTupS K) (tCons te tNil) σ H Q := h
theorem tupl_go {ys : List V} (hp : H p = some (.lst ys)) (h : ∀ l, H l = none → Q (.ref l) (upd H l (.tup ys))) : rTupS K [.ref p] H Q := ⟨p, ys, rfl, .inl ⟨SqL.of hp, h⟩⟩
/-- a list beside the row -/
def OffR (K : PySem.W.Frag) (s r : Addr) (ns : List Int) (p : Addr) : Prop := p ≠ r ∧ (s ≠ p ∨ SqL K (fun _ => none) s (ns.map V.int))
theorem RowAt.off (h : RowAt K s ns H r) (hp : H p = none) : OffR K s r ns p := by
  obtain ⟨p0, q, t, h3, h4, h5⟩ := h
  refine ⟨fun e => ?_, ?_⟩
  · subst e; rw [hp] at h3; cases h3
  · rcases sql_split h4 with ⟨u, h⟩ | h
    · refine .inl fun e => ?_
      subst e; rw [hp] at h; cases h
    · exact .inr h
theorem RowAt.updo {o : HO} (h : RowAt K s ns H r) (f : OffR K s r ns p) : RowAt K s ns (L2.upd H p o) r := by
  obtain ⟨p0, q, t, h3, h4, h5⟩ := h
  refine ⟨p0, q, t, ?_, sql_upd h4 f.2, h5⟩
  rw [upd_ne (Ne.symm f.1)]
  exact h3
theorem Fr.none (f : Fr [r] H H') (R : RowAt K s ns H' r) (hp : H' p = none) : H p = none := by
  cases h : H p with
  | none => rfl
  | some o =>
    by_cases e : p = r
    · subst e
      obtain ⟨u, hu, _⟩ := R.mu
      rw [hp] at hu
      cases hu
    · have := f p o (by simpa using e) h
      rw [hp] at this
      cases this
/-- one of a list of ints, drawn -/
theorem w_pick {ms : List Int} {n : Nat} {tl te : TE} {E : XK} (hl : EvDL K tl σ H (ms.map PyData.int)) (hs : σ[n]? = some (some (.ref r))) (hR : RowAt K s ns H r) (hn : ns.length ≤ 63) (hm : ∀ H, EvD K te σ H (.int (ms.length : Int))) (h0 : 0 < ms.length) (h1 : ms.length ≤ 1000)
    (k : ∀ (m : Int) H', m ∈ ms → Fr [r] H H' → RowAt K s ns H' r → Q (.int m) H') : tOp (rIxL K) tl (tCall (spTaken K) [] E (tCons (tVar n) (tCons te tNil))) σ H Q :=
  w_op (w_dl hl fun p xs H1 hp e1 hx ht => by
    have off := hR.off hp
    have ex := td_ints ht
    subst ex
    refine w_taken hs (hR.ex e1) hn (hm H1) (by omega) (by omega) fun kk H2 hk f2 R2 => ?_
    have hkk : kk < ms.length := by omega
    exact ⟨p, _, (kk : Int), .int ms[kk], rfl, rfl, SqL.of (f2 _ _ (by simpa using off.1) hx), atI_nat (by rw [List.getElem?_map, List.getElem?_eq_getElem hkk] <;> rfl), k _ _ (List.getElem_mem hkk) ((Fr.of e1).trans f2) R2⟩)
/-- the shapes stand at sh -/
def Shp (K : PySem.W.Frag) (sh : Addr) (shs : List (Nat × Nat)) (H : Hp) : Prop := ∃ xs, H sh = some (.lst xs) ∧ TdAll K H xs (shs.map fun x => szD x.1 x.2)
theorem Shp.ex {sh : Addr} {shs : List (Nat × Nat)} (h : Shp K sh shs H) (e : Ex H H') : Shp K sh shs H' := by
  obtain ⟨xs, h1, h2⟩ := h
  exact ⟨xs, e _ _ h1, h2.ex e⟩
theorem Shp.fr {sh : Addr} {shs : List (Nat × Nat)} {S : List Addr} (h : Shp K sh shs H) (f : Fr S H H') (hs : sh ∉ S) (k : Keep K H H') : Shp K sh shs H' := by
  obtain ⟨xs, h1, h2⟩ := h
  exact ⟨xs, f _ _ hs h1, h2.kp k⟩
/-- in the midst of a work: its body so far is bd -/
def Mid (K : PySem.W.Frag) (s r sh fl : Addr) (ns : List Int) (shs : List (Nat × Nat)) (H0 : Hp) (xs : List V) (ds : List PyData) (i cn cl ln : Nat) (bd : List Stm) (x : V) (H : Hp) : Prop :=
  (goB shs i 2 bd = true ∧ cntB bd ≤ cn ∧ clB bd ≤ cl ∧ bd.length ≤ ln) ∧ Td K H x (.tuple (encB bd)) ∧ H fl = some (.lst xs) ∧ TdAll K H xs ds ∧ Fr [fl, r] H0 H ∧ RowAt K s ns H r ∧ Shp K sh shs H
theorem Mid.fr {sh fl : Addr} {shs : List (Nat × Nat)} {H0 : Hp} {xs : List V} {ds : List PyData} {i cn cl ln : Nat} {bd : List Stm} {x : V} (h : Mid K s r sh fl ns shs H0 xs ds i cn cl ln bd x H) (f : Fr [r] H H') (R : RowAt K s ns H' r) (h1 : sh ≠ r) (h2 : fl ≠ r) : Mid K s r sh fl ns shs H0 xs ds i cn cl ln bd x H' := by
  obtain ⟨a, b, c, d, e, g, j⟩ := h
  have k := g.keep f
  exact ⟨a, b.kp k, f _ _ (by simpa using h2) c, d.kp k, e.trans (f.sub (by simp)), R, j.fr f (by simpa using h1) k⟩
theorem Mid.ex {sh fl : Addr} {shs : List (Nat × Nat)} {H0 : Hp} {xs : List V} {ds : List PyData} {i cn cl ln : Nat} {bd : List Stm} {x : V} (h : Mid K s r sh fl ns shs H0 xs ds i cn cl ln bd x H) (e : Ex H H') : Mid K s r sh fl ns shs H0 xs ds i cn cl ln bd x H' := by
  obtain ⟨a, b, c, d, f, g, j⟩ := h
  exact ⟨a, b.ex e, e _ _ c, d.ex e, f.trans (Fr.of e), g.ex e, j.ex e⟩
/-- a step more -/
theorem Mid.go {sh fl : Addr} {shs : List (Nat × Nat)} {H0 : Hp} {xs : List V} {ds : List PyData} {i cn cl ln cn' cl' ln' : Nat} {bd bd' : List Stm} {x x' : V} (h : Mid K s r sh fl ns shs H0 xs ds i cn cl ln bd x H) (hg : goB shs i 2 bd' = true ∧ cntB bd' ≤ cn' ∧ clB bd' ≤ cl' ∧ bd'.length ≤ ln') (t : Td K H x' (.tuple (encB bd'))) : Mid K s r sh fl ns shs H0 xs ds i cn' cl' ln' bd' x' H := ⟨hg, t, h.2.2⟩
end
/-- a drawn work -/
structure GoW (shs : List (Nat × Nat)) (most i : Nat) (w : Wk) : Prop where
  sh : shs[i]? = some (w.params, w.owns)
  go : goB shs i 2 w.body = true
  cnt : cntB w.body ≤ most + 2
  cl : clB w.body ≤ 4
  len : w.body.length ≤ 15
/-- drawn shapes -/
structure GoH (shs : List (Nat × Nat)) : Prop where
  len : 1 ≤ shs.length ∧ shs.length ≤ 4
  fst : shP shs 0 = 0
  ok : ∀ x ∈ shs, x.1 ≤ 3 ∧ x.2 ≤ 10
structure GoP (most : Nat) (p : List Wk) : Prop where
  hs : GoH (shapes p)
  ws : ∀ i w, p[i]? = some w → GoW (shapes p) most i w
def spProg (K : PySem.W.Frag) : Sp := fun vs H Q _ => ∃ (r s : Addr) (ns : List Int) (most : Nat), vs = [.ref r, .int (most : Int)] ∧ RowAt K s ns H r ∧ ns.length ≤ 63 ∧ 2 ≤ most ∧
  ∀ p x H', GoP most p → Fr [r] H H' → RowAt K s ns H' r → Td K H' x (encP p) → Q x H'
theorem goB_take {shs : List (Nat × Nat)} {at_ n : Nat} : ∀ (xs : List Stm) (k : Nat), goB shs at_ n xs = true → goB shs at_ n (xs.take k) = true
  | [], k, _ => by simp [goB]
  | x :: xs, 0, _ => by simp [goB]
  | x :: xs, k + 1, h => by
    simp only [goB, Bool.and_eq_true] at h
    simp only [List.take_succ_cons, goB, h.1, goB_take xs k h.2, Bool.and_self]
theorem cntB_take : ∀ (xs : List Stm) (k : Nat), cntB (xs.take k) ≤ cntB xs
  | [], k => by simp [cntB]
  | x :: xs, 0 => by simp [cntB]
  | x :: xs, k + 1 => by
    have := cntB_take xs k
    simp only [List.take_succ_cons, cntB]
    omega
theorem clB_take : ∀ (xs : List Stm) (k : Nat), clB (xs.take k) ≤ clB xs
  | [], k => by simp [clB]
  | x :: xs, 0 => by simp [clB]
  | x :: xs, k + 1 => by
    have := clB_take xs k
    simp only [List.take_succ_cons, clB]
    omega
theorem cutD_take {xs : List Stm} {k : Nat} : cutD (encB xs) none (some (k : Int)) = encB (xs.take k) := by
  unfold cutD
  rw [HT.sIx_none, HT.sIx_nat, List.drop_zero, Nat.sub_zero, encB_map, encB_map, List.map_take, List.length_map]
  rcases Nat.le_total k xs.length with h | h
  · rw [Nat.min_eq_left h]
  · rw [Nat.min_eq_right h, List.take_of_length_le (by simp), List.take_of_length_le (by simpa using h)]
section
variable {P : Program} {w : World} {K : PySem.W.Frag} {mg : Str → Option Value} {base : Heap} (T : Tx K mg)
include T
theorem ok_program (GT : Fn__law_taken T P w base CX0 1 (spTaken K)) (GP : Fn__law_place T P w base CX0 4 (spPlace K 1)) (GB : Fn__law_body T P w base CX0 11 (spBody K 2)) : Fn__law_program T P w base CX0 12 (spProg K) := by
  have G__law_body := GB
  have G__law_taken := GT
  have G__law_place := GP
  refine T.F__law_program.ok sc__law_program (fun vs H Q E h => by obtain ⟨r, s, ns, most, rfl, _⟩ := h; rfl) fun cdv A outer s0 H vs Q E hr h => ?_
  obtain ⟨r, s, ns, most, rfl, hR, hn, hm2, k⟩ := h
  refine ⟨_, (pss_cons (ps_set (i := 2) sc__law_program.nd rfl (Or.inr rfl) (pe_lst (pa_cons (pe_tup (pa_cons pe_int (pa_cons (pe_call G__law_taken (hr.mono (by omega)) (by rfl) T.g__law_taken T.k__law_taken T.bd__law_taken .nil pass0 (pa_cons (pv 0) (pa_cons pe_int pa_nil))) pa_nil))) pa_nil)))
  (pss_cons (ps_for (passes_of rfl) rfl (pi_range1 rfl T.b_range (pa_cons (pe_call G__law_taken (hr.mono (by omega)) (by rfl) T.g__law_taken T.k__law_taken T.bd__law_taken .nil pass0 (pa_cons (pv 0) (pa_cons pe_int pa_nil))) pa_nil)) (pg_name (i := 3) sc__law_program.nd rfl (Or.inl rfl))
    (pss_cons (ps_set (i := 4) sc__law_program.nd rfl (Or.inl rfl) (pe_call G__law_taken (hr.mono (by omega)) (by rfl) T.g__law_taken T.k__law_taken T.bd__law_taken .nil pass0 (pa_cons (pv 0) (pa_cons (pe_ix (kix_list K) (pe_lst (pa_cons pe_int (pa_cons pe_int (pa_cons pe_int (pa_cons pe_int (pa_cons pe_int (pa_cons pe_int pa_nil))))))) (pe_call G__law_taken (hr.mono (by omega)) (by rfl) T.g__law_taken T.k__law_taken T.bd__law_taken .nil pass0 (pa_cons (pv 0) (pa_cons pe_int pa_nil))) (fun _ _ => rfl)) pa_nil))))
    (pss_one (ps_expr (pe_bm PySem.F.plainAttrs_list PySem.F.slot_list_append PySem.F.type_list_append mt_append (pv 2) (pa_cons (pe_tup (pa_cons (pe_ix (kix_list K) (pe_lst (pa_cons pe_int (pa_cons pe_int (pa_cons pe_int (pa_cons pe_int (pa_cons pe_int pa_nil)))))) (pe_call G__law_taken (hr.mono (by omega)) (by rfl) T.g__law_taken T.k__law_taken T.bd__law_taken .nil pass0 (pa_cons (pv 0) (pa_cons pe_int pa_nil))) (fun _ _ => rfl)) (pa_cons (pv 4) pa_nil))) pa_nil))))))
  (pss_cons (ps_set (i := 5) sc__law_program.nd rfl (Or.inl rfl) (pe_lst pa_nil))
  (pss_cons (ps_for (passes_of rfl) rfl (pi_range1 rfl T.b_range (pa_cons (pe_callB (kc_len K) rfl T.b_len PySem.boot_len (pa_cons (pv 2) pa_nil)) pa_nil)) (pg_name (i := 6) sc__law_program.nd rfl (Or.inr rfl))
    (pss_cons (ps_set (i := 7) sc__law_program.nd rfl (Or.inl rfl) (pe_call G__law_body (hr.mono (by omega)) (by rfl) T.g__law_body T.k__law_body T.bd__law_body .nil pass0 (pa_cons (pv 0) (pa_cons (pv 2) (pa_cons (pv 6) (pa_cons (pe_lst (pa_cons (pv 1) (pa_cons pe_int pa_nil))) (pa_cons pe_int pa_nil)))))))
    (pss_cons (ps_if (PW.pt (pw_and (pt_cmpR op_lt (pe_op op_add (pv 6) pe_int) (pe_callB (kc_len K) rfl T.b_len PySem.boot_len (pa_cons (pv 2) pa_nil)) (nomark _)) (pw_and1 (pt_cmpR op_gt (pe_call G__law_taken (hr.mono (by omega)) (by rfl) T.g__law_taken T.k__law_taken T.bd__law_taken .nil pass0 (pa_cons (pv 0) (pa_cons pe_int pa_nil))) pe_int (nomark _)))))
      (pss_cons (ps_set (i := 8) sc__law_program.nd rfl (Or.inl rfl) (pe_callTy (kc_tuple K) rfl T.b_tuple (by decide +kernel) (pa_cons (pe_lc (own := [("_law_k", 3)]) (g := gName 3) (tt := tYes) rfl sc__law_program.nd (pi_range1 rfl T.b_range (pa_cons (pe_ix (kix_tup K) (pe_ix (kix_list K) (pv 2) (pe_op op_add (pv 6) pe_int) (fun _ _ => rfl)) pe_int (fun _ _ => rfl)) pa_nil)) (blkOk_by (N := ["_law_row", "_law_most", "_law_shapes", "_law_k", "_law_owns", "_law_found", "_law_at", "_law_body_here", "_law_things"]) (sc := defScope s__law_program) (by decide +kernel)) (fun _ _ _ _ _ => (pg_name (i := 3) sc__law_program.nd rfl (Or.inl rfl))) (fun _ _ _ _ _ => pts_nil) (fun _ _ _ _ _ => (pe_call G__law_place (hr.mono (by omega)) (by rfl) T.g__law_place T.k__law_place T.bd__law_place .nil pass0 (pa_cons (pv 0) (pa_cons (pe_ix (kix_list K) (pv 2) (pv 6) (fun _ _ => rfl)) (pa_cons pe_int pa_nil)))))) pa_nil)))
      (pss_one (ps_set (i := 7) sc__law_program.nd rfl (Or.inl rfl) (pe_op (kop_cat K) (pe_slice (ksl_tup K) (pv 7) po_none (po_some (pe_op op_sub (pv 1) pe_int))) (pe_tup (pa_cons (pe_tup (pa_cons pe_str (pa_cons (pe_op op_add (pv 6) pe_int) (pa_cons (pv 8) pa_nil)))) pa_nil))))))
      pss_nil)
    (pss_cons (ps_if (PW.pt (pw_and (pt_cmpR op_gt (pv 6) pe_int (nomark _)) (pw_and (pt_cmpR op_gt (pe_ix (kix_tup K) (pe_ix (kix_list K) (pv 2) (pv 6) (fun _ _ => rfl)) pe_int (fun _ _ => rfl)) pe_int (nomark _)) (pw_and1 (pt_cmpR op_eq (pe_call G__law_taken (hr.mono (by omega)) (by rfl) T.g__law_taken T.k__law_taken T.bd__law_taken .nil pass0 (pa_cons (pv 0) (pa_cons pe_int pa_nil))) pe_int (nomark _))))))
      (pss_one (ps_set (i := 7) sc__law_program.nd rfl (Or.inl rfl) (pe_op (kop_cat K) (pe_slice (ksl_tup K) (pv 7) po_none (po_some (pe_op op_sub (pv 1) pe_int))) (pe_tup (pa_cons (pe_tup (pa_cons pe_str (pa_cons (pe_tup (pa_cons pe_str (pa_cons pe_int pa_nil))) (pa_cons (pe_tup (pa_cons pe_str (pa_cons (pe_tup (pa_cons pe_str (pa_cons pe_int pa_nil))) (pa_cons (pe_tup (pa_cons pe_str (pa_cons pe_int pa_nil))) pa_nil)))) pa_nil)))) pa_nil)))))
      pss_nil)
    (pss_one (ps_expr (pe_bm PySem.F.plainAttrs_list PySem.F.slot_list_append PySem.F.type_list_append mt_append (pv 5) (pa_cons (pe_op (kop_cat K) (pe_ix (kix_list K) (pv 2) (pv 6) (fun _ _ => rfl)) (pe_tup (pa_cons (pv 7) pa_nil))) pa_nil))))))))
  (pss_one (ps_ret (pe_callTy (kc_tuple K) rfl T.b_tuple (by decide +kernel) (pa_cons (pv 5) pa_nil)))))))), ?_⟩
  refine w_seq (w_asg (w_lst (w_cons (w_tup (w_cons (w_c (w_cons (w_taken rfl hR hn (m := 3) ?_ (by decide) (by decide) fun o0 H1 ho0 f1 R1 => w_nil ⟨by show 2 ≤ sizeLine; decide, fun p1 hp1 => w_nil ⟨by show 1 ≤ sizeLine; decide, fun sh hsh => ?_⟩⟩)))))))) 
  · walk_at "ev"
  have hR1 := R1.ex (Ex.new (o := .tup [.int 0, .int (o0 : Int)]) hp1)
  have offs := hR1.off hsh
  have hsh0 : H sh = none := f1.none R1 (fresh_back (Ex.new hp1) hsh)
  have e2 : Ex H1 (upd (upd H1 p1 (.tup [.int 0, .int (o0 : Int)])) sh (.lst [.ref p1])) := (Ex.new hp1).trans (Ex.new hsh)
  have R2 := R1.ex e2
  have f2 := f1.trans (Fr.of e2)
  have ht2 : TdAll K (upd (upd H1 p1 (.tup [.int 0, .int (o0 : Int)])) sh (.lst [.ref p1])) [.ref p1] ([(0, o0)].map fun x => szD x.1 x.2) := .cons ((td_new hp1 (tdall2 (.int 0) (.int _))).ex (Ex.new hsh)) .nil
  have hx2 : upd (upd H1 p1 (.tup [.int 0, .int (o0 : Int)])) sh (.lst [.ref p1]) sh = some (.lst [.ref p1]) := upd_same
  dsimp only
  generalize upd (upd H1 p1 (.tup [.int 0, .int (o0 : Int)])) sh (.lst [.ref p1]) = H2 at *
  refine w_seq (w_forR0 (w_cons (w_taken rfl R2 hn (m := 4) ?_ (by decide) (by decide) fun n1 H3 hn1 f3 R3 => w_nil (rng_go (by omega) (fun i σ' H' => ∃ (shs : List (Nat × Nat)) (xs : List V) (u3 u4 : Option V), σ' = [some (.ref r), some (.int (most : Int)), some (.ref sh), u3, u4, none, none, none, none] ∧ H' sh = some (.lst xs) ∧ TdAll K H' xs (shs.map fun x => szD x.1 x.2) ∧ shs.length = i + 1 ∧ shP shs 0 = 0 ∧ (∀ x ∈ shs, x.1 ≤ 3 ∧ x.2 ≤ 10) ∧ Fr [sh, r] H H' ∧ RowAt K s ns H' r) ?_ ?_ ?_))))
  · walk_at "ev"
  · refine ⟨[(0, o0)], [.ref p1], _, _, rfl, f3 _ _ (by simpa using offs.1) hx2, ht2.kp (R2.keep f3), rfl, rfl, ?_, (f2.trans f3).sub (by simp), R3⟩
    intro x hx
    have : x = (0, o0) := by simpa using hx
    subst this
    exact ⟨by simp, by simp; omega⟩
  · rintro i σ' H' hi ⟨shs, xs, u3, u4, rfl, hxs, hall, hlen, h0, hok, hf, hR'⟩
    refine w_seq (w_asg (w_call (w_cons (w_v rfl (w_cons (w_pick (K := K) (ms := [3, 3, 3, 3, 3, 11]) ?_ rfl hR' hn ?_ (by decide) (by decide) fun m H4 hm f4 R4 => w_nil ⟨r, s, ns, m, rfl, R4, hn, ?_, ?_, fun ow H5 how f5 R5 => ?_⟩))))))
    · exact edl_lst (by walk_at "eva") (by simp)
    · intro H
      exact ed_ci
    · simp at hm; omega
    · simp at hm; omega
    have how10 : ow ≤ 10 := by simp at hm; omega
    have hx5 : H5 sh = some (.lst xs) := f5 _ _ (by simpa using offs.1) (f4 _ _ (by simpa using offs.1) hxs)
    have hall5 := (hall.kp (hR'.keep f4)).kp (R4.keep f5)
    dsimp only
    refine w_app rfl hx5 (w_tup (w_cons (w_pick (K := K) (ms := [1, 2, 2, 3, 0]) ?_ rfl R5 hn ?_ (by decide) (by decide) fun pm H6 hpm f6 R6 => w_cons (w_v rfl (w_nil ⟨by show 2 ≤ sizeLine; decide, fun p hp => ?_⟩)))))
    · exact edl_lst (by walk_at "eva") (by simp)
    · intro H
      exact ed_ci
    obtain ⟨pn, rfl, hpn⟩ : ∃ pn : Nat, pm = (pn : Int) ∧ pn ≤ 3 := ⟨pm.toNat, by simp at hpm; omega, by simp at hpm; omega⟩
    have hx6 : H6 sh = some (.lst xs) := f6 _ _ (by simpa using offs.1) hx5
    have e7 : Ex H6 (upd H6 p (.tup [.int (pn : Int), .int (ow : Int)])) := Ex.new hp
    have t7 : Td K (upd H6 p (.tup [.int (pn : Int), .int (ow : Int)])) (.ref p) (szD pn ow) := td_new hp (tdall2 (.int _) (.int _))
    have hx7 := e7 _ _ hx6
    have hall7 := (hall5.kp (R5.keep f6)).ex e7
    have R7 := R6.ex e7
    have F7 : Fr [sh, r] H (upd H6 p (.tup [.int (pn : Int), .int (ow : Int)])) := (((hf.trans (f4.sub (by simp))).trans (f5.sub (by simp))).trans (f6.sub (by simp))).trans (Fr.of e7)
    generalize upd H6 p (.tup [.int (pn : Int), .int (ow : Int)]) = H7 at *
    have kk : Keep K H7 (upd H7 sh (.lst (xs ++ [.ref p]))) := Keep.upd hx7 True.intro
    refine ⟨xs, hx7, by rw [hall.length, List.length_map]; exact sz_lt (by omega), shs ++ [(pn, ow)], xs ++ [.ref p], _, _, rfl, upd_same, ?_, by simp [hlen], ?_, ?_, F7.trans (Fr.upd (by simp)), R7.updo offs⟩
    · rw [List.map_append]
      exact (hall7.kp kk).snoc (t7.kp kk)
    · cases shs with
      | nil => simp at hlen
      | cons z zs => simpa [shP] using h0
    · intro x hx
      rcases List.mem_append.mp hx with hx | hx
      · exact hok x hx
      · have : x = (pn, ow) := by simpa using hx
        subst this
        exact ⟨hpn, how10⟩
  rintro σ' H' ⟨shs, xs, u3, u4, rfl, hxs, hall, hlen, h0, hok, hf, hR'⟩
  have gh : GoH shs := ⟨by omega, h0, hok⟩
  have hsho : shOk shs := ⟨by omega, hok⟩
  have hshp : Shp K sh shs H' := ⟨xs, hxs, hall⟩
  have ff : Fr [r] H H' := Fr.fresh hf hsh0
  clear hf hxs hall f2 f1 f3 R1 R2 R3 hR1 e2 ht2 hx2
  dsimp only
  refine Pst.go (K := K) ?_
  refine pst_asgL (edl_lst eda_nil (by simp)) fun fl xs0 H8 hfl e8 hx8 ht8 => ?_
  cases ht8
  have offf := hR'.off hfl
  have hshfl : sh ≠ fl := by
    intro e
    obtain ⟨ys, h1, _⟩ := hshp
    rw [e, hfl] at h1
    cases h1
  refine pst_of fun H9 e9 => ?_
  have hshp9 := (hshp.ex e8).ex e9
  obtain ⟨sxs, hsx, hsa⟩ := hshp9
  have hsl : SqL K H9 sh sxs := SqL.of hsx
  refine w_seq (w_forR (K := K) (n := shs.length) ?_ (by have := gh.len; omega) (fun i σ' H1 => ∃ (ws : List Wk) (xs : List V) (u6 u7 u8 : Option V), σ' = [some (.ref r), some (.int (most : Int)), some (.ref sh), u3, u4, some (.ref fl), u6, u7, u8] ∧ H1 fl = some (.lst xs) ∧ TdAll K H1 xs (ws.map encW) ∧ ws.length = i ∧ (∀ j w, ws[j]? = some w → GoW shs most j w) ∧ Fr [fl, r] H9 H1 ∧ RowAt K s ns H1 r ∧ Shp K sh shs H1) ?_ ?_ ?_)
  · apply eda_cons
    · apply ed_is
      · walk_at "ev"
      · rw [List.length_map]
    · exact eda_nil
  · intro H10 e10
    exact ⟨[], [], _, _, _, rfl, e10 _ _ (e9 _ _ hx8), .nil, rfl, by simp, Fr.of e10, ((hR'.ex e8).ex e9).ex e10, ((hshp.ex e8).ex e9).ex e10⟩
  · rintro i σ' H10 hi ⟨ws, xs, u6, u7, u8, rfl, hxs, hall, hlen, hws, hf, hR1, hsp⟩
    obtain ⟨⟨cp, co⟩, hcz⟩ : ∃ z, shs[i]? = some z := ⟨_, List.getElem?_eq_getElem hi⟩
    have hcb := hok _ (List.mem_of_getElem? hcz)
    have ecp : shP shs i = cp := by simp [shP, List.getD, hcz]
    have eco : shO shs i = co := by simp [shO, List.getD, hcz]
    have hcat : atI (shs.map fun x => szD x.1 x.2) (i : Int) = some (.tuple [.int (cp : Int), .int (co : Int)]) := atI_nat (by rw [List.getElem?_map, hcz] <;> rfl)
    have h1 : sh ≠ r := offs.1
    have h2 : fl ≠ r := offf.1
    have goes : ∀ {t : Th}, wfT cp co t = true → dpT t ≤ 3 → goT shs i t = true := fun h1 h2 => by
      unfold goT
      rw [ecp, eco, h1, decide_eq_true h2]
      rfl
    dsimp only
    refine seq_cut (fun σ1 H1 => ∃ bd x, σ1 = [some (.ref r), some (.int (most : Int)), some (.ref sh), u3, u4, some (.ref fl), some (.int (i : Int)), some x, u8] ∧ Mid K s r sh fl ns shs H9 xs (ws.map encW) i most 3 13 bd x H1) ?_ fun N hN => ?_
    · rintro σ1 H11 ⟨bd, x, rfl, M⟩
      refine seq_cut (fun σ1 H1 => ∃ bd x u8, σ1 = [some (.ref r), some (.int (most : Int)), some (.ref sh), u3, u4, some (.ref fl), some (.int (i : Int)), some x, u8] ∧ Mid K s r sh fl ns shs H9 xs (ws.map encW) i (most + 1) 4 14 bd x H1) ?_ fun N hN => ?_
      · clear M
        rintro σ1 H11 ⟨bd, x, u8, rfl, M⟩
        refine seq_cut (fun σ1 H1 => ∃ bd x u8, σ1 = [some (.ref r), some (.int (most : Int)), some (.ref sh), u3, u4, some (.ref fl), some (.int (i : Int)), some x, u8] ∧ Mid K s r sh fl ns shs H9 xs (ws.map encW) i (most + 2) 4 15 bd x H1) ?_ fun N hN => ?_
        · clear M
          rintro σ1 H11 ⟨bd, x, u8, rfl, M⟩
          obtain ⟨⟨g1, g2, g3, g4⟩, tb, hx, ha, hf', hR2, hsp2⟩ := M
          obtain ⟨sxs, hsx, hsa⟩ := hsp2
          have hsl : SqL K H11 sh sxs := SqL.of hsx
          refine w_app rfl hx (w_d (K := K) (d := encW ⟨cp, co, bd⟩) ?_ fun v H12 e12 t12 => ?_)
          · refine ed_is (ed_cat (ds := [.int (cp : Int), .int (co : Int)]) (es := [.tuple (encB bd)]) ?_ ?_ (by simp)) rfl
            · walk_at "ev"
            · walk_at "ev"
          have hx12 := e12 _ _ hx
          have kk : Keep K H12 (upd H12 fl (.lst (xs ++ [v]))) := Keep.upd hx12 True.intro
          refine ⟨xs, hx12, by rw [hall.length, List.length_map]; exact sz_lt (by have := gh.len; omega), ws ++ [⟨cp, co, bd⟩], xs ++ [v], _, _, _, rfl, upd_same, ?_, by simp [hlen], ?_, (hf'.trans (Fr.of e12)).trans (Fr.upd (by simp)), (hR2.ex e12).updo offf, ?_⟩
          · rw [List.map_append]
            exact ((ha.ex e12).kp kk).snoc (t12.kp kk)
          · intro j w hj
            rw [List.getElem?_append] at hj
            split at hj
            · exact hws j w hj
            · rename_i hjl
              have e0 : j - ws.length = 0 := by
                have := List.getElem?_eq_some_iff.mp hj
                obtain ⟨h, _⟩ := this
                simp at h
                exact h
              have ej : j = i := by omega
              rw [e0] at hj
              simp at hj
              subst hj ej
              exact ⟨hcz, g1, g2, g3, g4⟩
          · exact ⟨sxs, by rw [upd_ne hshfl]; exact e12 _ _ hsx, (hsa.ex e12).kp kk⟩
        · -- the second if
          have skip : ∀ H1 bd' x', Mid K s r sh fl ns shs H9 xs (ws.map encW) i (most + 1) 4 14 bd' x' H1 → Mid K s r sh fl ns shs H9 xs (ws.map encW) i (most + 2) 4 15 bd' x' H1 := fun H1 bd' x' M => M.go ⟨M.1.1, by have := M.1; omega, by have := M.1; omega, by have := M.1; omega⟩ M.2.1
          refine w_ifs (w_and (w_t (K := K) (b := decide (0 < (i : Int))) ?_ fun H12 e12 => ?_))
          · walk_at "et"
          have M12 := M.ex e12
          clear M
          by_cases hi0 : 0 < (i : Int)
          · rw [decide_eq_true hi0]
            refine iteT (w_and (w_t (K := K) (b := decide (0 < (cp : Int))) ?_ fun H13 e13 => ?_))
            · obtain ⟨_, _, _, _, _, _, ⟨sxs, hsx, hsa⟩⟩ := M12
              have hsl : SqL K H12 sh sxs := SqL.of hsx
              walk_at "et"
            have M13 := M12.ex e13
            clear M12
            by_cases hc0 : 0 < (cp : Int)
            · rw [decide_eq_true hc0]
              refine iteT (w_test (w_op (w_taken rfl M13.2.2.2.2.2.1 hn (m := 2) ?_ (by decide) (by decide) fun k4 H14 hk4 f14 R14 => w_c ⟨by rfl, _, rfl, ?_⟩)))
              · walk_at "ev"
              have M14 := M13.fr f14 R14 h1 h2
              clear M13
              by_cases hk : V.int (k4 : Int) = V.int 1
              · rw [decide_eq_true hk]
                refine iteT ?_
                have tbd := M14.2.1
                obtain ⟨g1, g2, g3, g4⟩ := M14.1
                refine w_asg (w_d (K := K) (d := .tuple (encB (bd.take (most - 1) ++ [.set (.par 0) (.sum (.par 0) (.num 1))]))) ?_ fun v H16 e16 t16 => ?_)
                · refine ed_is (ed_cat (ds := cutD (encB bd) none (some (((most - 1 : Nat)) : Int))) (es := [.tuple [.str "set", .tuple [.str "par", .int 0], .tuple [.str "sum", .tuple [.str "par", .int 0], .tuple [.str "num", .int 1]]]]) (ed_sl ?_ eok_none (eok_some ?_)) ?_ ?_) ?_
                  · walk_at "ev"
                  · apply ed_is
                    · walk_at "ev"
                    · exact congrArg PyData.int (by omega)
                  · walk_at "ev"
                  · rw [cutD_take, encB_length]
                    simp
                    omega
                  · rw [cutD_take, encB_map, encB_map, List.map_append]
                    simp [encS, encT]
                have hw0 : goT shs i (.par 0) = true := goes (by simp [wfT]; omega) (by simp [dpT])
                have hw1 : goT shs i (.sum (.par 0) (.num 1)) = true := goes (by simp [wfT]; omega) (by simp [dpT])
                refine hN _ _ ⟨_, v, _, rfl, (M14.ex e16).go ⟨goB_app (goB_take _ _ g1) ?_, ?_, ?_, ?_⟩ t16⟩
                · simp only [goB, goS, Bool.and_true, Bool.and_eq_true]
                  exact ⟨hw0, rfl, hw1⟩
                · rw [cntB_app]
                  have := cntB_take bd (most - 1)
                  simp only [cntB, cntS]
                  omega
                · rw [clB_app]
                  have := clB_take bd (most - 1)
                  simp only [clB, clS]
                  omega
                · simp
                  omega
              · rw [decide_eq_false hk]
                exact iteF (hN _ _ ⟨bd, x, _, rfl, skip _ _ _ M14⟩)
            · rw [decide_eq_false hc0]
              exact iteF (iteF (hN _ _ ⟨bd, x, _, rfl, skip _ _ _ M13⟩))
          · rw [decide_eq_false hi0]
            exact iteF (iteF (hN _ _ ⟨bd, x, _, rfl, skip _ _ _ M12⟩))
      · -- the first if
        refine w_ifs (w_and (w_t (K := K) (b := decide ((i : Int) + 1 < (shs.length : Int))) ?_ fun H12 e12 => ?_))
        · obtain ⟨_, _, _, _, _, _, ⟨sxs, hsx, hsa⟩⟩ := M
          have hsl : SqL K H11 sh sxs := SqL.of hsx
          apply tk_is
          · walk_at "et"
          · rw [List.length_map]
        have M12 := M.ex e12
        clear M
        by_cases hlt : (i : Int) + 1 < (shs.length : Int)
        · rw [decide_eq_true hlt]
          refine iteT (w_test (w_op (w_taken rfl M12.2.2.2.2.2.1 hn (m := 4) ?_ (by decide) (by decide) fun k4 H13 hk4 f13 R13 => w_c ⟨_, _, rfl, rfl, _, rfl, ?_⟩)))
          · walk_at "ev"
          have M13 := M12.fr f13 R13 h1 h2
          clear M12
          by_cases hk : 0 < (k4 : Int)
          · rw [decide_eq_true hk]
            refine iteT ?_
            obtain ⟨⟨np, no⟩, hnz⟩ : ∃ z, shs[i + 1]? = some z := ⟨_, List.getElem?_eq_getElem (by omega)⟩
            have hnb := hok _ (List.mem_of_getElem? hnz)
            have enp : shP shs (i + 1) = np := by simp [shP, List.getD, hnz]
            have ei : ((i : Int) + 1) = ((i + 1 : Nat) : Int) := by omega
            have hnat : atI (shs.map fun x => szD x.1 x.2) ((i : Int) + 1) = some (.tuple [.int (np : Int), .int (no : Int)]) := by
              rw [ei]
              exact atI_nat (by rw [List.getElem?_map, hnz] <;> rfl)
            have S13 := M13.2.2.2.2.2
            obtain ⟨sxs, hsx, hsa⟩ := S13.2
            have hsl : SqL K H13 sh sxs := SqL.of hsx
            refine w_seq (w_asg (w_tupl (w_lcR (K := K) (n := np) ?_ (by omega) (fun _ => rfl) (fun p j H14 => H13 p = none ∧ ∃ (ts : List Th) (acc : List V), H14 p = some (.lst acc) ∧ TdAll K H14 acc (ts.map encT) ∧ ts.length = j ∧ ts.all (goT shs i) = true ∧ Fr [p, r] H13 H14 ∧ RowAt K s ns H14 r ∧ Shp K sh shs H14) ?_ ?_ ?_)))
            · apply eda_cons
              · walk_at "ev"
              · exact eda_nil
            · intro H14 p e14 hp
              exact ⟨fresh_back e14 hp, [], [], upd_same, .nil, rfl, rfl, Fr.of (e14.trans (Ex.new hp)), S13.1.ex (e14.trans (Ex.new hp)), S13.2.ex (e14.trans (Ex.new hp))⟩
            · rintro p j H14 hj ⟨hp0, ts, acc, hx, ht, hl, hg, hf14, R14, S14⟩
              have off := S13.1.off hp0
              have hpsh : sh ≠ p := by
                intro e
                rw [e, hp0] at hsx
                cases hsx
              clear hsl hsa
              obtain ⟨sxs, hsx, hsa⟩ := S14
              have hsl : SqL K H14 sh sxs := SqL.of hsx
              refine w_place (m := 1) (ps := cp) (os := co) rfl R14 hn ?_ (by omega) (by omega) ed_ci fun t xt H15 wt it dt f15 R15 tt => ?_
              · unfold szD
                walk_at "ev"
              have hx15 := f15 p _ (by simpa using off.1) hx
              have kk : Keep K H15 (upd H15 p (.lst (acc ++ [xt]))) := Keep.upd hx15 True.intro
              refine ⟨acc, hx15, by rw [ht.length, List.length_map]; exact sz_lt (by omega), hp0, ts ++ [t], acc ++ [xt], upd_same, ?_, by simp [hl], by simp [hg, goes wt (by omega)], (hf14.trans (f15.sub (by simp))).trans (Fr.upd (by simp)), R15.updo off, ⟨sxs, ?_, (hsa.kp (R14.keep f15)).kp kk⟩⟩
              · rw [List.map_append]
                exact ((ht.kp (R14.keep f15)).kp kk).snoc (tt.kp kk)
              · rw [upd_ne hpsh]
                exact f15 _ _ (by simpa using h1) hsx
            · rintro p H14 ⟨hp0, ts, acc, hx, ht, hl, hg, hf14, R14, S14⟩
              refine tupl_go hx fun l hl2 => ?_
              have M15 := (M13.fr (Fr.fresh hf14 hp0) R14 h1 h2).ex (Ex.new (o := .tup acc) hl2)
              have tts : Td K (upd H14 l (.tup acc)) (.ref l) (.tuple (ts.map encT)) := .tup (SqT.of upd_same) (ht.ex (Ex.new hl2))
              generalize upd H14 l (.tup acc) = H15 at *
              dsimp only
              have tbd := M15.2.1
              obtain ⟨g1, g2, g3, g4⟩ := M15.1
              refine w_asg (w_d (K := K) (d := .tuple (encB (bd.take (most - 1) ++ [.call (i + 1) ts]))) ?_ fun v H16 e16 t16 => ?_)
              · refine ed_is (ed_cat (ds := cutD (encB bd) none (some (((most - 1 : Nat)) : Int))) (es := [.tuple [.str "call", .int ((i : Int) + 1), .tuple (ts.map encT)]]) (ed_sl ?_ eok_none (eok_some ?_)) ?_ ?_) ?_
                · walk_at "ev"
                · apply ed_is
                  · walk_at "ev"
                  · exact congrArg PyData.int (by omega)
                · apply ed_tup
                  · apply eda_cons
                    · apply ed_tup
                      · apply eda_cons
                        · walk_at "ev"
                        apply eda_cons
                        · walk_at "ev"
                        apply eda_cons
                        · walk_at "ev"
                        exact eda_nil
                      · simp
                    · exact eda_nil
                  · simp
                · rw [cutD_take, encB_length]
                  simp
                  omega
                · rw [cutD_take, encB_map, encB_map, List.map_append]
                  simp [encS]
              refine hN _ _ ⟨_, v, _, rfl, (M15.ex e16).go ⟨goB_app (goB_take _ _ g1) ?_, ?_, ?_, ?_⟩ t16⟩
              · simp only [goB, goS, Bool.and_true, Bool.and_eq_true, decide_eq_true_eq]
                exact ⟨by omega, by omega, by rw [enp, hl], hg⟩
              · rw [cntB_app]
                have := cntB_take bd (most - 1)
                simp only [cntB, cntS]
                omega
              · rw [clB_app]
                have := clB_take bd (most - 1)
                simp only [clB, clS]
                omega
              · simp
                omega
          · rw [decide_eq_false hk]
            exact iteF (hN _ _ ⟨bd, x, _, rfl, M13.go ⟨M13.1.1, by have := M13.1; omega, by have := M13.1; omega, by have := M13.1; omega⟩ M13.2.1⟩)
        · rw [decide_eq_false hlt]
          exact iteF (iteF (hN _ _ ⟨bd, x, _, rfl, M12.go ⟨M12.1.1, by have := M12.1; omega, by have := M12.1; omega, by have := M12.1; omega⟩ M12.2.1⟩))
    · -- the body
      have offl : ∀ l, H10 l = none → OffR K s r ns l := fun l hl => hR1.off hl
      refine w_asg (w_call (w_cons (w_v rfl (w_cons (w_v rfl (w_cons (w_v rfl ?_)))))))
      refine w_cons (w_lst (w_cons (w_v rfl (w_cons (w_c (w_nil ⟨by show 2 ≤ sizeLine; decide, fun l hl => ?_⟩))))))
      refine w_cons (w_c (w_nil ⟨r, s, sh, l, ns, shs, i, most, 3, rfl, ⟨hR1.ex (Ex.new hl), hsp.ex (Ex.new hl), upd_same, h1, ?_, (offl l hl).1, (offl l hl).2⟩, hn, hsho, hi, fun bd x H11 a' b' q0 q1 q2 q3 f11 g11 t11 => ?_⟩))
      · intro e
        obtain ⟨ys, hy, _⟩ := hsp
        rw [e, hl] at hy
        cases hy
      · have f12 : Fr [r] H10 H11 := Fr.fresh (((Fr.of (Ex.new hl)).trans f11).sub (by simp)) hl
        exact hN _ _ ⟨bd, x, rfl, ⟨q1, by omega, by omega, q0⟩, t11, f12 _ _ (by simpa using h2) hxs, hall.kp (hR1.keep f12), hf.trans (f12.sub (by simp)), g11.row, hsp.fr f12 (by simpa using h1) (hR1.keep f12)⟩
  · rintro σ' H10 ⟨ws, xs, u6, u7, u8, rfl, hxs, hall, hlen, hws, hf, hR1, hsp⟩
    dsimp only
    refine w_ret (w_d (K := K) (ed_tupL (edr_var rfl (SqL.of hxs) hall)) fun v H11 e11 t11 => ?_)
    have esh : shapes ws = shs := by
      unfold shapes
      refine List.ext_getElem? fun j => ?_
      rw [List.getElem?_map]
      cases h : ws[j]? with
      | none =>
        have : shs[j]? = none := by
          rw [List.getElem?_eq_none_iff] at h ⊢
          omega
        rw [this]
        rfl
      | some w => rw [(hws j w h).sh]; rfl
    refine k ws v H11 ⟨by rw [esh]; exact gh, by rw [esh]; exact hws⟩ ((ff.trans (((Fr.of e8).trans ((Fr.of e9).trans hf)).fresh hfl)).trans (Fr.of e11)) (hR1.ex e11) t11
end
end Hw

set_option maxRecDepth 100000
set_option maxHeartbeats 4000000
/-! XA: data with lists in it, alike -/
namespace Hw
open PySem PySem.Spec PyProof.Rows L2 Evl
local macro_rules | `(tactic| walk_at "dd") => `(tactic| first | rfl | decide | (simp; done) | omega)
local macro_rules | `(tactic| walk_at "td") => `(tactic| first | assumption | exact Td.int _ | exact Td.bl _ | exact Td.str _ | exact Td.non | exact Td.tup (by assumption) (by assumption))
local macro_rules | `(tactic| walk_at "ev") => `(tactic| first
  | exact ed_ci | exact ed_cs | exact ed_cb | exact ed_cn
  | (apply ed_cg; assumption)
  | (apply ed_var; (rfl); (walk_at "td"))
  | (apply ed_ixT; (walk_at "ev"); (walk_at "ev"); (first | rfl | assumption))
  | (apply ed_rowI; (rfl); (assumption); (walk_at "ev"); (rfl))
  | (apply ed_ixL; (apply EvDL.rd; walk_at "edl"); (walk_at "ev"); (rfl))
  | (apply ed_intb; (walk_at "ev"))
  | (apply ed_len; walk_at "ev")
  | (apply ed_lenV; (apply ev_rowR; (rfl); (assumption); (walk_at "ev"); (rfl)); (assumption))
  | (apply ed_Ii; (walk_at "ev"); (walk_at "ev"); (walk_at "cc"))
  | (apply ed_isi; (walk_at "ev"); (rfl))
  | (apply ed_I0i; (walk_at "ev"); (walk_at "ev"))
  | (apply ed_I0b; (walk_at "ev"); (walk_at "ev"))
  | (apply ed_eqi; (walk_at "ev"); (walk_at "ev"))
  | (apply ed_nei; (walk_at "ev"); (walk_at "ev"))
  | (apply ed_andF; walk_at "ev")
  | (apply ed_andV; (walk_at "ev"); (intro _; walk_at "ev"))
  | (apply ed_orT; walk_at "ev")
  | (apply ed_orV; (walk_at "ev"); (intro _; walk_at "ev"))
  | (apply ed_notT; walk_at "ev")
  | (apply ed_notF; walk_at "ev")
  | (apply ed_notV; walk_at "ev")
  | (apply ed_chain; (walk_at "ev"); (walk_at "ev"); (intro _; walk_at "ev"))
  | (apply ed_eqS; (walk_at "ev"); (walk_at "ev"); (walk_at "bb"); (walk_at "bb"))
  | (apply ed_neS; (walk_at "ev"); (walk_at "ev"); (walk_at "bb"); (walk_at "bb"))
  | (apply ed_inT; (walk_at "ev"); (walk_at "ev"); (rfl); (rfl))
  | (apply ed_niT; (walk_at "ev"); (walk_at "ev"); (rfl); (rfl))
  | (apply ed_tup; (walk_at "eva"); (walk_at "bb"))
  | (apply ed_sl; (walk_at "ev"); (walk_at "evo"); (walk_at "evo"))
  | (apply ed_eqN; (apply EvDL.rd; walk_at "edl"); (walk_at "edl"); (walk_at "bb"))
  | (apply ed_neN; (apply EvDL.rd; walk_at "edl"); (walk_at "edl"); (walk_at "bb"))
  | (apply ed_ixL; (apply edr_var; (rfl); (assumption); (assumption)); (walk_at "ev"); (first | rfl | assumption))
  | (apply ed_lenL; (apply edr_var; (rfl); (assumption); (assumption)))
  | (apply ed_call; (walk_at "eva"); (walk_at "post")))
local macro_rules | `(tactic| walk_at "edl") => `(tactic| first
  | assumption
  | (apply edl_lst; (walk_at "eva"); (walk_at "bb")))
local macro_rules | `(tactic| walk_at "eva") => `(tactic| first
  | exact eda_nil
  | (apply eda_cons; (walk_at "ev"); (walk_at "eva")))
local macro_rules | `(tactic| walk_at "evo") => `(tactic| first
  | exact eok_none
  | (apply eok_some; walk_at "ev"))
local macro_rules | `(tactic| walk_at "bb") => `(tactic| first | rfl | assumption | (simp; done) | (simp; omega) | decide +kernel)
local macro_rules | `(tactic| walk_at "et") => `(tactic| first
  | exact tk_yes
  | (apply tk_andF; walk_at "et")
  | (apply tk_and; (walk_at "et"); (intro _; walk_at "et"))
  | (apply tk_orT; walk_at "et")
  | (apply tk_or; (walk_at "et"); (intro _; walk_at "et"))
  | (apply tk_notT; walk_at "et")
  | (apply tk_notF; walk_at "et")
  | (apply tk_not; walk_at "et")
  | (apply tk_v; walk_at "ev")
  | (apply tk_vB; walk_at "ev"))
local macro_rules | `(tactic| walk_at "if") => `(tactic| first
  | (apply pst_whenF; (walk_at "et"); (walk_at "bb"))
  | (apply pst_whenT; (walk_at "et"); (walk_at "bb")))
local macro_rules | `(tactic| walk_at "post") => `(tactic| first | assumption | exact ⟨_, _, rfl, rfl⟩ | exact ⟨_, _, _, _, rfl, by omega, by omega, rfl⟩ | exact ⟨_, _, _, 0, rfl, by omega, by omega, rfl⟩)
local macro_rules | `(tactic| walk_at "cc") => `(tactic| first | assumption | decide | omega | (refine ⟨?_, ?_⟩ <;> first | decide | omega) | (exact Or.inl (by constructor <;> omega)))

theorem kix_seq {X : Cx} (K : PySem.W.Frag) (h : X.K = K := by rfl) : IxR X (rIx K) := by subst h; exact ix_seq
mutual
/-- data as it stands now, lists and tuples -/
inductive Tl (K : PySem.W.Frag) (H : Hp) : V → PyData → Prop
  | non : Tl K H .non .none
  | bl (b : Bool) : Tl K H (.bl b) (.bool b)
  | int (i : Int) : Tl K H (.int i) (.int i)
  | str (x : Str) : Tl K H (.str x) (.str x)
  | lst {a : Addr} {xs : List V} {ds : List PyData} : H a = some (.lst xs) → TlAll K H xs ds → Tl K H (.ref a) (.list ds)
  | tup {a : Addr} {xs : List V} {ds : List PyData} : SqT K H a xs → TlAll K H xs ds → Tl K H (.ref a) (.tuple ds)
inductive TlAll (K : PySem.W.Frag) (H : Hp) : List V → List PyData → Prop
  | nil : TlAll K H [] []
  | cons {v : V} {vs : List V} {d : PyData} {ds : List PyData} : Tl K H v d → TlAll K H vs ds → TlAll K H (v :: vs) (d :: ds)
end
section
variable {K : PySem.W.Frag} {σ : L2.St} {H H' : Hp} {te ta tb : TE} {v : V} {d : PyData} {ds es : List PyData}
mutual
theorem Tl.ex (e : Ex H H') : ∀ (d : PyData) {v : V}, Tl K H v d → Tl K H' v d
  | .none, _, h => by cases h; exact .non
  | .bool _, _, h => by cases h; exact .bl _
  | .int _, _, h => by cases h; exact .int _
  | .str _, _, h => by cases h; exact .str _
  | .list ds, _, h => by
    cases h with
    | lst hs ha => exact .lst (e _ _ hs) (TlAll.ex e ds ha)
  | .tuple ds, _, h => by
    cases h with
    | tup hs ha => exact .tup (ex_t e hs) (TlAll.ex e ds ha)
  | .dict _, _, h => by cases h
theorem TlAll.ex (e : Ex H H') : ∀ (ds : List PyData) {vs : List V}, TlAll K H vs ds → TlAll K H' vs ds
  | [], _, h => by cases h; exact .nil
  | d :: ds, _, h => by
    cases h with
    | cons a b => exact .cons (Tl.ex e d a) (TlAll.ex e ds b)
end
mutual
theorem Tl.dp : ∀ (d : PyData) {v : V}, Tl K H v d → Dp K H v d
  | .none, _, h => by cases h; exact .non
  | .bool _, _, h => by cases h; exact .bl _
  | .int _, _, h => by cases h; exact .int _
  | .str _, _, h => by cases h; exact .str _
  | .list ds, _, h => by
    cases h with
    | lst hs ha => exact .lst (SqL.of hs) (TlAll.dp ds ha)
  | .tuple ds, _, h => by
    cases h with
    | tup hs ha => exact .tup hs (TlAll.dp ds ha)
  | .dict _, _, h => by cases h
theorem TlAll.dp : ∀ (ds : List PyData) {vs : List V}, TlAll K H vs ds → DpAll K H vs ds
  | [], _, h => by cases h; exact .nil
  | d :: ds, _, h => by
    cases h with
    | cons a b => exact .cons (Tl.dp d a) (TlAll.dp ds b)
end
mutual
theorem Td.tl : ∀ (d : PyData) {v : V}, Td K H v d → Tl K H v d
  | .none, _, h => by cases h; exact .non
  | .bool _, _, h => by cases h; exact .bl _
  | .int _, _, h => by cases h; exact .int _
  | .str _, _, h => by cases h; exact .str _
  | .list ds, _, h => by cases h
  | .tuple ds, _, h => by
    cases h with
    | tup hs ha => exact .tup hs (TdAll.tl ds ha)
  | .dict _, _, h => by cases h
theorem TdAll.tl : ∀ (ds : List PyData) {vs : List V}, TdAll K H vs ds → TlAll K H vs ds
  | [], _, h => by cases h; exact .nil
  | d :: ds, _, h => by
    cases h with
    | cons a b => exact .cons (Td.tl d a) (TdAll.tl ds b)
end
theorem TlAll.length : ∀ {ds : List PyData} {vs : List V}, TlAll K H vs ds → vs.length = ds.length
  | [], _, h => by cases h; rfl
  | d :: ds, _, h => by
    cases h with
    | cons a b => simp [TlAll.length b]
theorem TlAll.get : ∀ {ds : List PyData} {vs : List V} {i : Nat} {d : PyData}, TlAll K H vs ds → ds[i]? = some d → ∃ v, vs[i]? = some v ∧ Tl K H v d
  | [], _, _, _, _, e => by simp at e
  | d :: ds, _, i, d', h, e => by
    cases h with
    | cons a b =>
      cases i with
      | zero => simp at e; subst e; exact ⟨_, rfl, a⟩
      | succ i => simp at e; simpa using TlAll.get b e
theorem tyx_tl (h : Tl K H v d) : TyX K H v (.type (tyD d)) := by
  cases h with
  | non => exact .base .non
  | bl b => exact .base (.bl b)
  | int i => exact .base (.int i)
  | str x => exact .base (.str x)
  | lst hs _ => exact .base (.lst hs)
  | tup hs _ =>
    rcases hs with (hs | ⟨o, hs⟩) | ⟨o, its, n, hk, hc, _⟩
    · exact .base (.tup hs)
    · exact .fTuple hs
    · exact .kTuple hk hc
def EvX (K : PySem.W.Frag) (te : TE) (σ : L2.St) (H : Hp) (d : PyData) : Prop := ∀ H1, Ex H H1 → ∀ Q : VK, (∀ v H2, Ex H1 H2 → Tl K H2 v d → Q v H2) → te σ H1 Q
theorem xd_var {n : Nat} (h : σ[n]? = some (some v)) (td : Tl K H v d) : EvX K (tVar n) σ H d := fun H1 e1 _ q => ⟨v, h, q v H1 (Ex.refl _) (td.ex e1)⟩
def seqD : PyData → Option (List PyData)
  | .list ds => some ds
  | .tuple ds => some ds
  | _ => none
theorem xd_ix {i : Nat} {e : PyData} (ha : EvX K ta σ H d) (hs : seqD d = some ds) (hb : EvD K tb σ H (.int (i : Int))) (hd : ds[i]? = some e) : EvX K (tOp (rIx K) ta tb) σ H e := fun H1 a Q q =>
  ha H1 a _ fun v H2 e2 t2 => hb.iv H2 (a.trans e2) _ fun H3 e3 => by
    cases t2 with
    | lst hs2 hall =>
      cases hs
      obtain ⟨w, hw, tw⟩ := hall.get hd
      exact .inl ⟨_, _, (i : Int), w, rfl, rfl, SqL.of (e3 _ _ hs2), atI_nat hw, q w H3 (e2.trans e3) (tw.ex e3)⟩
    | tup hs2 hall =>
      cases hs
      obtain ⟨w, hw, tw⟩ := hall.get hd
      exact .inr (.inl ⟨_, _, (i : Int), w, rfl, rfl, ex_t e3 hs2, atI_nat hw, q w H3 (e2.trans e3) (tw.ex e3)⟩)
    | _ => cases hs
theorem xd_len (ha : EvX K ta σ H d) (hs : seqD d = some ds) : EvD K (tCB (rLenS K) (tCons ta tNil)) σ H (.int (ds.length : Int)) := fun H1 a Q q =>
  ha H1 a _ fun v H2 e2 t2 => by
    cases t2 with
    | lst hs2 hall =>
      cases hs
      rw [← hall.length] at q
      exact ⟨_, _, rfl, .inl (SqL.of hs2), q _ H2 e2 (.int _)⟩
    | tup hs2 hall =>
      cases hs
      rw [← hall.length] at q
      exact ⟨_, _, rfl, .inr hs2, q _ H2 e2 (.int _)⟩
    | _ => cases hs
theorem xd_isi {b : Bool} {n : String} (ha : EvX K ta σ H d) (hk : kitB (tyD d) n = some b) : EvD K (tCB (rIsi K) (tCons ta (tCons (tC (.ty n)) tNil))) σ H (.bool b) := fun H1 a Q q =>
  ha H1 a _ fun v H2 e2 t2 => ⟨v, .ty n, _, _, b, rfl, .ty n, tyx_tl t2, kit_ty hk, q _ H2 e2 (.bl _)⟩
theorem xd_isi2 {b1 b2 : Bool} {n1 n2 : String} (ha : EvX K ta σ H d) (hk : kitB (tyD d) n1 = some b1) (hk2 : kitB (tyD d) n2 = some b2) : EvD K (tCB (rIsiT K) (tCons ta (tCons (tTup (tCons (tC (.ty n1)) (tCons (tC (.ty n2)) tNil))) tNil))) σ H (.bool (b1 || b2)) := fun H1 a Q q =>
  ha H1 a _ fun v H2 e2 t2 => ⟨by show 2 ≤ sizeLine; decide, fun p hp => ⟨v, p, [.ty n1, .ty n2], _, [.type n1, .type n2], b1 || b2, rfl, upd_same, .cons (.ty n1) (.cons (.ty n2) .nil), tyx_tl (t2.ex (Ex.new hp)),
    kitAny_cons (kit_ty hk) (fun e => by rw [e]; exact kitAny_cons (kit_ty hk2) (fun e => by rw [e]; exact kitAny_nil) (fun e => by rw [e]; rfl)) (fun e => by rw [e]; rfl), q _ _ (e2.trans (Ex.new hp)) (.bl _)⟩⟩
theorem xd_isN (ha : EvX K ta σ H d) : EvD K (tIsN ta) σ H (.bool (noneD d)) := fun H1 a Q q => ha H1 a _ fun v H2 e2 t2 => by
  have e : decide (v = .non) = noneD d := by cases t2 <;> simp [noneD]
  rw [e]
  exact q _ H2 e2 (.bl _)
theorem xd_eq {e : PyData} (ha : EvX K ta σ H d) (hb : EvX K tb σ H e) (sd : d.canLay0 = true) (se : e.canLay0 = true) (hm : min d.depth e.depth ≤ 64) : EvD K (tOp (rEqM K) ta tb) σ H (.bool (PyData.eqv d e)) := fun H1 a Q q =>
  ha H1 a _ fun v H2 e2 t2 => hb H2 (a.trans e2) _ fun w H3 e3 t3 => ⟨d, e, (t2.ex e3).dp, t3.dp, sd, se, hm, q _ H3 (e2.trans e3) (.bl _)⟩
end
/-- as the law's alike tells it -/
def alikeN : Nat → PyData → PyData → Bool
  | n + 1, .tuple fs, .tuple ds => decide (fs.length = ds.length) && (List.range ds.length).all fun i => alikeN n (fs.getD i .none) (ds.getD i .none)
  | n + 1, .list fs, .list ds => decide (fs.length = ds.length) && (List.range ds.length).all fun i => alikeN n (fs.getD i .none) (ds.getD i .none)
  | _, .none, .none => true
  | _, .bool a, .bool b => a == b
  | _, .str a, .str b => PyData.eqv (.str a) (.str b)
  | _, .int a, .int b => decide (a = b)
  | _, _, _ => false
def isTup : PyData → Bool
  | .tuple _ => true
  | _ => false
def isLst : PyData → Bool
  | .list _ => true
  | _ => false
def isBl : PyData → Bool
  | .bool _ => true
  | _ => false
def isSt : PyData → Bool
  | .str _ => true
  | _ => false
def isIn : PyData → Bool
  | .int _ => true
  | .bool _ => true
  | _ => false
theorem kit_tup (d : PyData) : kitB (tyD d) "tuple" = some (isTup d) := by
  cases d with
  | none => exact (by decide +kernel : kitB "NoneType" "tuple" = some false)
  | bool _ => exact (by decide +kernel : kitB "bool" "tuple" = some false)
  | int _ => exact (by decide +kernel : kitB "int" "tuple" = some false)
  | str _ => exact (by decide +kernel : kitB "str" "tuple" = some false)
  | list _ => exact (by decide +kernel : kitB "list" "tuple" = some false)
  | tuple _ => exact (by decide +kernel : kitB "tuple" "tuple" = some true)
  | dict _ => exact (by decide +kernel : kitB "dict" "tuple" = some false)
theorem kit_lst (d : PyData) : kitB (tyD d) "list" = some (isLst d) := by
  cases d with
  | none => exact (by decide +kernel : kitB "NoneType" "list" = some false)
  | bool _ => exact (by decide +kernel : kitB "bool" "list" = some false)
  | int _ => exact (by decide +kernel : kitB "int" "list" = some false)
  | str _ => exact (by decide +kernel : kitB "str" "list" = some false)
  | list _ => exact (by decide +kernel : kitB "list" "list" = some true)
  | tuple _ => exact (by decide +kernel : kitB "tuple" "list" = some false)
  | dict _ => exact (by decide +kernel : kitB "dict" "list" = some false)
theorem kit_bl (d : PyData) : kitB (tyD d) "bool" = some (isBl d) := by
  cases d with
  | none => exact (by decide +kernel : kitB "NoneType" "bool" = some false)
  | bool _ => exact (by decide +kernel : kitB "bool" "bool" = some true)
  | int _ => exact (by decide +kernel : kitB "int" "bool" = some false)
  | str _ => exact (by decide +kernel : kitB "str" "bool" = some false)
  | list _ => exact (by decide +kernel : kitB "list" "bool" = some false)
  | tuple _ => exact (by decide +kernel : kitB "tuple" "bool" = some false)
  | dict _ => exact (by decide +kernel : kitB "dict" "bool" = some false)
theorem kit_st (d : PyData) : kitB (tyD d) "str" = some (isSt d) := by
  cases d with
  | none => exact (by decide +kernel : kitB "NoneType" "str" = some false)
  | bool _ => exact (by decide +kernel : kitB "bool" "str" = some false)
  | int _ => exact (by decide +kernel : kitB "int" "str" = some false)
  | str _ => exact (by decide +kernel : kitB "str" "str" = some true)
  | list _ => exact (by decide +kernel : kitB "list" "str" = some false)
  | tuple _ => exact (by decide +kernel : kitB "tuple" "str" = some false)
  | dict _ => exact (by decide +kernel : kitB "dict" "str" = some false)
theorem kit_in (d : PyData) : kitB (tyD d) "int" = some (isIn d) := by
  cases d with
  | none => exact (by decide +kernel : kitB "NoneType" "int" = some false)
  | bool _ => exact (by decide +kernel : kitB "bool" "int" = some true)
  | int _ => exact (by decide +kernel : kitB "int" "int" = some true)
  | str _ => exact (by decide +kernel : kitB "str" "int" = some false)
  | list _ => exact (by decide +kernel : kitB "list" "int" = some false)
  | tuple _ => exact (by decide +kernel : kitB "tuple" "int" = some false)
  | dict _ => exact (by decide +kernel : kitB "dict" "int" = some false)
/-- no deeper than n, no longer than that -/
def okD : Nat → PyData → Bool
  | n + 1, .tuple ds => decide (ds.length ≤ 30000) && ds.all (okD n)
  | n + 1, .list ds => decide (ds.length ≤ 30000) && ds.all (okD n)
  | 0, .tuple _ => false
  | 0, .list _ => false
  | _, .dict _ => false
  | _, _ => true
def spAl (K : PySem.W.Frag) (n : Nat) : Sp := fun vs H Q _ => ∃ x y f d, vs = [x, y] ∧ Tl K H x f ∧ Tl K H y d ∧ f.canLay0 = true ∧ d.canLay0 = true ∧ okD n d = true ∧ ∀ H', Ex H H' → Q (.bl (alikeN (n + 1) f d)) H'
theorem lay_get {ds : List PyData} {i : Nat} {d : PyData} (h : PyData.canLayAll0 ds = true) (e : ds[i]? = some d) : d.canLay0 = true := by
  induction ds generalizing i with
  | nil => simp at e
  | cons x r ih =>
    simp only [PyData.canLayAll0, Bool.and_eq_true] at h
    cases i with
    | zero => simp at e; rw [← e]; exact h.1
    | succ i => simp at e; exact ih h.2 e
theorem lay_seq {d : PyData} {ds : List PyData} (h : d.canLay0 = true) (hs : seqD d = some ds) : PyData.canLayAll0 ds = true := by
  cases d <;> cases hs <;> simpa [PyData.canLay0] using h
theorem ed_eqB {K : PySem.W.Frag} {σ : L2.St} {H : Hp} {ta tb : TE} {a b : Bool} (ha : EvD K ta σ H (.bool a)) (hb : EvD K tb σ H (.bool b)) : EvD K (tOp (rEqM K) ta tb) σ H (.bool (a == b)) :=
  ed_is (ed_eqM ha hb rfl rfl (by simp [PyData.depth])) (by simp [PyData.eqv])
theorem ed_neB {K : PySem.W.Frag} {σ : L2.St} {H : Hp} {ta tb : TE} {a b : Bool} (ha : EvD K ta σ H (.bool a)) (hb : EvD K tb σ H (.bool b)) : EvD K (tOp (rNeM K) ta tb) σ H (.bool (a != b)) :=
  ed_is (ed_neM ha hb rfl rfl (by simp [PyData.depth])) (by simp [PyData.eqv, bne])
section
variable {P : Program} {w : World} {K : PySem.W.Frag} {mg : Str → Option Value} {base : Heap} (T : Tx K mg)
include T
theorem al_step {n : Nat} (spI : Sp) (hspI : 0 < n → spI = spAl K (n - 1)) (G_I : Fn__law_alike T P w base CX0 n spI) : Fn__law_alike T P w base CX0 (n + 1) (spAl K n) := by
  have G__law_alike := G_I
  refine T.F__law_alike.ok sc__law_alike (fun vs H Q E h => by obtain ⟨x, y, f, d, rfl, _⟩ := h; rfl) fun cdv A outer s0 H vs Q E hr h => ?_
  obtain ⟨x, y, f, d, rfl, tx, ty, lf, ld, hok, k⟩ := h
  refine ⟨_, (pss_cons (ps_if (PW.pt (pw_or (pt_val (pe_callB (kc_isi K) rfl T.b_isinstance (by decide +kernel) (pa_cons (pv 1) (pa_cons (pe_bltn (v := .ty "tuple") rfl T.b_tuple (by decide +kernel) rfl) pa_nil)))) (pw_or1 (pt_val (pe_callB (kc_isi K) rfl T.b_isinstance (by decide +kernel) (pa_cons (pv 1) (pa_cons (pe_bltn (v := .ty "list") rfl T.b_list (by decide +kernel) rfl) pa_nil)))))))
    (pss_cons (ps_if (PW.pt (pw_or (pt_cmpR (kop_ne K hr.units) (pe_callB (kc_isi K) rfl T.b_isinstance (by decide +kernel) (pa_cons (pv 0) (pa_cons (pe_bltn (v := .ty "tuple") rfl T.b_tuple (by decide +kernel) rfl) pa_nil))) (pe_callB (kc_isi K) rfl T.b_isinstance (by decide +kernel) (pa_cons (pv 1) (pa_cons (pe_bltn (v := .ty "tuple") rfl T.b_tuple (by decide +kernel) rfl) pa_nil))) (nomark _)) (pw_or1 (pt_not (pt_val (pe_callB (kc_isiT K) rfl T.b_isinstance (by decide +kernel) (pa_cons (pv 0) (pa_cons (pe_tup (pa_cons (pe_bltn (v := .ty "tuple") rfl T.b_tuple (by decide +kernel) rfl) (pa_cons (pe_bltn (v := .ty "list") rfl T.b_list (by decide +kernel) rfl) pa_nil))) pa_nil))))))))
      (pss_one (ps_ret pe_bl))
      pss_nil)
    (pss_cons (ps_if (pt_cmpR op_ne (pe_callB (kc_len K) rfl T.b_len PySem.boot_len (pa_cons (pv 0) pa_nil)) (pe_callB (kc_len K) rfl T.b_len PySem.boot_len (pa_cons (pv 1) pa_nil)) (nomark _))
      (pss_one (ps_ret pe_bl))
      pss_nil)
    (pss_one (ps_ret (pe_cmpR (kop_eq K hr.units) (pe_lc (own := [("_law_k", 2)]) (g := gName 2) (tt := _) rfl sc__law_alike.nd (pi_range1 rfl T.b_range (pa_cons (pe_callB (kc_len K) rfl T.b_len PySem.boot_len (pa_cons (pv 1) pa_nil)) pa_nil)) (blkOk_by (N := ["_law_found", "_law_due", "_law_k"]) (sc := defScope s__law_alike) (by decide +kernel)) (fun _ _ _ _ _ => (pg_name (i := 2) sc__law_alike.nd rfl (Or.inl rfl))) (fun _ _ _ _ _ => (pts_one (pt_not (pt_val (pe_call G__law_alike (hr.mono (by omega)) (by rfl) T.g__law_alike T.k__law_alike T.bd__law_alike .nil pass0 (pa_cons (pe_ix (kix_seq K) (pv 0) (pv 2) (fun _ _ => rfl)) (pa_cons (pe_ix (kix_seq K) (pv 1) (pv 2) (fun _ _ => rfl)) pa_nil))))))) (fun _ _ _ _ _ => (pv 2))) (pe_lst pa_nil) (nomark _))))))
    pss_nil)
  (pss_cons (ps_if (PW.pt (pw_or (pt_cmp (pc_isN (pv 1)) rfl) (pw_or1 (pt_cmp (pc_isN (pv 0)) rfl))))
    (pss_one (ps_ret (pe_and (pe_cmp (pc_isN (pv 1)) rfl) (pe_one (pe_cmp (pc_isN (pv 0)) rfl)))))
    pss_nil)
  (pss_cons (ps_if (PW.pt (pw_or (pt_val (pe_callB (kc_isi K) rfl T.b_isinstance (by decide +kernel) (pa_cons (pv 1) (pa_cons (pe_bltn (v := .ty "bool") rfl T.b_bool (by decide +kernel) rfl) pa_nil)))) (pw_or1 (pt_val (pe_callB (kc_isi K) rfl T.b_isinstance (by decide +kernel) (pa_cons (pv 0) (pa_cons (pe_bltn (v := .ty "bool") rfl T.b_bool (by decide +kernel) rfl) pa_nil)))))))
    (pss_one (ps_ret (pe_and (pe_callB (kc_isi K) rfl T.b_isinstance (by decide +kernel) (pa_cons (pv 1) (pa_cons (pe_bltn (v := .ty "bool") rfl T.b_bool (by decide +kernel) rfl) pa_nil))) (pe_and (pe_callB (kc_isi K) rfl T.b_isinstance (by decide +kernel) (pa_cons (pv 0) (pa_cons (pe_bltn (v := .ty "bool") rfl T.b_bool (by decide +kernel) rfl) pa_nil))) (pe_one (pe_cmpR (kop_eq K hr.units) (pv 0) (pv 1) (nomark _)))))))
    pss_nil)
  (pss_cons (ps_if (pt_val (pe_callB (kc_isi K) rfl T.b_isinstance (by decide +kernel) (pa_cons (pv 1) (pa_cons (pe_bltn (v := .ty "str") rfl T.b_str (by decide +kernel) rfl) pa_nil))))
    (pss_one (ps_ret (pe_and (pe_callB (kc_isi K) rfl T.b_isinstance (by decide +kernel) (pa_cons (pv 0) (pa_cons (pe_bltn (v := .ty "str") rfl T.b_str (by decide +kernel) rfl) pa_nil))) (pe_one (pe_cmpR (kop_eq K hr.units) (pv 0) (pv 1) (nomark _))))))
    pss_nil)
  (pss_one (ps_ret (pe_and (pe_callB (kc_isi K) rfl T.b_isinstance (by decide +kernel) (pa_cons (pv 0) (pa_cons (pe_bltn (v := .ty "int") rfl T.b_int (by decide +kernel) rfl) pa_nil))) (pe_one (pe_cmpR (kop_eq K hr.units) (pv 0) (pv 1) (nomark _)))))))))), ?_⟩
  have X0 : EvX K (tVar 0) (L2.start ["_law_found", "_law_due", "_law_k"] [x, y]) H f := xd_var rfl tx
  have X1 : EvX K (tVar 1) (L2.start ["_law_found", "_law_due", "_law_k"] [x, y]) H d := xd_var rfl ty
  refine Pst.go (K := K) ?_
  refine pst_when (b := isTup d || isLst d) ?_ (fun hb => ?_) fun hb => ?_
  · exact tk_or (tk_vB (xd_isi X1 (kit_tup d))) fun _ => tk_vB (xd_isi X1 (kit_lst d))
  · refine pst_when (b := (isTup f != isTup d) || !(isTup f || isLst f)) ?_ (fun h1 => ?_) fun h1 => ?_
    · refine tk_or (tk_v (ed_neB (xd_isi X0 (kit_tup f)) (xd_isi X1 (kit_tup d)))) fun _ => tk_not (tk_vB (xd_isi2 X0 (kit_tup f) (kit_lst f)))
    · refine pst_ret (d := .bool false) ed_cb fun v H1 e1 t1 => ?_
      cases t1
      have e : alikeN (n + 1) f d = false := by cases f <;> cases d <;> simp_all [alikeN, isTup, isLst]
      rw [← e]
      exact k H1 e1
    obtain ⟨fs, hfs⟩ : ∃ fs, seqD f = some fs := by cases f <;> simp_all [seqD, isTup, isLst]
    obtain ⟨ds, hds⟩ : ∃ ds, seqD d = some ds := by cases d <;> simp_all [seqD, isTup, isLst]
    refine pst_when (b := !decide ((fs.length : Int) = (ds.length : Int))) ?_ (fun h2 => ?_) fun h2 => ?_
    · exact tk_v (ed_nei (xd_len X0 hfs) (xd_len X1 hds))
    · refine pst_ret (d := .bool false) ed_cb fun v H1 e1 t1 => ?_
      cases t1
      have e : alikeN (n + 1) f d = false := by
        simp at h2
        cases f <;> cases d <;> simp_all [alikeN, isTup, isLst, seqD] <;> omega
      rw [← e]
      exact k H1 e1
    have hlen : fs.length = ds.length := by
      simp at h2
      omega
    obtain ⟨m, rfl⟩ : ∃ m, n = m + 1 := ⟨n - 1, by cases n <;> cases d <;> simp_all [okD, isTup, isLst]⟩
    rw [hspI (by omega)]
    have em : m + 1 - 1 = m := by omega
    rw [em]
    have hds2 : ds.length ≤ 30000 ∧ ds.all (okD m) = true := by cases d <;> simp_all [okD, seqD]
    have hall : alikeN (m + 2) f d = (List.range ds.length).all fun i => alikeN (m + 1) (fs.getD i .none) (ds.getD i .none) := by
      cases f <;> cases d <;> simp_all [alikeN, seqD, isTup, isLst]
    refine pst_ret (d := .bool ((((List.range ds.length).filter fun i => !alikeN (m + 1) (fs.getD i .none) (ds.getD i .none)).map fun i => PyData.int ((i : Nat) : Int)).isEmpty)) ?_ fun v H1 e1 t1 => ?_
    · refine ed_eqN (EvDL.rd (edl_lcR (n := ds.length) (fun i => !alikeN (m + 1) (fs.getD i .none) (ds.getD i .none)) (fun i => PyData.int ((i : Nat) : Int)) ?_ (by omega) (fun _ => rfl) (fun i H1 e1 hi => ?_) fun i H1 e1 hi _ => ?_)) (edl_lst eda_nil (by simp)) ?_
      · exact eda_cons (xd_len X1 hds) eda_nil
      · have hfi : fs[i]? = some (fs.getD i .none) := by rw [List.getD, List.getElem?_eq_getElem (by omega : i < fs.length)] <;> rfl
        have hdi : ds[i]? = some (ds.getD i .none) := by rw [List.getD, List.getElem?_eq_getElem hi] <;> rfl
        refine tk_not (tk_vB fun H2 e2 Q q => ?_)
        refine w_call (w_cons ?_)
        refine xd_ix (xd_var rfl (Tl.ex e1 _ tx)) hfs (ed_var rfl (.int (i : Int))) hfi H2 e2 _ fun v H3 e3 t3 => ?_
        refine w_cons ?_
        refine xd_ix (xd_var rfl (Tl.ex e1 _ ty)) hds (ed_var rfl (.int (i : Int))) hdi H3 (e2.trans e3) _ fun v2 H4 e4 t4 => ?_
        refine w_nil ⟨v, v2, _, _, rfl, Tl.ex e4 _ t3, t4, lay_get (lay_seq lf hfs) hfi, lay_get (lay_seq ld hds) hdi, List.all_eq_true.mp hds2.2 _ (List.mem_of_getElem? hdi), fun H5 e5 => q _ _ ((e3.trans e4).trans e5) (.bl _)⟩
      · exact ed_var rfl (.int (i : Int))
      · have : ∀ l : List Nat, PyData.canLayAll0 (l.map fun i => PyData.int ((i : Nat) : Int)) = true := by
          intro l
          induction l with
          | nil => rfl
          | cons a r ih => simp only [List.map_cons, PyData.canLayAll0, ih, Bool.and_true]; rfl
        exact this _
    · cases t1
      have e : (((List.range ds.length).filter fun i => !alikeN (m + 1) (fs.getD i .none) (ds.getD i .none)).map fun i => PyData.int ((i : Nat) : Int)).isEmpty = alikeN (m + 2) f d := by
        rw [hall, ← filter_not_isEmpty]
        cases (List.filter (fun i => !alikeN (m + 1) (fs.getD i .none) (ds.getD i .none)) (List.range ds.length)) <;> rfl
      rw [e]
      exact k H1 e1
  refine pst_when (b := noneD d || noneD f) ?_ (fun h1 => ?_) fun h1 => ?_
  · exact tk_or (tk_vB (xd_isN X1)) fun _ => tk_vB (xd_isN X0)
  · refine pst_ret (d := .bool (noneD d && noneD f)) (ed_andV (xd_isN X1) fun _ => xd_isN X0) fun v H1 e1 t1 => ?_
    cases t1
    have e : alikeN (n + 1) f d = (noneD d && noneD f) := by cases f <;> cases d <;> simp_all [alikeN, noneD, isTup, isLst]
    rw [← e]
    exact k H1 e1
  refine pst_when (b := isBl d || isBl f) ?_ (fun h2 => ?_) fun h2 => ?_
  · exact tk_or (tk_vB (xd_isi X1 (kit_bl d))) fun _ => tk_vB (xd_isi X0 (kit_bl f))
  · refine pst_ret (d := .bool (isBl d && (isBl f && PyData.eqv f d))) (ed_andV (xd_isi X1 (kit_bl d)) fun _ => ed_andV (xd_isi X0 (kit_bl f)) fun hf => xd_eq X0 X1 lf ld ?_) fun v H1 e1 t1 => ?_
    · cases f <;> simp_all [isBl, PyData.depth]
    cases t1
    have e : alikeN (n + 1) f d = (isBl d && (isBl f && PyData.eqv f d)) := by cases f <;> cases d <;> simp_all [alikeN, noneD, isTup, isLst, isBl, PyData.eqv]
    rw [← e]
    exact k H1 e1
  refine pst_when (b := isSt d) ?_ (fun h3 => ?_) fun h3 => ?_
  · exact tk_vB (xd_isi X1 (kit_st d))
  · refine pst_ret (d := .bool (isSt f && PyData.eqv f d)) (ed_andV (xd_isi X0 (kit_st f)) fun hf => xd_eq X0 X1 lf ld ?_) fun v H1 e1 t1 => ?_
    · cases f <;> simp_all [isSt, PyData.depth]
    cases t1
    have e : alikeN (n + 1) f d = (isSt f && PyData.eqv f d) := by cases f <;> cases d <;> simp_all [alikeN, noneD, isTup, isLst, isBl, isSt]
    rw [← e]
    exact k H1 e1
  · refine pst_ret (d := .bool (isIn f && PyData.eqv f d)) (ed_andV (xd_isi X0 (kit_in f)) fun hf => xd_eq X0 X1 lf ld ?_) fun v H1 e1 t1 => ?_
    · cases f <;> simp_all [isIn, PyData.depth]
    cases t1
    have e : alikeN (n + 1) f d = (isIn f && PyData.eqv f d) := by cases f <;> cases d <;> simp_all [alikeN, noneD, isTup, isLst, isBl, isSt, isIn, PyData.eqv, okD] <;> (first | rfl | exact (beq_eq_decide _ _).symm)
    rw [← e]
    exact k H1 e1
theorem ok_alike : ∀ n : Nat, Fn__law_alike T P w base CX0 (n + 1) (spAl K n)
  | 0 => al_step T (fun _ _ _ _ => False) (fun h => absurd h (Nat.lt_irrefl _)) (fn_vac fun _ _ _ _ h => h)
  | n + 1 => al_step T (spAl K n) (fun _ => rfl) (ok_alike n)
end
theorem alike_self : ∀ (n : Nat) (d : PyData), okD n d = true → alikeN (n + 1) d d = true
  | n, .none, _ => by simp [alikeN]
  | n, .bool b, _ => by simp [alikeN]
  | n, .int i, _ => by simp [alikeN]
  | n, .str x, _ => by simp [alikeN]
  | 0, .list ds, h => by simp [okD] at h
  | 0, .tuple ds, h => by simp [okD] at h
  | n, .dict _, h => by cases n <;> simp [okD] at h
  | n + 1, .list ds, h => by
    simp only [okD, Bool.and_eq_true, decide_eq_true_eq, List.all_eq_true] at h
    simp only [alikeN, decide_true, Bool.true_and, List.all_eq_true, List.mem_range]
    intro i hi
    have e : ds.getD i .none = ds[i] := by simp [List.getD, hi]
    rw [e]
    exact alike_self n _ (h.2 _ (List.getElem_mem hi))
  | n + 1, .tuple ds, h => by
    simp only [okD, Bool.and_eq_true, decide_eq_true_eq, List.all_eq_true] at h
    simp only [alikeN, decide_true, Bool.true_and, List.all_eq_true, List.mem_range]
    intro i hi
    have e : ds.getD i .none = ds[i] := by simp [List.getD, hi]
    rw [e]
    exact alike_self n _ (h.2 _ (List.getElem_mem hi))
end Hw

set_option maxRecDepth 100000
set_option maxHeartbeats 4000000
/-! PG6: drawn ways -/
namespace Hw
open PySem PySem.Spec PyProof.Rows L2 Evl
local macro_rules | `(tactic| walk_at "dd") => `(tactic| first | rfl | decide | (simp; done) | omega)
local macro_rules | `(tactic| walk_at "td") => `(tactic| first | assumption | exact Td.int _ | exact Td.bl _ | exact Td.str _ | exact Td.non | exact Td.tup (by assumption) (by assumption))
local macro_rules | `(tactic| walk_at "ev") => `(tactic| first
  | exact ed_ci | exact ed_cs | exact ed_cb | exact ed_cn
  | (apply ed_cg; assumption)
  | (apply ed_var; (rfl); (walk_at "td"))
  | (apply ed_ixT; (walk_at "ev"); (walk_at "ev"); (first | rfl | assumption))
  | (apply ed_rowI; (rfl); (assumption); (walk_at "ev"); (rfl))
  | (apply ed_ixL; (apply EvDL.rd; walk_at "edl"); (walk_at "ev"); (rfl))
  | (apply ed_intb; (walk_at "ev"))
  | (apply ed_len; walk_at "ev")
  | (apply ed_lenV; (apply ev_rowR; (rfl); (assumption); (walk_at "ev"); (rfl)); (assumption))
  | (apply ed_Ii; (walk_at "ev"); (walk_at "ev"); (walk_at "cc"))
  | (apply ed_isi; (walk_at "ev"); (rfl))
  | (apply ed_I0i; (walk_at "ev"); (walk_at "ev"))
  | (apply ed_I0b; (walk_at "ev"); (walk_at "ev"))
  | (apply ed_eqi; (walk_at "ev"); (walk_at "ev"))
  | (apply ed_nei; (walk_at "ev"); (walk_at "ev"))
  | (apply ed_andF; walk_at "ev")
  | (apply ed_andV; (walk_at "ev"); (intro _; walk_at "ev"))
  | (apply ed_orT; walk_at "ev")
  | (apply ed_orV; (walk_at "ev"); (intro _; walk_at "ev"))
  | (apply ed_notT; walk_at "ev")
  | (apply ed_notF; walk_at "ev")
  | (apply ed_notV; walk_at "ev")
  | (apply ed_chain; (walk_at "ev"); (walk_at "ev"); (intro _; walk_at "ev"))
  | (apply ed_eqS; (walk_at "ev"); (walk_at "ev"); (walk_at "bb"); (walk_at "bb"))
  | (apply ed_neS; (walk_at "ev"); (walk_at "ev"); (walk_at "bb"); (walk_at "bb"))
  | (apply ed_inT; (walk_at "ev"); (walk_at "ev"); (rfl); (rfl))
  | (apply ed_niT; (walk_at "ev"); (walk_at "ev"); (rfl); (rfl))
  | (apply ed_tup; (walk_at "eva"); (walk_at "bb"))
  | (apply ed_sl; (walk_at "ev"); (walk_at "evo"); (walk_at "evo"))
  | (apply ed_eqN; (apply EvDL.rd; walk_at "edl"); (walk_at "edl"); (walk_at "bb"))
  | (apply ed_neN; (apply EvDL.rd; walk_at "edl"); (walk_at "edl"); (walk_at "bb"))
  | (apply ed_ixL; (apply edr_var; (rfl); (assumption); (assumption)); (walk_at "ev"); (first | rfl | assumption))
  | (apply ed_lenL; (apply edr_var; (rfl); (assumption); (assumption)))
  | (apply ed_call; (walk_at "eva"); (walk_at "post")))
local macro_rules | `(tactic| walk_at "edl") => `(tactic| first
  | assumption
  | (apply edl_lst; (walk_at "eva"); (walk_at "bb")))
local macro_rules | `(tactic| walk_at "eva") => `(tactic| first
  | exact eda_nil
  | (apply eda_cons; (walk_at "ev"); (walk_at "eva")))
local macro_rules | `(tactic| walk_at "evo") => `(tactic| first
  | exact eok_none
  | (apply eok_some; walk_at "ev"))
local macro_rules | `(tactic| walk_at "bb") => `(tactic| first | rfl | assumption | (simp; done) | (simp; omega) | decide +kernel)
local macro_rules | `(tactic| walk_at "et") => `(tactic| first
  | exact tk_yes
  | (apply tk_andF; walk_at "et")
  | (apply tk_and; (walk_at "et"); (intro _; walk_at "et"))
  | (apply tk_orT; walk_at "et")
  | (apply tk_or; (walk_at "et"); (intro _; walk_at "et"))
  | (apply tk_notT; walk_at "et")
  | (apply tk_notF; walk_at "et")
  | (apply tk_not; walk_at "et")
  | (apply tk_v; walk_at "ev")
  | (apply tk_vB; walk_at "ev"))
local macro_rules | `(tactic| walk_at "if") => `(tactic| first
  | (apply pst_whenF; (walk_at "et"); (walk_at "bb"))
  | (apply pst_whenT; (walk_at "et"); (walk_at "bb")))
local macro_rules | `(tactic| walk_at "post") => `(tactic| first | assumption | exact ⟨_, _, rfl, rfl⟩ | exact ⟨_, _, _, _, rfl, by omega, by omega, rfl⟩ | exact ⟨_, _, _, 0, rfl, by omega, by omega, rfl⟩)
local macro_rules | `(tactic| walk_at "cc") => `(tactic| first | assumption | decide | omega | (refine ⟨?_, ?_⟩ <;> first | decide | omega) | (exact Or.inl (by constructor <;> omega)))

section
variable {K : PySem.W.Frag} {σ : L2.St} {H H' : Hp} {D : Ends} {tu tz : TS} {ta : TA} {te tl : TE} {Q : VK} {r s p : Addr} {ns : List Int}
/-- for a, b, c in a tuple of threes -/
theorem w_forT3 {α : Type} {n j l m : Nat} {v : V} (xs : List α) (f1 f2 f3 : α → PyData) (hv : σ[n]? = some (some v)) (h : Td K H v (.tuple (xs.map fun x => .tuple [f1 x, f2 x, f3 x]))) (Pv : Nat → L2.St → Hp → Prop) (h0 : Pv 0 σ H) (hk : ∀ i σ' H', Pv i σ' H' → Keep K H H')
    (hs : ∀ i x v1 v2 v3 σ' H', xs[i]? = some x → Td K H' v1 (f1 x) → Td K H' v2 (f2 x) → Td K H' v3 (f3 x) → Pv i σ' H' → tu { D with nx := Pv (i + 1), ct := Pv (i + 1), bk := D.nx } (((σ'.set j (some v1)).set l (some v2)).set m (some v3)) H')
    (hd : ∀ σ' H', Pv xs.length σ' H' → D.nx σ' H') : tFor (iTup K (tVar n)) (gTup K 3 (gCons (gName j) (gCons (gName l) (gCons (gName m) gNil)))) tu D σ H := by
  refine ⟨v, hv, ?_⟩
  obtain ⟨a, ys, rfl, hx, hall⟩ := h.tup_inv
  have hlen := hall.length
  rw [List.length_map] at hlen
  refine ⟨a, rfl, ⟨ys, hx⟩, for_tup Pv h0 (fun i σ' H' _ p => hk i σ' H' p a ys hx) (fun i x σ' H' hi p => ?_) (fun σ' H' p => hd σ' H' (by rw [← hlen]; exact p))⟩
  obtain ⟨d, hdd, td⟩ := hall.getV hi
  rw [List.getElem?_map] at hdd
  obtain ⟨z, hz, rfl⟩ := Option.map_eq_some_iff.mp hdd
  obtain ⟨q, zs, rfl, hq, hqa⟩ := (td.kp (hk i σ' H' p)).tup_inv
  obtain _ | ⟨u1, _ | ⟨u2, _ | ⟨u3, _ | _⟩⟩⟩ := hqa
  exact ⟨q, _, rfl, hq, rfl, _, _, rfl, _, _, rfl, _, _, rfl, rfl, hs i z _ _ _ σ' H' hz u1 u2 u3 p⟩
end
/-- the list of words stands at so -/
def WdsAt (K : PySem.W.Frag) (so : Addr) (some_ : List Str) (H : Hp) : Prop := H so = some (.lst (some_.map V.str))
def goY (p : List Wk) (some_ : List Str) (ys : List (List Str)) : Prop := ys.length = p.length ∧ ∀ i y, ys[i]? = some y → y.length = shP (shapes p) i ∧ ∀ z ∈ y, z ∈ some_
def spWays (K : PySem.W.Frag) : Sp := fun vs H Q _ => ∃ (r s so : Addr) (ns : List Int) (v : V) (p : List Wk) (sm : List Str), vs = [.ref r, v, .ref so] ∧ RowAt K s ns H r ∧ ns.length ≤ 63 ∧ Td K H v (encP p) ∧ WdsAt K so sm H ∧ so ≠ r ∧ 0 < sm.length ∧ sm.length ≤ 1000 ∧ p.length ≤ 1000 ∧ (∀ w ∈ p, w.params ≤ 1000) ∧
  ∀ ys x H', goY p sm ys → Fr [r] H H' → RowAt K s ns H' r → Td K H' x (encY ys) → Q x H'
section
variable {P : Program} {w : World} {K : PySem.W.Frag} {mg : Str → Option Value} {base : Heap} (T : Tx K mg)
include T
theorem ok_ways (GT : Fn__law_taken T P w base CX0 1 (spTaken K)) : Fn__law_ways T P w base CX0 2 (spWays K) := by
  have G__law_taken := GT
  refine T.F__law_ways.ok sc__law_ways (fun vs H Q E h => by obtain ⟨r, s, so, ns, v, p, sm, rfl, _⟩ := h; rfl) fun cdv A outer s0 H vs Q E hr h => ?_
  obtain ⟨r, s, so, ns, v, p, sm, rfl, hR, hn, tp, hso, hne, hs0, hs1, hpl, hpp, k⟩ := h
  refine ⟨_, (pss_cons (ps_set (i := 3) sc__law_ways.nd rfl (Or.inl rfl) (pe_lst pa_nil))
  (pss_cons (ps_for (passes_of rfl) rfl (kpi_tup K (pv 1)) (kpg_tup K rfl (pgs_cons (pg_name (i := 4) sc__law_ways.nd rfl (Or.inl rfl)) (pgs_cons (pg_name (i := 5) sc__law_ways.nd rfl (Or.inl rfl)) (pgs_cons (pg_name (i := 6) sc__law_ways.nd rfl (Or.inl rfl)) pgs_nil))))
    (pss_one (ps_expr (pe_bm PySem.F.plainAttrs_list PySem.F.slot_list_append PySem.F.type_list_append mt_append (pv 3) (pa_cons (pe_callTy (kc_tuple K) rfl T.b_tuple (by decide +kernel) (pa_cons (pe_lc (own := [("_law_k", 7)]) (g := gName 7) (tt := tYes) rfl sc__law_ways.nd (pi_range1 rfl T.b_range (pa_cons (pv 4) pa_nil)) (blkOk_by (N := ["_law_row", "_law_program_here", "_law_some", "_law_found", "_law_params", "_law_owns", "_law_body_here", "_law_k"]) (sc := defScope s__law_ways) (by decide +kernel)) (fun _ _ _ _ _ => (pg_name (i := 7) sc__law_ways.nd rfl (Or.inl rfl))) (fun _ _ _ _ _ => pts_nil) (fun _ _ _ _ _ => (pe_ix (kix_list K) (pv 2) (pe_call G__law_taken (hr.mono (by omega)) (by rfl) T.g__law_taken T.k__law_taken T.bd__law_taken .nil pass0 (pa_cons (pv 0) (pa_cons (pe_callB (kc_len K) rfl T.b_len PySem.boot_len (pa_cons (pv 2) pa_nil)) pa_nil))) (fun _ _ => rfl)))) pa_nil)) pa_nil)))))
  (pss_one (ps_ret (pe_callTy (kc_tuple K) rfl T.b_tuple (by decide +kernel) (pa_cons (pv 3) pa_nil)))))), ?_⟩
  refine Pst.go (K := K) ?_
  refine pst_asgL (edl_lst eda_nil (by simp)) fun fl xs0 H1 hfl e1 hx1 ht1 => ?_
  cases ht1
  have offf := hR.off hfl
  have hsf : so ≠ fl := by
    intro e
    rw [WdsAt, e, hfl] at hso
    cases hso
  refine pst_of fun H2 e2 => ?_
  have tp2 := tp.ex (e1.trans e2)
  refine w_seq (w_forT3 (K := K) p (fun w => .int (w.params : Int)) (fun w => .int (w.owns : Int)) (fun w => .tuple (encB w.body)) rfl tp2 (fun i σ' H' => ∃ (ys : List (List Str)) (xs : List V) (u4 u5 u6 : Option V), σ' = [some (.ref r), some v, some (.ref so), some (.ref fl), u4, u5, u6, none] ∧ H' fl = some (.lst xs) ∧ TdAll K H' xs (ys.map fun y => .tuple (y.map PyData.str)) ∧ ys.length = i ∧ (∀ j y, ys[j]? = some y → y.length = shP (shapes p) j ∧ ∀ z ∈ y, z ∈ sm) ∧ Fr [fl, r] H2 H' ∧ RowAt K s ns H' r) ?_ ?_ ?_ ?_)
  · exact ⟨[], [], _, _, _, rfl, e2 _ _ hx1, .nil, rfl, by simp, Fr.refl, (hR.ex e1).ex e2⟩
  · rintro i σ' H' ⟨ys, xs, u4, u5, u6, rfl, hxs, hall, hlen, hys, hf, hR'⟩
    refine hf.keep fun a ha => ?_
    rcases List.mem_cons.mp ha with e | ha
    · rw [e]; exact ⟨_, e2 _ _ hx1, True.intro⟩
    · have e : a = r := by simpa using ha
      rw [e]
      exact ((hR.ex e1).ex e2).mu
  · rintro i wk v1 v2 v3 σ' H' hwk t1 t2 t3 ⟨ys, xs, u4, u5, u6, rfl, hxs, hall, hlen, hys, hf, hR'⟩
    have hwp := hpp wk (List.mem_of_getElem? hwk)
    have hil : i < p.length := (List.getElem?_eq_some_iff.mp hwk).1
    have epp : shP (shapes p) i = wk.params := by simp [shP, shapes, List.getD, hwk]
    have hwd : WdsAt K so sm H' := hf _ _ (by simp [hsf, hne]) (e2 _ _ (e1 _ _ hso))
    dsimp only
    refine w_app rfl hxs (w_tupl (w_lcR (K := K) (n := wk.params) ?_ (by omega) (fun _ => rfl) (fun q j H14 => H' q = none ∧ ∃ (y : List Str), H14 q = some (.lst (y.map V.str)) ∧ y.length = j ∧ (∀ z ∈ y, z ∈ sm) ∧ Fr [q, r] H' H14 ∧ RowAt K s ns H14 r) ?_ ?_ ?_))
    · exact eda_cons (ed_var rfl t1) eda_nil
    · intro H14 q e14 hq
      exact ⟨fresh_back e14 hq, [], upd_same, rfl, by simp, Fr.of (e14.trans (Ex.new hq)), hR'.ex (e14.trans (Ex.new hq))⟩
    · rintro q j H14 hj ⟨hq0, y, hx, hl, hg, hf14, R14⟩
      have off := hR'.off hq0
      have hqs : so ≠ q := by
        intro e
        rw [WdsAt, e, hq0] at hwd
        cases hwd
      have hwd14 : H14 so = some (.lst (sm.map V.str)) := hf14 _ _ (by simp [hqs, hne]) hwd
      refine w_op (w_v rfl (w_taken rfl R14 hn (m := (sm.length : Int)) ?_ (by omega) (by omega) fun kk H15 hkk f15 R15 => ?_))
      · apply ed_is
        · exact ed_lenV (ev_var rfl) (SqL.of hwd14)
        · simp
      have hkk2 : kk < sm.length := by omega
      have hx15 := f15 q _ (by simpa using off.1) hx
      refine ⟨so, _, (kk : Int), .str sm[kk], rfl, rfl, SqL.of (f15 _ _ (by simpa using hne) hwd14), atI_nat (by rw [List.getElem?_map, List.getElem?_eq_getElem hkk2] <;> rfl), ?_⟩
      refine ⟨_, hx15, by simp; exact sz_lt (by omega), hq0, y ++ [sm[kk]], by simp [upd_same], by simp [hl], ?_, (hf14.trans (f15.sub (by simp))).trans (Fr.upd (by simp)), R15.updo off⟩
      intro z hz
      rcases List.mem_append.mp hz with hz | hz
      · exact hg z hz
      · have : z = sm[kk] := by simpa using hz
        rw [this]
        exact List.getElem_mem hkk2
    · rintro q H14 ⟨hq0, y, hx, hl, hg, hf14, R14⟩
      refine tupl_go hx fun l hl2 => ?_
      have f14 : Fr [r] H' H14 := Fr.fresh hf14 hq0
      have e15 : Ex H14 (upd H14 l (.tup (y.map V.str))) := Ex.new hl2
      have t15 : Td K (upd H14 l (.tup (y.map V.str))) (.ref l) (.tuple (y.map PyData.str)) := by
        refine .tup (SqT.of upd_same) ?_
        have : ∀ y : List Str, TdAll K (upd H14 l (.tup (y.map V.str))) (y.map V.str) (y.map PyData.str) → True := fun _ _ => True.intro
        have g : ∀ (H : Hp) (y : List Str), TdAll K H (y.map V.str) (y.map PyData.str) := by
          intro H y
          induction y with
          | nil => exact .nil
          | cons a b ih => exact .cons (.str _) ih
        exact g _ y
      have hx15 : (upd H14 l (.tup (y.map V.str))) fl = some (.lst xs) := e15 _ _ (f14 _ _ (by simpa using offf.1) hxs)
      have hall15 := (hall.kp (hR'.keep f14)).ex e15
      have R15 := R14.ex e15
      have f15 : Fr [r] H' (upd H14 l (.tup (y.map V.str))) := f14.trans (Fr.of e15)
      generalize upd H14 l (.tup (y.map V.str)) = H15 at *
      have kk : Keep K H15 (upd H15 fl (.lst (xs ++ [.ref l]))) := Keep.upd hx15 True.intro
      refine ⟨xs, hx15, by rw [hall.length, List.length_map]; exact sz_lt (by omega), ys ++ [y], xs ++ [.ref l], _, _, _, rfl, upd_same, ?_, by simp [hlen], ?_, (hf.trans (f15.sub (by simp))).trans (Fr.upd (by simp)), R15.updo offf⟩
      · rw [List.map_append]
        exact (hall15.kp kk).snoc (t15.kp kk)
      · intro j z hj
        rw [List.getElem?_append] at hj
        split at hj
        · exact hys j z hj
        · rename_i hjl
          have e0 : j - ys.length = 0 := by
            obtain ⟨h, _⟩ := List.getElem?_eq_some_iff.mp hj
            simp at h
            exact h
          have ej : j = i := by omega
          rw [e0] at hj
          simp at hj
          subst hj ej
          exact ⟨by rw [hl, epp], hg⟩
  · rintro σ' H' ⟨ys, xs, u4, u5, u6, rfl, hxs, hall, hlen, hys, hf, hR'⟩
    dsimp only
    refine w_ret (w_d (K := K) (ed_tupL (edr_var rfl (SqL.of hxs) hall)) fun v H11 e11 t11 => ?_)
    exact k ys v H11 ⟨hlen, hys⟩ ((((Fr.of e1).trans (Fr.of e2)).trans hf |>.fresh hfl).trans (Fr.of e11)) (hR'.ex e11) t11
end
end Hw

set_option maxRecDepth 100000
set_option maxHeartbeats 4000000
/-! GO: what is drawn is let by -/
namespace Hw
open PySem PySem.Spec PyProof.Rows L2 Evl
theorem goT_ok {shs : List (Nat × Nat)} {i : Nat} {t : Th} (h : goT shs i t = true) : okT (shP shs i) (shO shs i) t 0 = true := by
  simp only [goT, Bool.and_eq_true, decide_eq_true_eq] at h
  exact okT_of t 0 h.1 (by omega)
mutual
theorem goS_ok {shs : List (Nat × Nat)} {i : Nat} : ∀ (s : Stm) (n w : Nat), w + n ≤ 4 → goS shs i n s = true → okS shs i s w = true
  | .set p t, n, w, hw, h => by
    cases n <;>
    · simp only [goS, Bool.and_eq_true] at h
      simp only [okS, goT_ok h.1, goT_ok h.2.2, h.2.1, Bool.and_true, decide_eq_true_eq]
      omega
  | .say t, n, w, hw, h => by
    cases n <;>
    · simp only [goS] at h
      simp only [okS, goT_ok h, Bool.and_true, decide_eq_true_eq]
      omega
  | .call c ts, n, w, hw, h => by
    cases n <;>
    · simp only [goS, Bool.and_eq_true, decide_eq_true_eq, List.all_eq_true] at h
      simp only [okS, Bool.and_eq_true, decide_eq_true_eq, List.all_eq_true]
      exact ⟨by omega, h.2.1, h.1, h.2.2.1, fun t ht => goT_ok (h.2.2.2 t ht)⟩
  | .ite t a b, 0, w, hw, h => by simp [goS] at h
  | .ite t a b, n + 1, w, hw, h => by
    simp only [goS, Bool.and_eq_true, decide_eq_true_eq] at h
    simp only [okS, Bool.and_eq_true, decide_eq_true_eq]
    exact ⟨by omega, goT_ok h.1, goB_ok a n (w + 1) (by omega) h.2.1.2, goB_ok b n (w + 1) (by omega) h.2.2.2⟩
theorem goB_ok {shs : List (Nat × Nat)} {i : Nat} : ∀ (b : List Stm) (n w : Nat), w + n ≤ 4 → goB shs i n b = true → okB shs i b w = true
  | [], n, w, hw, h => by simp [okB]
  | s :: r, n, w, hw, h => by
    simp only [goB, Bool.and_eq_true] at h
    simp only [okB, Bool.and_eq_true]
    exact ⟨goS_ok s n w hw h.1, goB_ok r n w hw h.2⟩
end
mutual
theorem goS_sm {shs : List (Nat × Nat)} {i : Nat} (h3 : ∀ i, shP shs i ≤ 3) : ∀ (s : Stm) (n : Nat), goS shs i n s = true → smS s = true
  | .set p t, n, h => by simp [smS]
  | .say t, n, h => by simp [smS]
  | .call c ts, n, h => by
    have := h3 c
    cases n <;>
    · simp only [goS, Bool.and_eq_true, decide_eq_true_eq, List.all_eq_true] at h
      simp only [smS, decide_eq_true_eq]
      omega
  | .ite t a b, 0, h => by simp [goS] at h
  | .ite t a b, n + 1, h => by
    simp only [goS, Bool.and_eq_true, decide_eq_true_eq] at h
    simp only [smS, Bool.and_eq_true, decide_eq_true_eq]
    exact ⟨⟨by omega, by omega⟩, goB_sm h3 a n h.2.1.2, goB_sm h3 b n h.2.2.2⟩
theorem goB_sm {shs : List (Nat × Nat)} {i : Nat} (h3 : ∀ i, shP shs i ≤ 3) : ∀ (b : List Stm) (n : Nat), goB shs i n b = true → smB b = true
  | [], n, h => by simp [smB]
  | s :: r, n, h => by
    simp only [goB, Bool.and_eq_true] at h
    simp only [smB, Bool.and_eq_true]
    exact ⟨goS_sm h3 s n h.1, goB_sm h3 r n h.2⟩
end
theorem goH_le {shs : List (Nat × Nat)} (h : GoH shs) (i : Nat) : shP shs i ≤ 3 := by
  cases hi : shs[i]? with
  | none => simp [shP, List.getD, hi]
  | some w =>
    have := (h.ok w (List.mem_of_getElem? hi)).1
    simpa [shP, List.getD, hi] using this
theorem goP_sm {most : Nat} {p : List Wk} (h : GoP most p) : smP p := by
  have hl := h.hs.len
  simp only [shapes, List.length_map] at hl
  refine ⟨by omega, fun w hw => ?_⟩
  obtain ⟨i, hi⟩ := List.mem_iff_getElem?.mp hw
  have g := h.ws i w hi
  exact ⟨by have := g.len; omega, goB_sm (goH_le h.hs) _ _ g.go⟩
theorem goP_ok {most : Nat} {p : List Wk} (h : GoP most p) (hm : most ≤ 98) : okP p = true := by
  have hl := h.hs.len
  simp only [shapes, List.length_map] at hl
  simp only [okP, Bool.and_eq_true, decide_eq_true_eq, List.all_eq_true, List.mem_range]
  refine ⟨hl.1, hl.2, fun i hi => ?_⟩
  have hw : p[i]? = some p[i] := List.getElem?_eq_getElem hi
  have g := h.ws i _ hw
  have hb := h.hs.ok _ (List.mem_of_getElem? g.sh)
  have h0 : i ≠ 0 ∨ p[i].params = 0 := by
    by_cases e : i = 0
    · have h1 := h.hs.fst
      have h2 := g.sh
      subst e
      simp [shP, List.getD, h2] at h1
      exact .inr h1
    · exact .inl e
  simp only [okW, hw, Bool.and_eq_true, decide_eq_true_eq, Bool.or_eq_true]
  exact ⟨hb.1, by have := hb.2; omega, h0, goB_ok _ 2 0 (by decide) g.go, by have := g.cnt; omega⟩
theorem goY_ok {p : List Wk} {sm : List Str} {ys : List (List Str)} (h : goY p sm ys) (hs : ∀ z ∈ sm, isWay z = true) : okY p ys = true := by
  simp only [okY, Bool.and_eq_true, decide_eq_true_eq, List.all_eq_true, List.mem_range]
  refine ⟨h.1, fun i hi => ?_⟩
  obtain ⟨y, hy⟩ : ∃ y, ys[i]? = some y := ⟨_, List.getElem?_eq_getElem (by have := h.1; omega)⟩
  have g := h.2 i _ hy
  have e : ys.getD i [] = y := by simp [List.getD, hy]
  rw [e]
  exact ⟨g.1, fun z hz => hs z (g.2 z hz)⟩
theorem goY_sm {most : Nat} {p : List Wk} {sm : List Str} {ys : List (List Str)} (g : GoP most p) (h : goY p sm ys) (hs : ∀ z ∈ sm, (PyData.str z).canLay0 = true) : smY ys := by
  have hl := g.hs.len
  simp only [shapes, List.length_map] at hl
  refine ⟨by have := h.1; omega, fun y hy => ?_⟩
  obtain ⟨i, hi⟩ := List.mem_iff_getElem?.mp hy
  have g2 := h.2 i y hi
  have := goH_le g.hs i
  exact ⟨by omega, fun z hz => hs z (g2.2 z hz)⟩
theorem way_all : ∀ z ∈ (["copy", "place", "back", "want"] : List Str), isWay z = true ∧ (PyData.str z).canLay0 = true := by
  intro z hz
  simp only [List.mem_cons, List.not_mem_nil, or_false] at hz
  rcases hz with e | e | e | e <;> subst e <;> exact ⟨by decide +kernel, by decide +kernel⟩
end Hw

set_option maxRecDepth 100000
set_option maxHeartbeats 4000000
/-! Z3: zip of three tuples -/
namespace Hw
open PySem PySem.Spec PyProof.Rows L2 Evl
/-- three tuples at each turn, the items in new threes -/
def Itz3 (K : PySem.W.Frag) (a b c : Addr) : It :=
  ⟨fun i H => ∃ (xs ys zs : List V) (x y z : V), SqT K H a xs ∧ SqT K H b ys ∧ SqT K H c zs ∧ xs[i]? = some x ∧ ys[i]? = some y ∧ zs[i]? = some z,
    fun i H v H' => ∃ T x y z, v = .ref T ∧ H T = none ∧ H' = upd H T (.tup [x, y, z]) ∧ (∀ xs, SqT K H a xs → xs[i]? = some x) ∧ (∀ ys, SqT K H b ys → ys[i]? = some y) ∧ ∀ zs, SqT K H c zs → zs[i]? = some z,
    fun i H => ∃ xs ys zs : List V, SqT K H a xs ∧ SqT K H b ys ∧ SqT K H c zs ∧ xs.length = i ∧ ys.length = i ∧ zs.length = i⟩
theorem turn_zip3 {P : Program} {w : World} {K : PySem.W.Frag} {elts : List Expr} {kk : Nat} {tpos : Pos} {a b c N : Addr} (ha : a < N) (hb : b < N) (hc : c < N) :
    Turn P w K (.Tuple elts kk tpos) (Itz3 K a b c) [N + 5, N + 3, N + 4, N, N + 1, N + 2] (N + 5) (fun i h => IsZip h (N + 5) (N + 3) (N + 4) .none ∧ IsTupOf3 h (N + 3) (.ref N) (.ref (N + 1)) (.ref (N + 2)) ∧ (∃ x y z, IsTupOf3 h (N + 4) x y z) ∧ h.IsTupleIter N a i ∧ h.IsTupleIter (N + 1) b i ∧ h.IsTupleIter (N + 2) c i) where
  mem := by simp
  obj := fun i h st q hq => by
    obtain ⟨hz, hTI, ⟨x, y, z, hTO⟩, ⟨o1, e1, _, d1⟩, ⟨o2, e2, _, d2⟩, ⟨o3, e3, _, d3⟩⟩ := st
    have e' : q = N + 5 ∨ q = N + 3 ∨ q = N + 4 ∨ q = N ∨ q = N + 1 ∨ q = N + 2 := by simpa using hq
    rcases e' with e | e | e | e | e | e
    · rw [e]; exact ⟨_, hz, fun v q => nomatch q⟩
    · rw [e]; exact ⟨_, hTI, fun v q => nomatch q⟩
    · rw [e]; exact ⟨_, hTO, fun v q => nomatch q⟩
    · rw [e]; exact ⟨o1, e1, fun v q => by rw [d1] at q; cases q⟩
    · rw [e]; exact ⟨o2, e2, fun v q => by rw [d2] at q; cases q⟩
    · rw [e]; exact ⟨o3, e3, fun v q => by rw [d3] at q; cases q⟩
  keep := fun i h h' st k => by
    obtain ⟨hz, hTI, ⟨x, y, z, hTO⟩, h1, h2, h3⟩ := st
    exact ⟨k _ (by simp) _ hz, k _ (by simp) _ hTI, ⟨x, y, z, k _ (by simp) _ hTO⟩, h1.at fun o q => k _ (by simp) o q, h2.at fun o q => k _ (by simp) o q, h3.at fun o q => k _ (by simp) o q⟩
  item := by
    intro X hP hw hK hcm i pins s σ H E I hf st hg
    subst hP hw hK
    obtain ⟨hz, hTI, ⟨x0, y0, z0, hTO⟩, h1, h2, h3⟩ := st
    obtain ⟨xs, ys, zs, x, y, z, hqx, hqy, hqz, hx, hy, hzz⟩ := hg
    obtain ⟨its, rv, p, _⟩ := I.tuple hqx
    obtain ⟨its2, rv2, p2, _⟩ := I.tuple hqy
    obtain ⟨its3, rv3, p3, _⟩ := I.tuple hqz
    obtain ⟨u, hu, ru⟩ := rv.get hx
    obtain ⟨u2, hu2, ru2⟩ := rv2.get hy
    obtain ⟨u3, hu3, ru3⟩ := rv3.get hzz
    have hzl : (N + 5 : Nat) < s.heap.objs.size := Heap.lt_size hz
    have hh : X.A.in1.handled = none := I.ok.hd hcm
    have l1 : i < its.toArray.size := by
      have := (List.getElem?_eq_some_iff.mp hu).1
      simpa using this
    have l2 : i < its2.toArray.size := by
      have := (List.getElem?_eq_some_iff.mp hu2).1
      simpa using this
    have l3 : i < its3.toArray.size := by
      have := (List.getElem?_eq_some_iff.mp hu3).1
      simpa using this
    refine wpAny_pyNext_zipD3_item (zip_sep3 (N := N) (fp1 := [a]) (fp2 := [b]) (fp3 := [c]) (by simpa using ha) (by simpa using hb) (by simpa using hc)) (Draws.tuple hh N a (Nat.ne_of_lt ha) its.toArray) (Draws.tuple hh (N + 1) b (Nat.ne_of_lt (Nat.lt_succ_of_lt hb)) its2.toArray) (Draws.tuple hh (N + 2) c (Nat.ne_of_lt (Nat.lt_succ_of_lt (Nat.lt_succ_of_lt hc))) its3.toArray)
      hz hTI hTO ⟨h1, p⟩ ⟨h2, p2⟩ ⟨h3, p3⟩ l1 l2 l3 fun v1 v2 v3 h' tk q1 q2 q3 z' TO' h1' h2' h3' hT hsz hk => ?_
    have e1 : v1 = u := by
      have : its[i]? = some v1 := by simpa using q1
      rw [hu] at this
      exact (Option.some.inj this).symm
    have e2 : v2 = u2 := by
      have : its2[i]? = some v2 := by simpa using q2
      rw [hu2] at this
      exact (Option.some.inj this).symm
    have e3 : v3 = u3 := by
      have : its3[i]? = some v3 := by simpa using q3
      rw [hu3] at this
      exact (Option.some.inj this).symm
    subst e1 e2 e3
    refine ⟨_, rfl, wpAny_letOwnedTupleGo_zip (s := { s with heap := h', toks := tk }) z' fun h'' z'' sb => ?_⟩
    have hT2 : h''.get? s.heap.objs.size = some { cls := .type "tuple", data := .seq #[v1, v2, v3] } := (sb.2 _ (Nat.ne_of_gt hzl)).trans hT
    have new : ObjOk X.prog X.w (upd H s.heap.objs.size (.tup [x, y, z])) h'' s.heap.objs.size (.tup [x, y, z]) :=
      ⟨by show 3 ≤ sizeLine; decide, [v1, v2, v3], .cons ru (.cons ru2 (.cons ru3 .nil)), ⟨_, hT2, rfl, _, rfl⟩⟩
    have I1 : Inv X pins σ (upd H s.heap.objs.size (.tup [x, y, z])) { s with heap := h'', toks := tk } :=
      I.turnedNew (t' := tk) (ch := [N + 5, N + 3, N + 4, N, N + 1, N + 2]) (fun q o hb q' => (sb.2 q (fun e => hb (by simp [e]))).trans (hk q o (fun e => hb (by simp [e])) (fun e => hb (by simp [e])) (fun e => hb (by simp [e])) (fun e => hb (by simp [e])) (fun e => hb (by simp [e])) q')) hf (Nat.le_refl _) new
    have ne : ∀ {m n : Nat}, m ≠ n → N + m ≠ N + n := fun h e => h (Nat.add_left_cancel e)
    refine ⟨.ref s.heap.objs.size, _, I1, rfl, ⟨_, x, y, z, rfl, I.hok.fresh (Nat.le_refl _), rfl, fun l hl => by rw [I.tuple_inj hl hqx]; exact hx, fun l hl => by rw [I.tuple_inj hl hqy]; exact hy, fun l hl => by rw [I.tuple_inj hl hqz]; exact hzz⟩, ⟨z'', ?_, ⟨v1, v2, v3, ?_⟩, ?_, ?_, ?_⟩, fun q hq => ?_⟩
    · exact (sb.2 _ (ne (m := 3) (n := 5) (by decide))).trans (hk _ _ (ne (m := 3) (n := 5) (by decide)) (ne (m := 3) (n := 4) (by decide)) (ne (m := 3) (n := 0) (by decide)) (ne (m := 3) (n := 1) (by decide)) (ne (m := 3) (n := 2) (by decide)) hTI)
    · exact (sb.2 _ (ne (m := 4) (n := 5) (by decide))).trans TO'
    · exact h1'.1.at fun o q => (sb.2 _ (ne (m := 0) (n := 5) (by decide))).trans q
    · exact h2'.1.at fun o q => (sb.2 _ (ne (m := 1) (n := 5) (by decide))).trans q
    · exact h3'.1.at fun o q => (sb.2 _ (ne (m := 2) (n := 5) (by decide))).trans q
    · have hlt : q < s.heap.objs.size := by
        have e' : q = N + 5 ∨ q = N + 3 ∨ q = N + 4 ∨ q = N ∨ q = N + 1 ∨ q = N + 2 := by simpa using hq
        have hN : (N : Nat) + 5 < s.heap.objs.size := hzl
        rcases e' with e | e | e | e | e | e <;> rw [e] <;> first | exact hN | exact Nat.lt_of_le_of_lt (Nat.add_le_add_left (by decide) N) hN | exact Nat.lt_of_le_of_lt (Nat.le_add_right N 5) hN
      rw [upd_ne (Nat.ne_of_lt hlt)]
      exact (hf q hq).1
  done := by
    intro X hP hw hK hcm i pins s σ H E I hf st hg
    subst hP hw hK
    obtain ⟨hz, hTI, ⟨x0, y0, z0, hTO⟩, h1, h2, h3⟩ := st
    obtain ⟨xs, ys, zs, hqx, hqy, hqz, l1, l2, l3⟩ := hg
    obtain ⟨its, rv, p, _⟩ := I.tuple hqx
    obtain ⟨its2, rv2, p2, _⟩ := I.tuple hqy
    obtain ⟨its3, rv3, p3, _⟩ := I.tuple hqz
    have hh : X.A.in1.handled = none := I.ok.hd hcm
    have m1 : i = its.toArray.size := by have := rv.length; simp; omega
    have m2 : i = its2.toArray.size := by have := rv2.length; simp; omega
    have m3 : i = its3.toArray.size := by have := rv3.length; simp; omega
    refine wpAny_pyNext_zipD3_end (zip_sep3 (N := N) (fp1 := [a]) (fp2 := [b]) (fp3 := [c]) (by simpa using ha) (by simpa using hb) (by simpa using hc)) (Draws.tuple hh N a (Nat.ne_of_lt ha) its.toArray) (Draws.tuple hh (N + 1) b (Nat.ne_of_lt (Nat.lt_succ_of_lt hb)) its2.toArray) (Draws.tuple hh (N + 2) c (Nat.ne_of_lt (Nat.lt_succ_of_lt (Nat.lt_succ_of_lt hc))) its3.toArray)
      hz hTI hTO ⟨h1, p⟩ ⟨h2, p2⟩ ⟨h3, p3⟩ (Nat.le_of_eq m1) (Nat.le_of_eq m2) (Nat.le_of_eq m3) (.inl m1) fun h' tk hk => ⟨rfl, I.turnedL (t' := tk) (ch := [N + 5, N + 3, N + 4, N, N + 1, N + 2]) (fun q o hb q' => hk q o (fun e => hb (by simp [e])) (fun e => hb (by simp [e])) (fun e => hb (by simp [e])) (fun e => hb (by simp [e])) (fun e => hb (by simp [e])) q') hf⟩
  self := fun A i s Q E st h => wpAny_pyIter_zip st.1 h
def iZip3 (K : PySem.W.Frag) (ta : TA) : TI := fun σ H R => ta σ H fun vs H1 => ∃ a b c xs ys zs, vs = [.ref a, .ref b, .ref c] ∧ SqT K H1 a xs ∧ SqT K H1 b ys ∧ SqT K H1 c zs ∧ R (Itz3 K a b c) H1
theorem pi_zip3 {X : Cx} {e e2 e3 : Expr} {ta : TA} {p pos tpos : Pos} {elts : List Expr} {kk : Nat} (hg : Gl X "zip") (hm : X.mg "zip" = none) (ha : PA X [e, e2, e3] ta)
    (hs : starEach [e, e2, e3] X.env = (false, eval e X.env) :: starEach [e2, e3] X.env := by rfl) (hpl : (backTo pos (starEach [e2, e3] X.env)).any (·.1) = false := by rfl) :
    PI X (.Tuple elts kk tpos) (.Call (.Name "zip" p) [e, e2, e3] [] pos) (iZip3 X.K ta) := by
  refine ⟨fun pins s σ H R I h => ?_⟩
  refine Call_ (ld_blt I hg hm PyProof.Rows.boot_zip (PyProof.Rows.callWith_type1 (thn (ha.run pos pins s σ H _ I h) fun us s1 ⟨vs, H1, I1, r1, q1⟩ => ?_) hs hpl))
  obtain ⟨a, b, c, xs, ys, zs, ex, hqx, hqy, hqz, q⟩ := q1
  subst ex
  obtain _ | ⟨r, _ | ⟨r', _ | ⟨r'', _ | _⟩⟩⟩ := r1
  cases r
  cases r'
  cases r''
  obtain ⟨its, rv, p1, _⟩ := I1.tuple hqx
  obtain ⟨its2, rv2, p2, _⟩ := I1.tuple hqy
  obtain ⟨its3, rv3, p3, _⟩ := I1.tuple hqz
  obtain ⟨o1, ho1, _⟩ := id p1
  obtain ⟨o2, ho2, _⟩ := id p2
  obtain ⟨o3, ho3, _⟩ := id p3
  refine zip_begins3 (begins_tuple a its.toArray) (begins_tuple b its2.toArray) (begins_tuple c its3.toArray) p1 p2 p3 fun h' hz hTI hTO h1 h2 h3 hsz hk => wpAny_pyIter_zip hz ?_
  have I2 : Inv X pins σ H1 { s1 with heap := h' } := I1.kept (t' := s1.toks) hk
  refine ⟨s1.heap.objs.size + 5, [s1.heap.objs.size + 5, s1.heap.objs.size + 3, s1.heap.objs.size + 4, s1.heap.objs.size, s1.heap.objs.size + 1, s1.heap.objs.size + 2], _, _, H1, rfl, I2, turn_zip3 (Heap.lt_size ho1) (Heap.lt_size ho2) (Heap.lt_size ho3), ⟨hz, hTI, ⟨_, _, _, hTO⟩, ⟨_, h1, rfl, rfl⟩, ⟨_, h2, rfl, rfl⟩, ⟨_, h3, rfl, rfl⟩⟩, fun q hq => ?_, q⟩
  have e' : q = s1.heap.objs.size + 5 ∨ q = s1.heap.objs.size + 3 ∨ q = s1.heap.objs.size + 4 ∨ q = s1.heap.objs.size ∨ q = s1.heap.objs.size + 1 ∨ q = s1.heap.objs.size + 2 := by simpa using hq
  have hle : s1.heap.objs.size ≤ q := by
    rcases e' with z | z | z | z | z | z <;> rw [z] <;> first | exact Nat.le_add_right _ _ | exact Nat.le_refl _
  exact I1.fpOk hle (I1.hok.fresh hle)
theorem kpi_zip3 {X : Cx} (K : PySem.W.Frag) {e e2 e3 : Expr} {ta : TA} {p pos tpos : Pos} {elts : List Expr} {kk : Nat} (hg : Gl X "zip") (hm : X.mg "zip" = none) (ha : PA X [e, e2, e3] ta)
    (hs : starEach [e, e2, e3] X.env = (false, eval e X.env) :: starEach [e2, e3] X.env := by rfl) (hpl : (backTo pos (starEach [e2, e3] X.env)).any (·.1) = false := by rfl) (h : X.K = K := by rfl) :
    PI X (.Tuple elts kk tpos) (.Call (.Name "zip" p) [e, e2, e3] [] pos) (iZip3 K ta) := by subst h; exact pi_zip3 hg hm ha hs hpl
/-- for a, b, c in zip(t, u, v), three tuples of one length; the heap is only added to -/
theorem pst_forZ3 {K : PySem.W.Frag} {σ : L2.St} {H : Hp} {D : Ends} {tu : TS} {α β γ : Type} {ta : TA} {j l m : Nat} (xs : List α) (ys : List β) (zs : List γ) (f : α → PyData) (g : β → PyData) (k : γ → PyData) (h : EvDA K ta σ H [.tuple (xs.map f), .tuple (ys.map g), .tuple (zs.map k)]) (hl : xs.length = ys.length) (hl2 : xs.length = zs.length)
    (Pv : Nat → L2.St → Hp → Prop) (hst : ∀ i σ' H1 H2, Ex H1 H2 → Pv i σ' H1 → Pv i σ' H2) (h0 : Pv 0 σ H)
    (hs : ∀ i x y z v u w σ' H1, xs[i]? = some x → ys[i]? = some y → zs[i]? = some z → Ex H H1 → Td K H1 v (f x) → Td K H1 u (g y) → Td K H1 w (k z) → Pv i σ' H1 →
      ∀ N : L2.St → Hp → Prop, (∀ σ2 H2, Pv (i + 1) σ2 H2 → Ex H1 H2 → N σ2 H2) → Pst K tu { D with nx := N, ct := N, bk := D.nx } (((σ'.set j (some v)).set l (some u)).set m (some w)) H1)
    (hd : ∀ σ' H1, Ex H H1 → Pv xs.length σ' H1 → D.nx σ' H1) : Pst K (tFor (iZip3 K ta) (gTup K 3 (gCons (gName j) (gCons (gName l) (gCons (gName m) gNil)))) tu) D σ H := fun H1 a => h H1 a _ fun ws H2 e tw => by
  obtain _ | ⟨w1, _ | ⟨w2, _ | ⟨w3, _ | _⟩⟩⟩ := tw
  obtain ⟨pa, xa, rfl, ha, alla⟩ := w1.tup_inv
  obtain ⟨pb, xb, rfl, hb, allb⟩ := w2.tup_inv
  obtain ⟨pc, xc, rfl, hc, allc⟩ := w3.tup_inv
  have la := alla.length
  have lb := allb.length
  have lc := allc.length
  rw [List.length_map] at la lb lc
  have a2 := a.trans e
  refine ⟨pa, pb, pc, xa, xb, xc, rfl, ha, hb, hc, ?_⟩
  refine ⟨fun i n σ' H' => n = xs.length - i ∧ i ≤ xs.length ∧ Pv i σ' H' ∧ Ex H H' ∧ Ex H2 H', ⟨xs.length, rfl, Nat.zero_le _, hst _ _ _ _ a2 h0, a2, Ex.refl _⟩, ?_⟩
  rintro i n σ' H' ⟨rfl, hi, p1, p2, p3⟩
  by_cases hlt : i < xs.length
  · have hxa : xa[i]? = some xa[i] := List.getElem?_eq_getElem (by omega)
    have hxb : xb[i]? = some xb[i] := List.getElem?_eq_getElem (by omega)
    have hxc : xc[i]? = some xc[i] := List.getElem?_eq_getElem (by omega)
    refine .inr ⟨⟨xa, xb, xc, _, _, _, ex_t p3 ha, ex_t p3 hb, ex_t p3 hc, hxa, hxb, hxc⟩, fun σ2 H3 => Pv (i + 1) σ2 H3 ∧ Ex H H3 ∧ Ex H2 H3, fun σ2 H3 p' => ⟨xs.length - (i + 1), by omega, rfl, hlt, p'⟩, fun v H3 y => ?_⟩
    obtain ⟨T, x', y', z', rfl, hT, rfl, f1, f2, f3⟩ := y
    have q1 := f1 xa (ex_t p3 ha)
    have q2 := f2 xb (ex_t p3 hb)
    have q3 := f3 xc (ex_t p3 hc)
    obtain ⟨d1, hd1, td1⟩ := alla.getV q1
    obtain ⟨d2, hd2, td2⟩ := allb.getV q2
    obtain ⟨d3, hd3, td3⟩ := allc.getV q3
    rw [List.getElem?_map] at hd1 hd2 hd3
    obtain ⟨z1, hz1, rfl⟩ := Option.map_eq_some_iff.mp hd1
    obtain ⟨z2, hz2, rfl⟩ := Option.map_eq_some_iff.mp hd2
    obtain ⟨z3, hz3, rfl⟩ := Option.map_eq_some_iff.mp hd3
    have e4 : Ex H' (upd H' T (.tup [x', y', z'])) := Ex.new hT
    refine ⟨T, [x', y', z'], rfl, SqT.of upd_same, rfl, _, _, rfl, _, _, rfl, _, _, rfl, rfl, ?_⟩
    exact (hs i z1 z2 z3 x' y' z' σ' (upd H' T (.tup [x', y', z'])) hz1 hz2 hz3 (p2.trans e4) (td1.ex (p3.trans e4)) (td2.ex (p3.trans e4)) (td3.ex (p3.trans e4)) (hst _ _ _ _ e4 p1) _ fun σ2 H3 q1 q2 => ⟨q1, (p2.trans e4).trans q2, (p3.trans e4).trans q2⟩).go
  · have ei : i = xs.length := by omega
    subst ei
    exact .inl ⟨⟨xa, xb, xc, ex_t p3 ha, ex_t p3 hb, ex_t p3 hc, by omega, by omega, by omega⟩, hd σ' H' p2 p1⟩
end Hw

set_option maxRecDepth 100000
set_option maxHeartbeats 4000000
/-! SE1: who sets what, in the program -/
namespace Hw
open PySem PySem.Spec PyProof.Rows L2 Evl
local macro_rules | `(tactic| walk_at "dd") => `(tactic| first | rfl | decide | (simp; done) | omega)
local macro_rules | `(tactic| walk_at "td") => `(tactic| first | assumption | exact Td.int _ | exact Td.bl _ | exact Td.str _ | exact Td.non | exact Td.tup (by assumption) (by assumption))
local macro_rules | `(tactic| walk_at "ev") => `(tactic| first
  | exact ed_ci | exact ed_cs | exact ed_cb | exact ed_cn
  | (apply ed_cg; assumption)
  | (apply ed_var; (rfl); (walk_at "td"))
  | (apply ed_ixT; (walk_at "ev"); (walk_at "ev"); (first | rfl | assumption))
  | (apply ed_rowI; (rfl); (assumption); (walk_at "ev"); (rfl))
  | (apply ed_ixL; (apply EvDL.rd; walk_at "edl"); (walk_at "ev"); (rfl))
  | (apply ed_intb; (walk_at "ev"))
  | (apply ed_len; walk_at "ev")
  | (apply ed_lenV; (apply ev_rowR; (rfl); (assumption); (walk_at "ev"); (rfl)); (assumption))
  | (apply ed_Ii; (walk_at "ev"); (walk_at "ev"); (walk_at "cc"))
  | (apply ed_isi; (walk_at "ev"); (rfl))
  | (apply ed_I0i; (walk_at "ev"); (walk_at "ev"))
  | (apply ed_I0b; (walk_at "ev"); (walk_at "ev"))
  | (apply ed_eqi; (walk_at "ev"); (walk_at "ev"))
  | (apply ed_nei; (walk_at "ev"); (walk_at "ev"))
  | (apply ed_andF; walk_at "ev")
  | (apply ed_andV; (walk_at "ev"); (intro _; walk_at "ev"))
  | (apply ed_orT; walk_at "ev")
  | (apply ed_orV; (walk_at "ev"); (intro _; walk_at "ev"))
  | (apply ed_notT; walk_at "ev")
  | (apply ed_notF; walk_at "ev")
  | (apply ed_notV; walk_at "ev")
  | (apply ed_chain; (walk_at "ev"); (walk_at "ev"); (intro _; walk_at "ev"))
  | (apply ed_eqS; (walk_at "ev"); (walk_at "ev"); (walk_at "bb"); (walk_at "bb"))
  | (apply ed_neS; (walk_at "ev"); (walk_at "ev"); (walk_at "bb"); (walk_at "bb"))
  | (apply ed_inT; (walk_at "ev"); (walk_at "ev"); (rfl); (rfl))
  | (apply ed_niT; (walk_at "ev"); (walk_at "ev"); (rfl); (rfl))
  | (apply ed_tup; (walk_at "eva"); (walk_at "bb"))
  | (apply ed_sl; (walk_at "ev"); (walk_at "evo"); (walk_at "evo"))
  | (apply ed_eqN; (apply EvDL.rd; walk_at "edl"); (walk_at "edl"); (walk_at "bb"))
  | (apply ed_neN; (apply EvDL.rd; walk_at "edl"); (walk_at "edl"); (walk_at "bb"))
  | (apply ed_ixL; (apply edr_var; (rfl); (assumption); (assumption)); (walk_at "ev"); (first | rfl | assumption))
  | (apply ed_lenL; (apply edr_var; (rfl); (assumption); (assumption)))
  | (apply ed_call; (walk_at "eva"); (walk_at "post")))
local macro_rules | `(tactic| walk_at "edl") => `(tactic| first
  | assumption
  | (apply edl_lst; (walk_at "eva"); (walk_at "bb")))
local macro_rules | `(tactic| walk_at "eva") => `(tactic| first
  | exact eda_nil
  | (apply eda_cons; (walk_at "ev"); (walk_at "eva")))
local macro_rules | `(tactic| walk_at "evo") => `(tactic| first
  | exact eok_none
  | (apply eok_some; walk_at "ev"))
local macro_rules | `(tactic| walk_at "bb") => `(tactic| first | rfl | assumption | (simp; done) | (simp; omega) | decide +kernel)
local macro_rules | `(tactic| walk_at "et") => `(tactic| first
  | exact tk_yes
  | (apply tk_andF; walk_at "et")
  | (apply tk_and; (walk_at "et"); (intro _; walk_at "et"))
  | (apply tk_orT; walk_at "et")
  | (apply tk_or; (walk_at "et"); (intro _; walk_at "et"))
  | (apply tk_notT; walk_at "et")
  | (apply tk_notF; walk_at "et")
  | (apply tk_not; walk_at "et")
  | (apply tk_v; walk_at "ev")
  | (apply tk_vB; walk_at "ev"))
local macro_rules | `(tactic| walk_at "if") => `(tactic| first
  | (apply pst_whenF; (walk_at "et"); (walk_at "bb"))
  | (apply pst_whenT; (walk_at "et"); (walk_at "bb")))
local macro_rules | `(tactic| walk_at "post") => `(tactic| first | assumption | exact ⟨_, _, rfl, rfl⟩ | exact ⟨_, _, _, _, rfl, by omega, by omega, rfl⟩ | exact ⟨_, _, _, 0, rfl, by omega, by omega, rfl⟩)
local macro_rules | `(tactic| walk_at "cc") => `(tactic| first | assumption | decide | omega | (refine ⟨?_, ?_⟩ <;> first | decide | omega) | (exact Or.inl (by constructor <;> omega)))

section
variable {K : PySem.W.Frag} {σ : L2.St} {H H' : Hp} {D : Ends} {tu tz : TS} {tl td ty : TE} {v : V} {d : PyData} {kn : Addr} {n : Nat}
/-- for x in a tuple; the heap is only added to -/
theorem pst_forT {α : Type} {j : Nat} (xs : List α) (f : α → PyData) (h : EvD K tl σ H (.tuple (xs.map f)))
    (Pv : Nat → L2.St → Hp → Prop) (hst : ∀ i σ' H1 H2, Ex H1 H2 → Pv i σ' H1 → Pv i σ' H2) (h0 : Pv 0 σ H)
    (hs : ∀ i x v σ' H1, xs[i]? = some x → Ex H H1 → Td K H1 v (f x) → Pv i σ' H1 → ∀ N : L2.St → Hp → Prop, (∀ σ2 H2, Pv (i + 1) σ2 H2 → Ex H1 H2 → N σ2 H2) → Pst K tu { D with nx := N, ct := N, bk := tz D } (σ'.set j (some v)) H1)
    (hd : ∀ σ' H1, Ex H H1 → Pv xs.length σ' H1 → Pst K tz D σ' H1) : Pst K (tSeq (tFor (iTup K tl) (gName j) tu) tz) D σ H := fun H1 a => h H1 a _ fun w H2 e tw => by
  obtain ⟨pa, xa, rfl, ha, alla⟩ := tw.tup_inv
  have la := alla.length
  rw [List.length_map] at la
  have a2 := a.trans e
  refine ⟨pa, rfl, ⟨xa, ha⟩, for_tup (fun i σ' H' => Pv i σ' H' ∧ Ex H H' ∧ Ex H2 H') ⟨hst _ _ _ _ a2 h0, a2, Ex.refl _⟩ (fun i σ' H' _ p => ex_t p.2.2 ha) (fun i x σ' H' hi p => ?_) (fun σ' H' p => (hd σ' H' p.2.1 (by rw [← la]; exact p.1)).go)⟩
  obtain ⟨p1, p2, p3⟩ := p
  obtain ⟨d1, hd1, td1⟩ := alla.getV hi
  rw [List.getElem?_map] at hd1
  obtain ⟨z1, hz1, rfl⟩ := Option.map_eq_some_iff.mp hd1
  exact (hs i z1 x σ' H' hz1 p2 (td1.ex p3) p1 _ fun σ2 H3 q1 q2 => ⟨q1, p2.trans q2, p3.trans q2⟩).go
theorem ed_dgetI {kvs : List (Key × V)} {c : Int} (hs : σ[n]? = some (some (.ref kn))) (hk : H kn = some (.dK kvs)) (hy : EvD K ty σ H (.int c)) (hv : valV kvs (Sum.inl c) = some v) (tv : Td K H v d) : EvD K (tDGet (tVar n) ty) σ H d := fun H1 a Q q =>
  ⟨.ref kn, hs, hy.iv H1 a _ fun H2 e2 => ⟨kn, v, rfl, by
    have := DGet.k (k := Sum.inl c) ((a.trans e2) kn _ hk)
    rw [hv] at this
    exact this, q v H2 e2 (tv.ex (a.trans e2))⟩⟩
end
theorem eqv_par (t : Th) (k : Nat) : PyData.eqv (encT t) (.tuple [.str "par", .int (k : Int)]) = decide (t = .par k) := by
  have n1 : ¬ Str.ofString "num" = Str.ofString "par" := by decide +kernel
  have n2 : ¬ Str.ofString "cell" = Str.ofString "par" := by decide +kernel
  have n3 : ¬ Str.ofString "own" = Str.ofString "par" := by decide +kernel
  cases t with
  | par n =>
    simp [encT, PyData.eqv, PyData.eqvAll]
    rw [Bool.eq_iff_iff]
    simp
    omega
  | num n => simp [encT, PyData.eqv, PyData.eqvAll, n1]
  | cell t => simp [encT, PyData.eqv, PyData.eqvAll, n2]
  | own t => simp [encT, PyData.eqv, PyData.eqvAll, n3]
  | sum a b => simp [encT, PyData.eqv, PyData.eqvAll]
/-- the call hands its thing i on to a work that so may set it -/
def hitC (ys : List (List Str)) (ks : Nat → Option (List Bool)) (param c : Nat) (ts : List Th) (i : Nat) : Bool := ((ks c).getD []).getD i false && (!PyData.eqv (.str ((ys.getD c []).getD i "copy")) (.str "copy") && decide (ts.getD i (.num 0) = .par param))
mutual
def setsS (ys : List (List Str)) (ks : Nat → Option (List Bool)) (param : Nat) : Stm → Bool
  | .set p _ => decide (p = .par param)
  | .say _ => false
  | .ite _ a b => setsB ys ks param a || setsB ys ks param b
  | .call c ts => (List.range ts.length).any (hitC ys ks param c ts)
def setsB (ys : List (List Str)) (ks : Nat → Option (List Bool)) (param : Nat) : List Stm → Bool
  | [] => false
  | s :: r => setsS ys ks param s || setsB ys ks param r
end
theorem setsB_any (ys : List (List Str)) (ks : Nat → Option (List Bool)) (param : Nat) : ∀ b : List Stm, setsB ys ks param b = b.any (setsS ys ks param)
  | [] => rfl
  | s :: r => by simp [setsB, setsB_any ys ks param r]
/-! the calls of a body -/
mutual
def callsS : Stm → List (Nat × List Th)
  | .call c ts => [(c, ts)]
  | .ite _ a b => callsB a ++ callsB b
  | _ => []
def callsB : List Stm → List (Nat × List Th)
  | [] => []
  | s :: r => callsS s ++ callsB r
end
theorem callsB_mem : ∀ {b : List Stm} {s : Stm} {x : Nat × List Th}, s ∈ b → x ∈ callsS s → x ∈ callsB b
  | y :: r, s, x, hs, hx => by
    simp only [callsB, List.mem_append]
    rcases List.mem_cons.mp hs with e | hs
    · subst e; exact .inl hx
    · exact .inr (callsB_mem hs hx)
theorem callsS_bods {s : Stm} {b : List Stm} {x : Nat × List Th} (hb : b ∈ bods s) (hx : x ∈ callsB b) : x ∈ callsS s := by
  cases s with
  | ite t a c =>
    simp only [bods, List.mem_cons, List.not_mem_nil, or_false] at hb
    simp only [callsS, List.mem_append]
    rcases hb with e | e <;> subst e
    · exact .inl hx
    · exact .inr hx
  | _ => simp [bods] at hb
/-- the known ones stand at kn -/
def KnAt (K : PySem.W.Frag) (kn : Addr) (ks : Nat → Option (List Bool)) (H : Hp) : Prop := ∃ kvs, H kn = some (.dK kvs) ∧ ∀ c bs, ks c = some bs → ∃ v, valV kvs (Sum.inl (c : Int)) = some v ∧ Td K H v (.tuple (bs.map PyData.bool))
theorem KnAt.ex {K : PySem.W.Frag} {kn : Addr} {ks : Nat → Option (List Bool)} {H H' : Hp} (h : KnAt K kn ks H) (e : Ex H H') : KnAt K kn ks H' := by
  obtain ⟨kvs, h1, h2⟩ := h
  refine ⟨kvs, e _ _ h1, fun c bs hc => ?_⟩
  obtain ⟨v, h3, h4⟩ := h2 c bs hc
  exact ⟨v, h3, h4.ex e⟩
/-- each call fits the ways and what is known of the work -/
def fitC (ys : List (List Str)) (ks : Nat → Option (List Bool)) (x : Nat × List Th) : Prop := ∃ y bs, ys[x.1]? = some y ∧ ks x.1 = some bs ∧ y.length = x.2.length ∧ bs.length = x.2.length ∧ ∀ z ∈ y, (PyData.str z).canLay0 = true
def spSets (K : PySem.W.Frag) (n : Nat) : Sp := fun vs H Q _ => ∃ (b y : V) (kn : Addr) (param : Nat) (body : List Stm) (ys : List (List Str)) (ks : Nat → Option (List Bool)), vs = [b, .int (param : Int), y, .ref kn] ∧ Td K H b (.tuple (encB body)) ∧ Td K H y (encY ys) ∧ KnAt K kn ks H ∧ dpB body + 1 ≤ n ∧ smB body = true ∧ body.length ≤ 1000 ∧ (∀ x ∈ callsB body, fitC ys ks x) ∧
  ∀ H', Ex H H' → Q (.bl (setsB ys ks param body)) H'
theorem bods_len (x : Stm) : (bods x).length ≤ 2 := by cases x <;> simp [bods]
theorem any_filter {α : Type} {f : α → Bool} {g : α → PyData} (l : List α) : l.any f = !((l.filter f).map g).isEmpty := by
  induction l with
  | nil => rfl
  | cons a r ih =>
    rw [List.any_cons, List.filter_cons]
    cases h : f a with
    | true => simp
    | false => simpa using ih
theorem sets_bods {ys : List (List Str)} {ks : Nat → Option (List Bool)} {param : Nat} {x : Stm} (h : (bods x).any (setsB ys ks param) = true) : setsS ys ks param x = true := by
  cases x with
  | ite t a b => simpa [bods, setsS] using h
  | _ => simp [bods] at h
section
variable {P : Program} {w : World} {K : PySem.W.Frag} {mg : Str → Option Value} {base : Heap} (T : Tx K mg)
include T
theorem ok_sets (GB : Fn_bodies_of T P w base CX0 1 (spF K pBods)) : ∀ n : Nat, Fn_sets T P w base CX0 (n + 1) (spSets K n) := by
  intro n
  induction n with
  | zero => exact fn_vac fun vs H Q E h => by obtain ⟨_, _, _, _, _, _, _, _, _, _, _, h, _⟩ := h; omega
  | succ n ih =>
    have G_bodies_of := GB
    have G_sets := ih
    refine T.F_sets.ok sc_sets (fun vs H Q E h => by obtain ⟨_, _, _, _, _, _, _, rfl, _⟩ := h; rfl) fun cdv A outer s0 H vs Q E hr h => ?_
    obtain ⟨b, y, kn, param, body, ys, ks, rfl, tb, ty, hkn, hdp, hsm, hlen, hfit, k⟩ := h
    refine ⟨_, (pss_cons (ps_for (passes_of rfl) rfl (kpi_tup K (pv 0)) (pg_name (i := 4) sc_sets.nd rfl (Or.inl rfl))
    (pss_cons (ps_if (PW.pt (pw_and (pt_cmpR (kop_eq K hr.units) (pe_ix (kix_tup K) (pv 4) pe_int (fun _ _ => rfl)) pe_str (nomark _)) (pw_and1 (pt_cmpR (kop_eq K hr.units) (pe_ix (kix_tup K) (pv 4) pe_int (fun _ _ => rfl)) (pe_tup (pa_cons pe_str (pa_cons (pv 1) pa_nil))) (nomark _)))))
      (pss_one (ps_ret pe_bl))
      pss_nil)
    (pss_cons (ps_if (pt_cmpR (kop_eq K hr.units) (pe_ix (kix_tup K) (pv 4) pe_int (fun _ _ => rfl)) pe_str (nomark _))
      (pss_one (ps_for (passes_of rfl) rfl (kpi_zip3 K (by rfl) T.b_zip (pa_cons (pe_ix (kix_tup K) (pv 4) pe_int (fun _ _ => rfl)) (pa_cons (pe_ix (kix_tup K) (pv 2) (pe_ix (kix_tup K) (pv 4) pe_int (fun _ _ => rfl)) (fun _ _ => rfl)) (pa_cons (pe_dget (hu_of hr) (pv 3) (pe_ix (kix_tup K) (pv 4) pe_int (fun _ _ => rfl)) (fun _ _ => rfl)) pa_nil)))) (kpg_tup K rfl (pgs_cons (pg_name (i := 5) sc_sets.nd rfl (Or.inl rfl)) (pgs_cons (pg_name (i := 6) sc_sets.nd rfl (Or.inl rfl)) (pgs_cons (pg_name (i := 7) sc_sets.nd rfl (Or.inl rfl)) pgs_nil))))
        (pss_one (ps_if (PW.pt (pw_and (pt_val (pv 7)) (pw_and (pt_cmpR (kop_ne K hr.units) (pv 6) pe_str (nomark _)) (pw_and1 (pt_cmpR (kop_eq K hr.units) (pv 5) (pe_tup (pa_cons pe_str (pa_cons (pv 1) pa_nil))) (nomark _))))))
          (pss_one (ps_ret pe_bl))
          pss_nil))))
      pss_nil)
    (pss_one (ps_if (pt_cmpR (kop_ne K hr.units) (pe_lc (own := [("inner", 8)]) (g := gName 8) (tt := _) rfl sc_sets.nd (kpi_tup K (pe_call G_bodies_of (hr.mono (by omega)) (by rfl) T.g_bodies_of T.k_bodies_of T.bd_bodies_of .nil pass0 (pa_cons (pv 4) pa_nil))) (blkOk_by (N := ["body", "param", "ways", "known", "step", "thing", "way", "good", "inner"]) (sc := defScope s_sets) (by decide +kernel)) (fun _ _ _ _ _ => (pg_name (i := 8) sc_sets.nd rfl (Or.inl rfl))) (fun _ _ _ _ _ => (pts_one (pt_val (pe_call G_sets (hr.mono (by omega)) (by rfl) T.g_sets T.k_sets T.bd_sets .nil pass0 (pa_cons (pv 8) (pa_cons (pv 1) (pa_cons (pv 2) (pa_cons (pv 3) pa_nil)))))))) (fun _ _ _ _ _ => (pv 8))) (pe_lst pa_nil) (nomark _))
      (pss_one (ps_ret pe_bl))
      pss_nil)))))
  (pss_one (ps_ret pe_bl))), ?_⟩
    refine Pst.go (K := K) ?_
    refine pst_forT (K := K) body encS ?_ (fun i σ' H' => ∃ u4 u5 u6 u7 : Option V, σ' = [some b, some (.int (param : Int)), some y, some (.ref kn), u4, u5, u6, u7, none] ∧ ∀ j, j < i → ∀ s, body[j]? = some s → setsS ys ks param s = false) ?_ ?_ ?_ ?_
    · rw [← encB_map]
      exact ed_var rfl tb
    · rintro i σ' H1 H2 e ⟨u4, u5, u6, u7, rfl, h⟩
      exact ⟨u4, u5, u6, u7, rfl, h⟩
    · exact ⟨_, _, _, _, rfl, fun j hj => absurd hj (Nat.not_lt_zero j)⟩
    · rintro i x v σ' H1 hx e1 tx ⟨u4, u5, u6, u7, rfl, hpre⟩ N hN
      have hmem := List.mem_of_getElem? hx
      have yes : ∀ {H2}, Ex H H2 → setsS ys ks param x = true → Q (.bl true) H2 := fun e2 hs => by
        have e : setsB ys ks param body = true := by
          rw [setsB_any, List.any_eq_true]
          exact ⟨x, hmem, hs⟩
        rw [← e]
        exact k _ e2
      have more : setsS ys ks param x = false → ∀ j, j < i + 1 → ∀ s, body[j]? = some s → setsS ys ks param s = false := fun h j hj s hs => by
        rcases Nat.lt_succ_iff_lt_or_eq.mp hj with hj | hj
        · exact hpre j hj s hs
        · subst hj
          rw [hx] at hs
          cases hs
          exact h
      cases x with
      | set p t =>
        unfold encS at tx
        apply pst_when (b := decide (p = .par param))
        · refine tk_is (tk_and (a := true) (b := decide (p = .par param)) ?_ fun _ => ?_) rfl
          · apply tk_is
            · walk_at "et"
            · simp
          · refine tk_v (ed_is (ed_eqM (d := encT p) (e := .tuple [.str "par", .int (param : Int)]) ?_ ?_ (encT_lay p) (encT_lay (.par param)) ?_) ?_)
            · walk_at "ev"
            · walk_at "ev"
            · refine Nat.le_trans (Nat.min_le_right _ _) ?_
              exact Nat.le_of_ble_eq_true rfl
            · rw [eqv_par]
        · intro hb
          refine pst_ret (d := .bool true) ed_cb fun v2 H3 e3 t3 => ?_
          cases t3
          exact yes (e1.trans e3) (by simpa [setsS] using hb)
        · intro hb
          refine pst_whenF (b := false) ?_ rfl ?_
          · apply tk_is
            · walk_at "et"
            · simp
          have hb0 := hb
          refine pst_if (K := K) (b := (bods (.set p t)).any (setsB ys ks param)) ?_ (fun hb => ?_) (fun hb => ?_)
          · refine tk_is (tk_v (ed_neN (EvDL.rd (edl_lcM (xs := bods (.set p t)) (f := fun b => .tuple (encB b)) (p := setsB ys ks param) (g := fun b => .tuple (encB b)) (ed_call (eda_cons (ed_var rfl tx) eda_nil) ⟨_, rfl, rfl⟩) rfl ?_ (fun _ => rfl) (fun bd vb H3 e3 hbd tbd => tk_vB fun H4 e4 Q q => ?_) fun bd vb H3 e3 hbd _ tbd => ed_var rfl tbd)) (edl_lst eda_nil (by simp)) ?_)) ?_
            · have : (bods (.set p t)).length ≤ 2 := bods_len _
              omega
            · refine ⟨_, rfl, _, rfl, _, rfl, _, rfl, ?_⟩
              have hb2 := bods_sm (smB_mem hsm hmem) hbd
              have hb3 := bods_dp hbd
              have hb4 := dpB_mem hmem
              refine ⟨vb, y, kn, param, bd, ys, ks, rfl, tbd.ex e4, ty.ex (((e1.trans (Ex.refl H1)).trans e3).trans e4), hkn.ex (((e1.trans (Ex.refl H1)).trans e3).trans e4), by omega, hb2.2, hb2.1, fun z hz => hfit z (callsB_mem hmem (callsS_bods hbd hz)), fun H5 e5 => q _ _ e5 (.bl _)⟩
            · have : ∀ l : List (List Stm), PyData.canLayAll0 (l.map fun b => PyData.tuple (encB b)) = true := by
                intro l
                induction l with
                | nil => rfl
                | cons a r ih => simp only [List.map_cons, PyData.canLayAll0, PyData.canLay0, ih, encB_lay, Bool.and_true]
              exact this _
            · rw [← any_filter]
          · refine pst_ret (d := .bool true) ed_cb fun v2 H3 e3 t3 => ?_
            cases t3
            exact yes ((e1.trans (Ex.refl H1)).trans e3) (sets_bods hb)
          · refine pst_of fun H3 e3 => ?_
            exact hN _ _ ⟨_, _, _, _, rfl, more ((fun _ => by simpa [setsS] using hb0) hb)⟩ (Ex.trans (Ex.refl H1) e3)
      | say t =>
        unfold encS at tx
        refine pst_whenF (b := false) ?_ rfl ?_
        · apply tk_andF
          apply tk_is
          · walk_at "et"
          · simp
        refine pst_whenF (b := false) ?_ rfl ?_
        · apply tk_is
          · walk_at "et"
          · simp
        refine pst_if (K := K) (b := (bods (.say t)).any (setsB ys ks param)) ?_ (fun hb => ?_) (fun hb => ?_)
        · refine tk_is (tk_v (ed_neN (EvDL.rd (edl_lcM (xs := bods (.say t)) (f := fun b => .tuple (encB b)) (p := setsB ys ks param) (g := fun b => .tuple (encB b)) (ed_call (eda_cons (ed_var rfl tx) eda_nil) ⟨_, rfl, rfl⟩) rfl ?_ (fun _ => rfl) (fun bd vb H3 e3 hbd tbd => tk_vB fun H4 e4 Q q => ?_) fun bd vb H3 e3 hbd _ tbd => ed_var rfl tbd)) (edl_lst eda_nil (by simp)) ?_)) ?_
          · have : (bods (.say t)).length ≤ 2 := bods_len _
            omega
          · refine ⟨_, rfl, _, rfl, _, rfl, _, rfl, ?_⟩
            have hb2 := bods_sm (smB_mem hsm hmem) hbd
            have hb3 := bods_dp hbd
            have hb4 := dpB_mem hmem
            refine ⟨vb, y, kn, param, bd, ys, ks, rfl, tbd.ex e4, ty.ex (((e1.trans (Ex.refl H1)).trans e3).trans e4), hkn.ex (((e1.trans (Ex.refl H1)).trans e3).trans e4), by omega, hb2.2, hb2.1, fun z hz => hfit z (callsB_mem hmem (callsS_bods hbd hz)), fun H5 e5 => q _ _ e5 (.bl _)⟩
          · have : ∀ l : List (List Stm), PyData.canLayAll0 (l.map fun b => PyData.tuple (encB b)) = true := by
              intro l
              induction l with
              | nil => rfl
              | cons a r ih => simp only [List.map_cons, PyData.canLayAll0, PyData.canLay0, ih, encB_lay, Bool.and_true]
            exact this _
          · rw [← any_filter]
        · refine pst_ret (d := .bool true) ed_cb fun v2 H3 e3 t3 => ?_
          cases t3
          exact yes ((e1.trans (Ex.refl H1)).trans e3) (sets_bods hb)
        · refine pst_of fun H3 e3 => ?_
          exact hN _ _ ⟨_, _, _, _, rfl, more ((fun _ => by simp [setsS]) hb)⟩ (Ex.trans (Ex.refl H1) e3)
      | ite t ba bb =>
        unfold encS at tx
        refine pst_whenF (b := false) ?_ rfl ?_
        · apply tk_andF
          apply tk_is
          · walk_at "et"
          · simp
        refine pst_whenF (b := false) ?_ rfl ?_
        · apply tk_is
          · walk_at "et"
          · simp
        refine pst_if (K := K) (b := (bods (.ite t ba bb)).any (setsB ys ks param)) ?_ (fun hb => ?_) (fun hb => ?_)
        · refine tk_is (tk_v (ed_neN (EvDL.rd (edl_lcM (xs := bods (.ite t ba bb)) (f := fun b => .tuple (encB b)) (p := setsB ys ks param) (g := fun b => .tuple (encB b)) (ed_call (eda_cons (ed_var rfl tx) eda_nil) ⟨_, rfl, rfl⟩) rfl ?_ (fun _ => rfl) (fun bd vb H3 e3 hbd tbd => tk_vB fun H4 e4 Q q => ?_) fun bd vb H3 e3 hbd _ tbd => ed_var rfl tbd)) (edl_lst eda_nil (by simp)) ?_)) ?_
          · have : (bods (.ite t ba bb)).length ≤ 2 := bods_len _
            omega
          · refine ⟨_, rfl, _, rfl, _, rfl, _, rfl, ?_⟩
            have hb2 := bods_sm (smB_mem hsm hmem) hbd
            have hb3 := bods_dp hbd
            have hb4 := dpB_mem hmem
            refine ⟨vb, y, kn, param, bd, ys, ks, rfl, tbd.ex e4, ty.ex (((e1.trans (Ex.refl H1)).trans e3).trans e4), hkn.ex (((e1.trans (Ex.refl H1)).trans e3).trans e4), by omega, hb2.2, hb2.1, fun z hz => hfit z (callsB_mem hmem (callsS_bods hbd hz)), fun H5 e5 => q _ _ e5 (.bl _)⟩
          · have : ∀ l : List (List Stm), PyData.canLayAll0 (l.map fun b => PyData.tuple (encB b)) = true := by
              intro l
              induction l with
              | nil => rfl
              | cons a r ih => simp only [List.map_cons, PyData.canLayAll0, PyData.canLay0, ih, encB_lay, Bool.and_true]
            exact this _
          · rw [← any_filter]
        · refine pst_ret (d := .bool true) ed_cb fun v2 H3 e3 t3 => ?_
          cases t3
          exact yes ((e1.trans (Ex.refl H1)).trans e3) (sets_bods hb)
        · refine pst_of fun H3 e3 => ?_
          exact hN _ _ ⟨_, _, _, _, rfl, more ((fun hh => by simpa [setsS, bods] using hh) hb)⟩ (Ex.trans (Ex.refl H1) e3)
      | call c ts =>
        obtain ⟨yc, bs, hyc, hbs, hly, hlb, hlay⟩ := hfit (c, ts) (callsB_mem hmem (by simp [callsS]))
        have tx0 := tx
        unfold encS at tx
        refine pst_whenF (b := false) ?_ rfl ?_
        · apply tk_andF
          apply tk_is
          · walk_at "et"
          · simp
        refine pst_whenT (b := true) ?_ rfl ?_
        · apply tk_is
          · walk_at "et"
          · simp
        obtain ⟨kvs, hkv, hkall⟩ := hkn.ex e1
        obtain ⟨vk, hvk, tvk⟩ := hkall c bs hbs
        have ehit : ∀ l t w g, ts[l]? = some t → yc[l]? = some w → bs[l]? = some g → hitC ys ks param c ts l = (g && (!PyData.eqv (.str w) (.str "copy") && decide (t = .par param))) := by
          intro l t w g h1 h2 h3
          simp [hitC, hbs, List.getD, hyc, h1, h2, h3]
        refine pst_forZ3 (K := K) ts yc bs encT PyData.str PyData.bool ?_ hly.symm hlb.symm (fun l σ2 H2 => ∃ u5 u6 u7 : Option V, σ2 = [some b, some (.int (param : Int)), some y, some (.ref kn), some v, u5, u6, u7, none] ∧ ∀ j, j < l → hitC ys ks param c ts j = false) ?_ ?_ ?_ ?_
        · apply eda_cons
          · walk_at "ev"
          apply eda_cons
          · have ty1 : Td K H1 y (.tuple (ys.map fun y => .tuple (y.map PyData.str))) := ty.ex e1
            refine ed_ixT (ds := ys.map fun y => .tuple (y.map PyData.str)) (ed_var rfl ty1) (i := (c : Int)) ?_ (atI_nat (by rw [List.getElem?_map, hyc] <;> rfl))
            walk_at "ev"
          apply eda_cons
          · refine ed_dgetI rfl hkv (c := (c : Int)) ?_ hvk tvk
            walk_at "ev"
          exact eda_nil
        · rintro l σ2 H2 H3 e ⟨u5, u6, u7, rfl, h⟩
          exact ⟨u5, u6, u7, rfl, h⟩
        · exact ⟨_, _, _, rfl, fun j hj => absurd hj (Nat.not_lt_zero j)⟩
        · rintro l t w g v1 v2 v3 σ2 H2 h1 h2 h3 e2 t1 t2 t3 ⟨u5, u6, u7, rfl, hpre2⟩ N2 hN2
          have hlw := hlay w (List.mem_of_getElem? h2)
          refine pst_if (K := K) (b := g && (!PyData.eqv (.str w) (.str "copy") && decide (t = .par param))) ?_ (fun hb => ?_) (fun hb => ?_)
          · refine tk_and (tk_vB (ed_var rfl t3)) fun _ => tk_and (tk_v (ed_neS (ed_var rfl t2) ed_cs hlw (by simp))) fun _ => tk_v (ed_is (ed_eqM (d := encT t) (e := .tuple [.str "par", .int (param : Int)]) (ed_var rfl t1) ?_ (encT_lay t) (encT_lay (.par param)) ?_) ?_)
            · walk_at "ev"
            · refine Nat.le_trans (Nat.min_le_right _ _) ?_
              exact Nat.le_of_ble_eq_true rfl
            · rw [eqv_par]
          · refine pst_ret (d := .bool true) ed_cb fun v4 H3 e3 t4 => ?_
            cases t4
            refine yes ((e1.trans e2).trans e3) ?_
            simp only [setsS, List.any_eq_true, List.mem_range]
            exact ⟨l, (List.getElem?_eq_some_iff.mp h1).1, by rw [ehit l t w g h1 h2 h3]; exact hb⟩
          · refine pst_of fun H3 e3 => ?_
            refine hN2 _ _ ⟨_, _, _, rfl, fun j hj => ?_⟩ e3
            rcases Nat.lt_succ_iff_lt_or_eq.mp hj with hj | hj
            · exact hpre2 j hj
            · subst hj
              rw [ehit j t w g h1 h2 h3]
              exact hb
        · rintro σ2 H2 e2 ⟨u5, u6, u7, rfl, hpre2⟩
          dsimp only
          refine Pst.go (K := K) ?_
          refine pst_if (K := K) (b := (bods (.call c ts)).any (setsB ys ks param)) ?_ (fun hb => ?_) (fun hb => ?_)
          · refine tk_is (tk_v (ed_neN (EvDL.rd (edl_lcM (xs := bods (.call c ts)) (f := fun b => .tuple (encB b)) (p := setsB ys ks param) (g := fun b => .tuple (encB b)) (ed_call (eda_cons (ed_var rfl (tx0.ex e2)) eda_nil) ⟨_, rfl, rfl⟩) rfl ?_ (fun _ => rfl) (fun bd vb H3 e3 hbd tbd => tk_vB fun H4 e4 Q q => ?_) fun bd vb H3 e3 hbd _ tbd => ed_var rfl tbd)) (edl_lst eda_nil (by simp)) ?_)) ?_
            · have : (bods (.call c ts)).length ≤ 2 := bods_len _
              omega
            · refine ⟨_, rfl, _, rfl, _, rfl, _, rfl, ?_⟩
              have hb2 := bods_sm (smB_mem hsm hmem) hbd
              have hb3 := bods_dp hbd
              have hb4 := dpB_mem hmem
              refine ⟨vb, y, kn, param, bd, ys, ks, rfl, tbd.ex e4, ty.ex (((e1.trans e2).trans e3).trans e4), hkn.ex (((e1.trans e2).trans e3).trans e4), by omega, hb2.2, hb2.1, fun z hz => hfit z (callsB_mem hmem (callsS_bods hbd hz)), fun H5 e5 => q _ _ e5 (.bl _)⟩
            · have : ∀ l : List (List Stm), PyData.canLayAll0 (l.map fun b => PyData.tuple (encB b)) = true := by
                intro l
                induction l with
                | nil => rfl
                | cons a r ih => simp only [List.map_cons, PyData.canLayAll0, PyData.canLay0, ih, encB_lay, Bool.and_true]
              exact this _
            · rw [← any_filter]
          · refine pst_ret (d := .bool true) ed_cb fun v2 H3 e3 t3 => ?_
            cases t3
            exact yes ((e1.trans e2).trans e3) (sets_bods hb)
          · refine pst_of fun H3 e3 => ?_
            exact hN _ _ ⟨_, _, _, _, rfl, more ((fun _ => by simp only [setsS, List.any_eq_false, List.mem_range]; intro j hj; simp [hpre2 j hj]) hb)⟩ (Ex.trans e2 e3)
    · rintro σ' H1 e1 ⟨u4, u5, u6, u7, rfl, hpre⟩
      refine pst_ret (d := .bool false) ed_cb fun v H2 e2 t2 => ?_
      cases t2
      have e : setsB ys ks param body = false := by
        rw [setsB_any, List.any_eq_false]
        intro s hs
        obtain ⟨j, hj⟩ := List.mem_iff_getElem?.mp hs
        have := hpre j (List.getElem?_eq_some_iff.mp hj).1 s hj
        simp [this]
      rw [← e]
      exact k _ (e1.trans e2)
end
end Hw

set_option maxRecDepth 100000
set_option maxHeartbeats 4000000
/-! SE2: may_set -/
namespace Hw
open PySem PySem.Spec PyProof.Rows L2 Evl
local macro_rules | `(tactic| walk_at "dd") => `(tactic| first | rfl | decide | (simp; done) | omega)
local macro_rules | `(tactic| walk_at "td") => `(tactic| first | assumption | exact Td.int _ | exact Td.bl _ | exact Td.str _ | exact Td.non | exact Td.tup (by assumption) (by assumption))
local macro_rules | `(tactic| walk_at "ev") => `(tactic| first
  | exact ed_ci | exact ed_cs | exact ed_cb | exact ed_cn
  | (apply ed_cg; assumption)
  | (apply ed_var; (rfl); (walk_at "td"))
  | (apply ed_ixT; (walk_at "ev"); (walk_at "ev"); (first | rfl | assumption))
  | (apply ed_rowI; (rfl); (assumption); (walk_at "ev"); (rfl))
  | (apply ed_ixL; (apply EvDL.rd; walk_at "edl"); (walk_at "ev"); (rfl))
  | (apply ed_intb; (walk_at "ev"))
  | (apply ed_len; walk_at "ev")
  | (apply ed_lenV; (apply ev_rowR; (rfl); (assumption); (walk_at "ev"); (rfl)); (assumption))
  | (apply ed_Ii; (walk_at "ev"); (walk_at "ev"); (walk_at "cc"))
  | (apply ed_isi; (walk_at "ev"); (rfl))
  | (apply ed_I0i; (walk_at "ev"); (walk_at "ev"))
  | (apply ed_I0b; (walk_at "ev"); (walk_at "ev"))
  | (apply ed_eqi; (walk_at "ev"); (walk_at "ev"))
  | (apply ed_nei; (walk_at "ev"); (walk_at "ev"))
  | (apply ed_andF; walk_at "ev")
  | (apply ed_andV; (walk_at "ev"); (intro _; walk_at "ev"))
  | (apply ed_orT; walk_at "ev")
  | (apply ed_orV; (walk_at "ev"); (intro _; walk_at "ev"))
  | (apply ed_notT; walk_at "ev")
  | (apply ed_notF; walk_at "ev")
  | (apply ed_notV; walk_at "ev")
  | (apply ed_chain; (walk_at "ev"); (walk_at "ev"); (intro _; walk_at "ev"))
  | (apply ed_eqS; (walk_at "ev"); (walk_at "ev"); (walk_at "bb"); (walk_at "bb"))
  | (apply ed_neS; (walk_at "ev"); (walk_at "ev"); (walk_at "bb"); (walk_at "bb"))
  | (apply ed_inT; (walk_at "ev"); (walk_at "ev"); (rfl); (rfl))
  | (apply ed_niT; (walk_at "ev"); (walk_at "ev"); (rfl); (rfl))
  | (apply ed_tup; (walk_at "eva"); (walk_at "bb"))
  | (apply ed_sl; (walk_at "ev"); (walk_at "evo"); (walk_at "evo"))
  | (apply ed_eqN; (apply EvDL.rd; walk_at "edl"); (walk_at "edl"); (walk_at "bb"))
  | (apply ed_neN; (apply EvDL.rd; walk_at "edl"); (walk_at "edl"); (walk_at "bb"))
  | (apply ed_ixL; (apply edr_var; (rfl); (assumption); (assumption)); (walk_at "ev"); (first | rfl | assumption))
  | (apply ed_lenL; (apply edr_var; (rfl); (assumption); (assumption)))
  | (apply ed_call; (walk_at "eva"); (walk_at "post")))
local macro_rules | `(tactic| walk_at "edl") => `(tactic| first
  | assumption
  | (apply edl_lst; (walk_at "eva"); (walk_at "bb")))
local macro_rules | `(tactic| walk_at "eva") => `(tactic| first
  | exact eda_nil
  | (apply eda_cons; (walk_at "ev"); (walk_at "eva")))
local macro_rules | `(tactic| walk_at "evo") => `(tactic| first
  | exact eok_none
  | (apply eok_some; walk_at "ev"))
local macro_rules | `(tactic| walk_at "bb") => `(tactic| first | rfl | assumption | (simp; done) | (simp; omega) | decide +kernel)
local macro_rules | `(tactic| walk_at "et") => `(tactic| first
  | exact tk_yes
  | (apply tk_andF; walk_at "et")
  | (apply tk_and; (walk_at "et"); (intro _; walk_at "et"))
  | (apply tk_orT; walk_at "et")
  | (apply tk_or; (walk_at "et"); (intro _; walk_at "et"))
  | (apply tk_notT; walk_at "et")
  | (apply tk_notF; walk_at "et")
  | (apply tk_not; walk_at "et")
  | (apply tk_v; walk_at "ev")
  | (apply tk_vB; walk_at "ev"))
local macro_rules | `(tactic| walk_at "if") => `(tactic| first
  | (apply pst_whenF; (walk_at "et"); (walk_at "bb"))
  | (apply pst_whenT; (walk_at "et"); (walk_at "bb")))
local macro_rules | `(tactic| walk_at "post") => `(tactic| first | assumption | exact ⟨_, _, rfl, rfl⟩ | exact ⟨_, _, _, _, rfl, by omega, by omega, rfl⟩ | exact ⟨_, _, _, 0, rfl, by omega, by omega, rfl⟩)
local macro_rules | `(tactic| walk_at "cc") => `(tactic| first | assumption | decide | omega | (refine ⟨?_, ?_⟩ <;> first | decide | omega) | (exact Or.inl (by constructor <;> omega)))

section
variable {K : PySem.W.Frag} {σ : L2.St} {H H' : Hp} {D : Ends} {tu tz : TS} {te : TE}
theorem w_forRev {n j : Nat} (h : EvD K te σ H (.int (n : Int))) (hn : n ≤ 100000) (Pv : Nat → L2.St → Hp → Prop) (h0 : ∀ H1, Ex H H1 → Pv 0 σ H1)
    (hs : ∀ i σ' H', i < n → Pv i σ' H' → tu { D with nx := Pv (i + 1), ct := Pv (i + 1), bk := D.nx } (σ'.set j (some (.int ((n - 1 - i : Nat) : Int)))) H') (hd : ∀ σ' H', Pv n σ' H' → D.nx σ' H') : tFor (iRevR (tRg1 te)) (gName j) tu D σ H :=
  h.iv H (Ex.refl H) _ fun H1 e => by
    refine ⟨(n : Int), rfl, by decide, by decide, by omega, by omega, ?_⟩
    have en : ((n : Int) - 0).toNat = n := by simp
    rw [en]
    refine for_rangeC Pv (h0 H1 e) (fun i σ' H' hi p => ?_) hd
    have e0 : (0 : Int) + ((((n : Nat) : Int))) - 1 + ((i : Nat) : Int) * (-1) = ((n - 1 - i : Nat) : Int) := by omega
    show tu _ (σ'.set j (some (.int ((0 : Int) + ((((n : Nat) : Int))) - 1 + ((i : Nat) : Int) * (-1))))) H'
    rw [e0]
    exact hs i σ' H' hi p
end
theorem put_len (c : List (Key × V)) (k : Key) (x : V) : (putK c k x).length ≤ c.length + 1 := by
  unfold putK
  split <;> simp
def KnL (K : PySem.W.Frag) (kn : Addr) (ks : Nat → Option (List Bool)) (n : Nat) (H : Hp) : Prop := ∃ kvs, H kn = some (.dK kvs) ∧ kvs.length ≤ n ∧ ∀ c bs, ks c = some bs → ∃ v, valV kvs (Sum.inl (c : Int)) = some v ∧ Td K H v (.tuple (bs.map PyData.bool))
theorem KnL.at_ {K : PySem.W.Frag} {kn : Addr} {ks : Nat → Option (List Bool)} {n : Nat} {H : Hp} (h : KnL K kn ks n H) : KnAt K kn ks H := by
  obtain ⟨kvs, h1, _, h3⟩ := h
  exact ⟨kvs, h1, h3⟩
/-- the ones known behind j turns -/
def knW (p : List Wk) (ys : List (List Str)) : Nat → Nat → Option (List Bool)
  | 0 => fun _ => none
  | j + 1 => fun c => if c = p.length - 1 - j then some ((List.range (shP (shapes p) c)).map fun k => setsB ys (knW p ys j) k ((p[c]?.map (·.body)).getD [])) else knW p ys j c
theorem knW_some {p : List Wk} {ys : List (List Str)} : ∀ {j c : Nat}, j ≤ p.length → p.length - j ≤ c → c < p.length → ∃ bs, knW p ys j c = some bs ∧ bs.length = shP (shapes p) c
  | 0, c, _, h1, h2 => by omega
  | j + 1, c, hj, h1, h2 => by
    by_cases e : c = p.length - 1 - j
    · refine ⟨_, by simp only [knW]; rw [if_pos e], by simp⟩
    · obtain ⟨bs, h3, h4⟩ := knW_some (j := j) (c := c) (by omega) (by omega) h2
      exact ⟨bs, by simp only [knW]; rw [if_neg e]; exact h3, h4⟩
mutual
theorem okS_calls {sh : List (Nat × Nat)} {at_ : Nat} : ∀ (s : Stm) (w : Nat) (x : Nat × List Th), okS sh at_ s w = true → x ∈ callsS s → at_ < x.1 ∧ x.1 < sh.length ∧ x.2.length = shP sh x.1
  | .set p t, w, x, h, hx => by simp [callsS] at hx
  | .say t, w, x, h, hx => by simp [callsS] at hx
  | .call c ts, w, x, h, hx => by
    simp [callsS] at hx
    subst hx
    simp [okS] at h
    exact ⟨h.2.2.1, h.2.1, h.2.2.2.1⟩
  | .ite t a b, w, x, h, hx => by
    simp [okS] at h
    simp only [callsS, List.mem_append] at hx
    rcases hx with hx | hx
    · exact okB_calls a (w + 1) x h.2.2.1 hx
    · exact okB_calls b (w + 1) x h.2.2.2 hx
theorem okB_calls {sh : List (Nat × Nat)} {at_ : Nat} : ∀ (b : List Stm) (w : Nat) (x : Nat × List Th), okB sh at_ b w = true → x ∈ callsB b → at_ < x.1 ∧ x.1 < sh.length ∧ x.2.length = shP sh x.1
  | [], w, x, h, hx => by simp [callsB] at hx
  | s :: r, w, x, h, hx => by
    simp only [okB, Bool.and_eq_true] at h
    simp only [callsB, List.mem_append] at hx
    rcases hx with hx | hx
    · exact okS_calls s w x h.1 hx
    · exact okB_calls r w x h.2 hx
end
theorem okP_get {p : List Wk} {i : Nat} {w : Wk} (h : okP p = true) (hi : p[i]? = some w) : w.params ≤ 3 ∧ w.owns ≤ 99 ∧ okB (shapes p) i w.body 0 = true ∧ cntB w.body ≤ 100 := by
  simp only [okP, Bool.and_eq_true, decide_eq_true_eq, List.all_eq_true, List.mem_range] at h
  have := h.2.2 i (List.getElem?_eq_some_iff.mp hi).1
  simp only [okW, hi, Bool.and_eq_true, decide_eq_true_eq] at this
  exact ⟨this.1, this.2.1, this.2.2.2.1, this.2.2.2.2⟩
theorem okP_len {p : List Wk} (h : okP p = true) : 1 ≤ p.length ∧ p.length ≤ 4 := by
  simp only [okP, Bool.and_eq_true, decide_eq_true_eq] at h
  exact ⟨h.1, h.2.1⟩
theorem okY_get {p : List Wk} {ys : List (List Str)} (h : okY p ys = true) : ys.length = p.length ∧ ∀ i y, ys[i]? = some y → y.length = shP (shapes p) i := by
  simp only [okY, Bool.and_eq_true, decide_eq_true_eq, List.all_eq_true, List.mem_range] at h
  refine ⟨h.1, fun i y hi => ?_⟩
  have := h.2 i (by have := (List.getElem?_eq_some_iff.mp hi).1; omega)
  simpa [List.getD, hi] using this.1
/-- what may_set tells -/
def mayL (p : List Wk) (ys : List (List Str)) : List (List Bool) := (List.range p.length).map fun i => (knW p ys p.length i).getD []
def encBs (l : List (List Bool)) : PyData := .tuple (l.map fun bs => .tuple (bs.map PyData.bool))
def spMay (K : PySem.W.Frag) : Sp := fun vs H Q E => ∃ p ys, TdAll K H vs [encP p, encY ys] ∧ smP p ∧ smY ys ∧ (okP p = true → okY p ys = true → ∀ v H', Ex H H' → Td K H' v (encBs (mayL p ys)) → Q v H') ∧ (okP p = false → ∀ H', Ex H H' → E (.ref (He.ga K "BadProgram")) none H') ∧
  (okP p = true → okY p ys = false → ∀ H', Ex H H' → E (.ref (He.ga K "BadWays")) none H')
section
variable {P : Program} {w : World} {K : PySem.W.Frag} {mg : Str → Option Value} {base : Heap} (T : Tx K mg)
include T
theorem ok_may_set (GP : Fn_need_program T P w base (L2.CX P w) 24 (spNP K)) (GY : Fn_need_ways T P w base (L2.CX P w) 25 (spNY K)) (GS : Fn_sets T P w base CX0 7 (spSets K 6)) : Fn_may_set T P w base (L2.CX P w) 26 (spMay K) := by
  have G_need_program := GP
  have G_need_ways := GY
  have G_sets := GS
  refine T.F_may_set.ok sc_may_set (fun vs H Q E h => by obtain ⟨p, _, ht, _⟩ := h; exact ht.length) fun cdv A outer s H vs Q E hr h => ?_
  obtain ⟨p, ys, ht, hs, hy, kq, ke, kw⟩ := h
  obtain _ | ⟨t1, _ | ⟨t2, _ | _⟩⟩ := ht
  rename_i pw0 yw0
  refine ⟨_, (pss_cons (ps_expr (pe_call G_need_program (hr.mono (by omega)) (by rfl) T.g_need_program T.k_need_program T.bd_need_program .nil (passes_call (takes_of rfl rfl rfl rfl) (fun _ _ _ _ h => h)) (pa_cons (pv 0) pa_nil)))
  (pss_cons (ps_expr (pe_call G_need_ways (hr.mono (by omega)) (by rfl) T.g_need_ways T.k_need_ways T.bd_need_ways .nil (passes_call (takes_of rfl rfl rfl rfl) (fun _ _ _ _ h => h)) (pa_cons (pv 0) (pa_cons (pv 1) pa_nil))))
  (pss_cons (ps_set (i := 2) sc_may_set.nd rfl (Or.inr rfl) pe_dnewK)
  (pss_cons (ps_for (passes_of rfl) rfl (pi_revR rfl T.b_reversed (prg_1 rfl T.b_range (pe_callB (kc_len K) rfl T.b_len PySem.boot_len (pa_cons (pv 0) pa_nil)))) (pg_name (i := 3) sc_may_set.nd rfl (Or.inr rfl))
    (pss_one (ps_dput (hu_of hr) (pv 2) (pv 3) (pe_callTy (kc_tuple K) rfl T.b_tuple (by decide +kernel) (pa_cons (pe_lc (own := [("param", 4)]) (g := gName 4) (tt := tYes) rfl sc_may_set.nd (pi_range1 rfl T.b_range (pa_cons (pe_ix (kix_tup K) (pe_ix (kix_tup K) (pv 0) (pv 3) (fun _ _ => rfl)) pe_int (fun _ _ => rfl)) pa_nil)) (blkOk_by (N := ["program", "ways", "known", "at", "param"]) (sc := defScope s_may_set) (by decide +kernel)) (fun _ _ _ _ _ => (pg_name (i := 4) sc_may_set.nd rfl (Or.inl rfl))) (fun _ _ _ _ _ => pts_nil) (fun _ _ _ _ _ => (pe_call G_sets (hr.mono (by omega)) (by rfl) T.g_sets T.k_sets T.bd_sets .nil pass0 (pa_cons (pe_ix (kix_tup K) (pe_ix (kix_tup K) (pv 0) (pv 3) (fun _ _ => rfl)) pe_int (fun _ _ => rfl)) (pa_cons (pv 4) (pa_cons (pv 1) (pa_cons (pv 2) pa_nil))))))) pa_nil)) rfl)))
  (pss_one (ps_ret (pe_callTy (kc_tuple K) rfl T.b_tuple (by decide +kernel) (pa_cons (pe_lc (own := [("at", 3)]) (g := gName 3) (tt := tYes) rfl sc_may_set.nd (pi_range1 rfl T.b_range (pa_cons (pe_callB (kc_len K) rfl T.b_len PySem.boot_len (pa_cons (pv 0) pa_nil)) pa_nil)) (blkOk_by (N := ["program", "ways", "known", "at", "param"]) (sc := defScope s_may_set) (by decide +kernel)) (fun _ _ _ _ _ => (pg_name (i := 3) sc_may_set.nd rfl (Or.inl rfl))) (fun _ _ _ _ _ => pts_nil) (fun _ _ _ _ _ => (pe_dget (hu_of hr) (pv 2) (pv 3) (fun _ _ => rfl)))) pa_nil)))))))), ?_⟩
  refine Pst.go (K := K) ?_
  cases hok : okP p with
  | false =>
    intro H1 e1
    exact ⟨_, rfl, p, .cons (t1.ex e1) .nil, hs, (fun e => by rw [hok] at e; cases e), fun _ H' e => ke hok H' (e1.trans e)⟩
  | true =>
    refine pst_callNP (v := _) rfl (fun H1 e1 Q kQ => ⟨p, .cons (t1.ex e1) .nil, hs, fun _ => kQ, (fun e => by rw [hok] at e; cases e)⟩) ?_
    refine pst_of fun H1 e1 => ?_
    refine w_seq (w_drop (w_call (w_cons (w_v rfl (w_cons (w_v rfl (w_nil ⟨p, ys, .cons (t1.ex e1) (.cons (t2.ex e1) .nil), hs, hy, fun _ hy2 H2 e2 => ?_, (fun e => by rw [hok] at e; cases e), fun _ h H' e => kw hok h H' (e1.trans e)⟩)))))))
    dsimp only
    have hlen := okP_len hok
    obtain ⟨hyl, hyg⟩ := okY_get hy2
    refine w_seq (w_asg fun kn hkn => ?_)
    have e3 : Ex H (upd H2 kn (.dK [])) := (e1.trans e2).trans (Ex.new hkn)
    have hk3 : upd H2 kn (.dK []) kn = some (.dK []) := upd_same
    dsimp only
    generalize upd H2 kn (.dK []) = H3 at *
    replace t1 := t1.ex e3
    replace t2 := t2.ex e3
    have keep : ∀ {H'}, Fr [kn] H3 H' → Keep K H3 H' := fun f => f.keep fun a ha => by
      have e : a = kn := by simpa using ha
      rw [e]
      exact ⟨_, hk3, True.intro⟩
    refine w_seq (w_forRev (K := K) (n := p.length) ?_ (by omega) (fun j σ' H' => ∃ u3 : Option V, σ' = [some pw0, some yw0, some (.ref kn), u3, none] ∧ KnL K kn (knW p ys j) j H' ∧ Fr [kn] H3 H') ?_ ?_ ?_)
    · apply ed_is
      · walk_at "ev"
      · simp
    · intro H4 e4
      exact ⟨_, rfl, ⟨[], e4 _ _ hk3, Nat.le_refl _, fun c bs h => by cases h⟩, Fr.of e4⟩
    · rintro j σ' H4 hj ⟨u3, rfl, hkn4, hf⟩
      obtain ⟨at_, hat⟩ : ∃ a, a = p.length - 1 - j := ⟨_, rfl⟩
      rw [← hat]
      obtain ⟨wk, hwk⟩ : ∃ w, p[at_]? = some w := ⟨_, List.getElem?_eq_getElem (by omega)⟩
      obtain ⟨g1, g2, g3, g4⟩ := okP_get hok hwk
      have hsw := hs.2 wk (List.mem_of_getElem? hwk)
      have t14 := t1.kp (keep hf)
      have t24 := t2.kp (keep hf)
      have hpa : atI (p.map encW) (at_ : Int) = some (.tuple [.int (wk.params : Int), .int (wk.owns : Int), .tuple (encB wk.body)]) := atI_nat (by rw [List.getElem?_map, hwk] <;> rfl)
      unfold encP at t14
      dsimp only
      refine w_d (K := K) (d := .tuple (((List.range wk.params).filter fun _ => true).map fun k => .bool (setsB ys (knW p ys j) k wk.body))) (ed_tupL (EvDL.rd (edl_lcR (n := wk.params) (fun _ => true) (fun k => .bool (setsB ys (knW p ys j) k wk.body)) (eda_cons ?_ eda_nil) (by omega) (fun _ => rfl) (fun k H5 e5 hk => tk_yes) fun k H5 e5 hk _ => ?_))) fun v H5 e5 t5 => ?_
      · walk_at "ev"
      · intro H6 e6 Q q
        have t15 := t14.ex e5
        refine w_call (w_cons (w_d (K := K) (d := .tuple (encB wk.body)) ?_ fun vb H7 e7 tb => ?_))
        · refine EvD.mono e6 ?_
          walk_at "ev"
        refine w_cons (w_v rfl (w_cons (w_v rfl (w_cons (w_v rfl (w_nil ⟨vb, _, kn, k, wk.body, ys, knW p ys j, rfl, tb, t24.ex ((e5.trans e6).trans e7), hkn4.at_.ex ((e5.trans e6).trans e7), ?_, hsw.2, hsw.1, ?_, fun H8 e8 => q _ _ (e7.trans e8) (.bl _)⟩))))))
        · have := okB_dp _ _ g3
          omega
        · intro x hx
          obtain ⟨h1, h2, h3⟩ := okB_calls _ _ x g3 hx
          have h2' : x.1 < p.length := by simpa [shapes] using h2
          obtain ⟨bs, hb1, hb2⟩ := knW_some (p := p) (ys := ys) (j := j) (c := x.1) (by omega) (by omega) h2'
          obtain ⟨y, hy3⟩ : ∃ y, ys[x.1]? = some y := ⟨_, List.getElem?_eq_getElem (by omega)⟩
          exact ⟨y, bs, hy3, hb1, by rw [hyg _ _ hy3, h3], by rw [hb2, h3], (hy.2 y (List.mem_of_getElem? hy3)).2⟩
      · obtain ⟨kvs, k1, k2, k3⟩ := hkn4
        have k5 := e5 _ _ k1
        refine ⟨.ref kn, rfl, .int (at_ : Int), rfl, kn, _, rfl, DPut.k (k := Sum.inl (at_ : Int)) k5 (sz_lt (by omega)), ?_⟩
        have kk : Keep K H5 (upd H5 kn (.dK (putK kvs (Sum.inl (at_ : Int)) v))) := Keep.upd k5 True.intro
        refine ⟨_, rfl, ⟨_, upd_same, Nat.le_trans (put_len _ _ _) (by omega), fun c bs hc => ?_⟩, (hf.trans (Fr.of e5)).trans (Fr.upd (by simp))⟩
        by_cases ec : c = at_
        · simp only [knW] at hc
          rw [if_pos (by omega)] at hc
          cases hc
          subst ec
          refine ⟨v, by rw [valV_put, if_pos rfl], ?_⟩
          have e6 : ((List.range (shP (shapes p) c)).map fun k => setsB ys (knW p ys j) k ((p[c]?.map (·.body)).getD [])).map PyData.bool = (((List.range wk.params).filter fun _ => true).map fun k => PyData.bool (setsB ys (knW p ys j) k wk.body)) := by
            rw [filter_yes, List.map_map, shP_get hwk, hwk]
            rfl
          rw [e6]
          exact t5.kp kk
        · simp only [knW] at hc
          rw [if_neg (by omega)] at hc
          obtain ⟨u, h1, h2⟩ := k3 c bs hc
          refine ⟨u, ?_, (h2.ex e5).kp kk⟩
          rw [valV_put, if_neg (by intro e; cases e; exact ec rfl)]
          exact h1
    · rintro σ' H4 ⟨u3, rfl, hkn4, hf⟩
      dsimp only
      have t14 := t1.kp (keep hf)
      obtain ⟨kvs, k1, k2, k3⟩ := hkn4
      refine w_ret (w_d (K := K) (d := encBs (mayL p ys)) ?_ fun v H5 e5 t5 => ?_)
      · refine ed_is (ed_tupL (EvDL.rd (edl_lcR (n := p.length) (fun _ => true) (fun i => .tuple (((knW p ys p.length i).getD []).map PyData.bool)) (eda_cons ?_ eda_nil) (by omega) (fun _ => rfl) (fun k H5 e5 hk => tk_yes) fun i H5 e5 hi _ => ?_))) ?_
        · apply ed_is
          · walk_at "ev"
          · simp
        · obtain ⟨bs, hb1, hb2⟩ := knW_some (p := p) (ys := ys) (j := p.length) (c := i) (Nat.le_refl _) (by omega) hi
          obtain ⟨v, h1, h2⟩ := k3 i bs hb1
          refine ed_dgetI rfl (e5 _ _ k1) (c := (i : Int)) (ed_var rfl (.int _)) h1 ?_
          rw [hb1]
          exact h2.ex e5
        · rw [filter_yes]
          simp [encBs, mayL]
      · refine kq hok hy2 v H5 (fun a o h => (hf.trans (Fr.of e5)) a o (fun z => ?_) (e3 a o h)) t5
        have e : a = kn := by simpa using z
        rw [e, fresh_back (e1.trans e2) hkn] at h
        cases h
end
end Hw

set_option maxRecDepth 100000
set_option maxHeartbeats 4000000
/-! SE3: the law's handings -/
namespace Hw
open PySem PySem.Spec PyProof.Rows L2 Evl
local macro_rules | `(tactic| walk_at "dd") => `(tactic| first | rfl | decide | (simp; done) | omega)
local macro_rules | `(tactic| walk_at "td") => `(tactic| first | assumption | exact Td.int _ | exact Td.bl _ | exact Td.str _ | exact Td.non | exact Td.tup (by assumption) (by assumption))
local macro_rules | `(tactic| walk_at "ev") => `(tactic| first
  | exact ed_ci | exact ed_cs | exact ed_cb | exact ed_cn
  | (apply ed_cg; assumption)
  | (apply ed_var; (rfl); (walk_at "td"))
  | (apply ed_ixT; (walk_at "ev"); (walk_at "ev"); (first | rfl | assumption))
  | (apply ed_rowI; (rfl); (assumption); (walk_at "ev"); (rfl))
  | (apply ed_ixL; (apply EvDL.rd; walk_at "edl"); (walk_at "ev"); (rfl))
  | (apply ed_intb; (walk_at "ev"))
  | (apply ed_len; walk_at "ev")
  | (apply ed_lenV; (apply ev_rowR; (rfl); (assumption); (walk_at "ev"); (rfl)); (assumption))
  | (apply ed_Ii; (walk_at "ev"); (walk_at "ev"); (walk_at "cc"))
  | (apply ed_isi; (walk_at "ev"); (rfl))
  | (apply ed_I0i; (walk_at "ev"); (walk_at "ev"))
  | (apply ed_I0b; (walk_at "ev"); (walk_at "ev"))
  | (apply ed_eqi; (walk_at "ev"); (walk_at "ev"))
  | (apply ed_nei; (walk_at "ev"); (walk_at "ev"))
  | (apply ed_andF; walk_at "ev")
  | (apply ed_andV; (walk_at "ev"); (intro _; walk_at "ev"))
  | (apply ed_orT; walk_at "ev")
  | (apply ed_orV; (walk_at "ev"); (intro _; walk_at "ev"))
  | (apply ed_notT; walk_at "ev")
  | (apply ed_notF; walk_at "ev")
  | (apply ed_notV; walk_at "ev")
  | (apply ed_chain; (walk_at "ev"); (walk_at "ev"); (intro _; walk_at "ev"))
  | (apply ed_eqS; (walk_at "ev"); (walk_at "ev"); (walk_at "bb"); (walk_at "bb"))
  | (apply ed_neS; (walk_at "ev"); (walk_at "ev"); (walk_at "bb"); (walk_at "bb"))
  | (apply ed_inT; (walk_at "ev"); (walk_at "ev"); (rfl); (rfl))
  | (apply ed_niT; (walk_at "ev"); (walk_at "ev"); (rfl); (rfl))
  | (apply ed_tup; (walk_at "eva"); (walk_at "bb"))
  | (apply ed_sl; (walk_at "ev"); (walk_at "evo"); (walk_at "evo"))
  | (apply ed_eqN; (apply EvDL.rd; walk_at "edl"); (walk_at "edl"); (walk_at "bb"))
  | (apply ed_neN; (apply EvDL.rd; walk_at "edl"); (walk_at "edl"); (walk_at "bb"))
  | (apply ed_ixL; (apply edr_var; (rfl); (assumption); (assumption)); (walk_at "ev"); (first | rfl | assumption))
  | (apply ed_lenL; (apply edr_var; (rfl); (assumption); (assumption)))
  | (apply ed_call; (walk_at "eva"); (walk_at "post")))
local macro_rules | `(tactic| walk_at "edl") => `(tactic| first
  | assumption
  | (apply edl_lst; (walk_at "eva"); (walk_at "bb")))
local macro_rules | `(tactic| walk_at "eva") => `(tactic| first
  | exact eda_nil
  | (apply eda_cons; (walk_at "ev"); (walk_at "eva")))
local macro_rules | `(tactic| walk_at "evo") => `(tactic| first
  | exact eok_none
  | (apply eok_some; walk_at "ev"))
local macro_rules | `(tactic| walk_at "bb") => `(tactic| first | rfl | assumption | (simp; done) | (simp; omega) | decide +kernel)
local macro_rules | `(tactic| walk_at "et") => `(tactic| first
  | exact tk_yes
  | (apply tk_andF; walk_at "et")
  | (apply tk_and; (walk_at "et"); (intro _; walk_at "et"))
  | (apply tk_orT; walk_at "et")
  | (apply tk_or; (walk_at "et"); (intro _; walk_at "et"))
  | (apply tk_notT; walk_at "et")
  | (apply tk_notF; walk_at "et")
  | (apply tk_not; walk_at "et")
  | (apply tk_v; walk_at "ev")
  | (apply tk_vB; walk_at "ev"))
local macro_rules | `(tactic| walk_at "if") => `(tactic| first
  | (apply pst_whenF; (walk_at "et"); (walk_at "bb"))
  | (apply pst_whenT; (walk_at "et"); (walk_at "bb")))
local macro_rules | `(tactic| walk_at "post") => `(tactic| first | assumption | exact ⟨_, _, rfl, rfl⟩ | exact ⟨_, _, _, _, rfl, by omega, by omega, rfl⟩ | exact ⟨_, _, _, 0, rfl, by omega, by omega, rfl⟩)
local macro_rules | `(tactic| walk_at "cc") => `(tactic| first | assumption | decide | omega | (refine ⟨?_, ?_⟩ <;> first | decide | omega) | (exact Or.inl (by constructor <;> omega)))

section
variable {K : PySem.W.Frag} {σ : L2.St} {H H' : Hp} {D : Ends} {tu tz : TS} {te : TE}
/-- for x in a tuple that stands in a variable -/
theorem w_forTv {α : Type} {n j : Nat} {v : V} (xs : List α) (f : α → PyData) (hv : σ[n]? = some (some v)) (h : Td K H v (.tuple (xs.map f))) (Pv : Nat → L2.St → Hp → Prop) (h0 : Pv 0 σ H) (hk : ∀ i σ' H', Pv i σ' H' → Keep K H H')
    (hs : ∀ i x v σ' H', xs[i]? = some x → Td K H' v (f x) → Pv i σ' H' → tu { D with nx := Pv (i + 1), ct := Pv (i + 1), bk := D.nx } (σ'.set j (some v)) H')
    (hd : ∀ σ' H', Pv xs.length σ' H' → D.nx σ' H') : tFor (iTup K (tVar n)) (gName j) tu D σ H := by
  refine ⟨v, hv, ?_⟩
  obtain ⟨a, ys, rfl, hx, hall⟩ := h.tup_inv
  have hlen := hall.length
  rw [List.length_map] at hlen
  refine ⟨a, rfl, ⟨ys, hx⟩, for_tup Pv h0 (fun i σ' H' _ p => hk i σ' H' p a ys hx) (fun i x σ' H' hi p => ?_) (fun σ' H' p => hd σ' H' (by rw [← hlen]; exact p))⟩
  obtain ⟨d, hdd, td⟩ := hall.getV hi
  rw [List.getElem?_map] at hdd
  obtain ⟨z, hz, rfl⟩ := Option.map_eq_some_iff.mp hdd
  exact hs i z x σ' H' hz (td.kp (hk i σ' H' p)) p
end
/-! what is set, what is handed on -/
def handC (c : Nat) : List Th → Nat → List (Nat × Option (Nat × Nat))
  | [], _ => []
  | .par j :: r, k => (j, some (c, k)) :: handC c r (k + 1)
  | _ :: r, k => handC c r (k + 1)
mutual
def handS : Stm → List (Nat × Option (Nat × Nat))
  | .set (.par j) _ => [(j, none)]
  | .set _ _ => []
  | .say _ => []
  | .ite _ a b => handB a ++ handB b
  | .call c ts => handC c ts 0
def handB : List Stm → List (Nat × Option (Nat × Nat))
  | [] => []
  | s :: r => handS s ++ handB r
end
theorem handB_app : ∀ xs ys : List Stm, handB (xs ++ ys) = handB xs ++ handB ys
  | [], ys => by simp [handB]
  | x :: xs, ys => by simp only [List.cons_append, handB, handB_app xs ys, List.append_assoc]
theorem handC_app (c : Nat) : ∀ (xs ys : List Th) (k : Nat), handC c (xs ++ ys) k = handC c xs k ++ handC c ys (k + xs.length)
  | [], ys, k => by simp [handC]
  | x :: xs, ys, k => by
    have e : k + 1 + xs.length = k + (xs.length + 1) := by omega
    cases x <;> simp [handC, handC_app c xs ys (k + 1), e]
def handT (c k : Nat) : Th → List (Nat × Option (Nat × Nat))
  | .par j => [(j, some (c, k))]
  | _ => []
theorem handC_snoc (c : Nat) (ts : List Th) (t : Th) : handC c (ts ++ [t]) 0 = handC c ts 0 ++ handT c ts.length t := by
  rw [handC_app, Nat.zero_add]
  cases t <;> simp [handC, handT]
def encH (h : Nat × Option (Nat × Nat)) : PyData := match h.2 with
  | none => .tuple [.int (h.1 : Int), .none, .none]
  | some (c, k) => .tuple [.int (h.1 : Int), .int (c : Int), .int (k : Int)]
def isPar : Th → Bool
  | .par _ => true
  | _ => false
def spHand (K : PySem.W.Frag) (n : Nat) : Sp := fun vs H Q _ => ∃ (b : V) (body : List Stm), vs = [b] ∧ Td K H b (.tuple (encB body)) ∧ dpB body + 1 ≤ n ∧ (handB body).length ≤ 50000 ∧ smB body = true ∧ body.length ≤ 1000 ∧
  ∀ p xs H', H p = none → Ex H H' → H' p = some (.lst xs) → TdAll K H' xs ((handB body).map encH) → Q (.ref p) H'
theorem take_snoc {α : Type} {xs : List α} {n : Nat} {d : α} (h : xs[n]? = some d) : xs.take (n + 1) = xs.take n ++ [d] := by
  rw [List.take_add_one, h]
  rfl
theorem handB_take {body : List Stm} {i : Nat} {x : Stm} (h : body[i]? = some x) : handB (body.take (i + 1)) = handB (body.take i) ++ handS x := by
  rw [take_snoc h, handB_app]
  simp [handB]
theorem handB_le : ∀ (body : List Stm) (i : Nat), (handB (body.take i)).length ≤ (handB body).length
  | [], i => by simp [handB]
  | x :: r, 0 => by simp [handB]
  | x :: r, i + 1 => by
    have := handB_le r i
    simp only [List.take_succ_cons, handB, List.length_append]
    omega
theorem handC_le (c : Nat) (ts : List Th) : ∀ i, (handC c (ts.take i) 0).length ≤ (handC c ts 0).length := by
  intro i
  have e : handC c ts 0 = handC c (ts.take i) 0 ++ handC c (ts.drop i) (0 + (ts.take i).length) := by
    rw [← handC_app, List.take_append_drop]
  rw [e, List.length_append]
  omega
section
variable {P : Program} {w : World} {K : PySem.W.Frag} {mg : Str → Option Value} {base : Heap} (T : Tx K mg)
include T
theorem hand_step {n : Nat} (spI : Sp) (hspI : 0 < n → spI = spHand K (n - 1)) (G_I : Fn__law_handings T P w base CX0 n spI) : Fn__law_handings T P w base CX0 (n + 1) (spHand K n) := by
  have G__law_handings := G_I
  refine T.F__law_handings.ok sc__law_handings (fun vs H Q E h => by obtain ⟨b, body, rfl, _⟩ := h; rfl) fun cdv A outer s0 H vs Q E hr h => ?_
  obtain ⟨b, body, rfl, tb, hdp, hhl, hsm, hbl, k⟩ := h
  refine ⟨_, (pss_cons (ps_set (i := 1) sc__law_handings.nd rfl (Or.inl rfl) (pe_lst pa_nil))
  (pss_cons (ps_for (passes_of rfl) rfl (kpi_tup K (pv 0)) (pg_name (i := 2) sc__law_handings.nd rfl (Or.inl rfl))
    (pss_cons (ps_if (PW.pt (pw_and (pt_cmpR (kop_eq K hr.units) (pe_ix (kix_tup K) (pv 2) pe_int (fun _ _ => rfl)) pe_str (nomark _)) (pw_and1 (pt_cmpR (kop_eq K hr.units) (pe_ix (kix_tup K) (pe_ix (kix_tup K) (pv 2) pe_int (fun _ _ => rfl)) pe_int (fun _ _ => rfl)) pe_str (nomark _)))))
      (pss_one (ps_expr (pe_bm PySem.F.plainAttrs_list PySem.F.slot_list_append PySem.F.type_list_append mt_append (pv 1) (pa_cons (pe_tup (pa_cons (pe_ix (kix_tup K) (pe_ix (kix_tup K) (pv 2) pe_int (fun _ _ => rfl)) pe_int (fun _ _ => rfl)) (pa_cons pe_non (pa_cons pe_non pa_nil)))) pa_nil))))
      pss_nil)
    (pss_cons (ps_if (pt_cmpR (kop_eq K hr.units) (pe_ix (kix_tup K) (pv 2) pe_int (fun _ _ => rfl)) pe_str (nomark _))
      (pss_one (ps_for (passes_of rfl) rfl (pi_range1 rfl T.b_range (pa_cons (pe_callB (kc_len K) rfl T.b_len PySem.boot_len (pa_cons (pe_ix (kix_tup K) (pv 2) pe_int (fun _ _ => rfl)) pa_nil)) pa_nil)) (pg_name (i := 3) sc__law_handings.nd rfl (Or.inl rfl))
        (pss_one (ps_if (pt_cmpR (kop_eq K hr.units) (pe_ix (kix_tup K) (pe_ix (kix_tup K) (pe_ix (kix_tup K) (pv 2) pe_int (fun _ _ => rfl)) (pv 3) (fun _ _ => rfl)) pe_int (fun _ _ => rfl)) pe_str (nomark _))
          (pss_one (ps_expr (pe_bm PySem.F.plainAttrs_list PySem.F.slot_list_append PySem.F.type_list_append mt_append (pv 1) (pa_cons (pe_tup (pa_cons (pe_ix (kix_tup K) (pe_ix (kix_tup K) (pe_ix (kix_tup K) (pv 2) pe_int (fun _ _ => rfl)) (pv 3) (fun _ _ => rfl)) pe_int (fun _ _ => rfl)) (pa_cons (pe_ix (kix_tup K) (pv 2) pe_int (fun _ _ => rfl)) (pa_cons (pv 3) pa_nil)))) pa_nil))))
          pss_nil))))
      pss_nil)
    (pss_one (ps_if (pt_cmpR (kop_eq K hr.units) (pe_ix (kix_tup K) (pv 2) pe_int (fun _ _ => rfl)) pe_str (nomark _))
      (pss_one (ps_set (i := 1) sc__law_handings.nd rfl (Or.inl rfl) (pe_op op_cat (pe_op op_cat (pv 1) (pe_call G__law_handings (hr.mono (by omega)) (by rfl) T.g__law_handings T.k__law_handings T.bd__law_handings .nil pass0 (pa_cons (pe_ix (kix_tup K) (pv 2) pe_int (fun _ _ => rfl)) pa_nil))) (pe_call G__law_handings (hr.mono (by omega)) (by rfl) T.g__law_handings T.k__law_handings T.bd__law_handings .nil pass0 (pa_cons (pe_ix (kix_tup K) (pv 2) pe_int (fun _ _ => rfl)) pa_nil)))))
      pss_nil)))))
  (pss_one (ps_ret (pv 1))))), ?_⟩
  refine Pst.go (K := K) ?_
  refine pst_asgL (edl_lst eda_nil (by simp)) fun fl xs0 H1 hfl e1 hx1 ht1 => ?_
  cases ht1
  refine pst_of fun H2 e2 => ?_
  have e12 := e1.trans e2
  have tb2 : Td K H2 b (.tuple (body.map encS)) := by
    rw [← encB_map]
    exact tb.ex e12
  refine w_seq (w_forTv (K := K) body encS rfl tb2 (fun i σ' H' => ∃ (fl : Addr) (xs : List V) (u2 u3 : Option V), σ' = [some b, some (.ref fl), u2, u3] ∧ H fl = none ∧ Ex H H' ∧ Keep K H2 H' ∧ H' fl = some (.lst xs) ∧ TdAll K H' xs ((handB (body.take i)).map encH)) ?_ ?_ ?_ ?_)
  · exact ⟨fl, [], _, _, rfl, hfl, e12, Keep.refl, e2 _ _ hx1, .nil⟩
  · rintro i σ' H' ⟨fl, xs, u2, u3, rfl, _, _, h, _⟩
    exact h
  · rintro i x v σ' H3 hx tx ⟨fl, xs, u2, u3, rfl, hf0, e3, hk3, hxs, hall⟩
    dsimp only
    refine Pst.go (K := K) ?_
    have hbt := handB_take hx
    have hle := handB_le body (i + 1)
    rw [hbt, List.length_append] at hle
    have hmem := List.mem_of_getElem? hx
    have hN0 : True := True.intro
    have fin : ∀ fl' xs' u2 u3 H9, H fl' = none → Ex H H9 → Keep K H2 H9 → H9 fl' = some (.lst xs') → TdAll K H9 xs' ((handB (body.take i) ++ handS x).map encH) → ∃ (fl : Addr) (xs : List V) (y2 y3 : Option V), ([some b, some (.ref fl'), u2, u3] : L2.St) = [some b, some (.ref fl), y2, y3] ∧ H fl = none ∧ Ex H H9 ∧ Keep K H2 H9 ∧ H9 fl = some (.lst xs) ∧ TdAll K H9 xs ((handB (body.take (i + 1))).map encH) := fun fl' xs' u2 u3 H9 a1 a2 a3 a4 a5 => ⟨fl', xs', _, _, rfl, a1, a2, a3, a4, by rw [hbt]; exact a5⟩
    cases x with
    | set p t =>
      unfold encS at tx
      cases p with
      | par j =>
        unfold encT at tx
        refine pst_whenT (b := true) ?_ rfl ?_
        · apply tk_is
          · walk_at "et"
          · simp
        refine pst_of fun H4 e4 => ?_
        replace tx := tx.ex e4
        refine w_app rfl (e4 _ _ hxs) (w_d (K := K) (d := encH (j, none)) ?_ fun v4 H5 e5 t5 => ?_)
        · unfold encH
          walk_at "ev"
        have hx5 := e5 _ _ (e4 _ _ hxs)
        refine ⟨xs, hx5, by rw [hall.length, List.length_map]; exact sz_lt (by omega), ?_⟩
        have kk : Keep K H5 (upd H5 fl (.lst (xs ++ [v4]))) := Keep.upd hx5 True.intro
        have a2 : Ex H (upd H5 fl (.lst (xs ++ [v4]))) := Ex.mut ((e3.trans e4).trans e5) hf0
        have a3 : Keep K H2 (upd H5 fl (.lst (xs ++ [v4]))) := (hk3.trans (ex_keep (e4.trans e5))).trans kk
        have a4 : upd H5 fl (.lst (xs ++ [v4])) fl = some (.lst (xs ++ [v4])) := upd_same
        have a5 : TdAll K (upd H5 fl (.lst (xs ++ [v4]))) (xs ++ [v4]) ((handB (body.take i) ++ handS (.set (.par j) t)).map encH) := by
          rw [List.map_append]
          exact ((hall.ex (e4.trans e5)).kp kk).snoc (t5.kp kk)
        replace tx := (tx.ex e5).kp kk
        generalize upd H5 fl (.lst (xs ++ [v4])) = H6 at *
        try dsimp only
        refine Pst.go (K := K) ?_
        refine pst_whenF (b := false) ?_ rfl ?_
        · apply tk_is
          · walk_at "et"
          · simp
        refine pst_if (K := K) (b := false) ?_ (fun hb => by cases hb) fun _ => pst_of fun H9 e9 => ?_
        · apply tk_is
          · walk_at "et"
          · simp
        exact fin fl _ _ _ H9 hf0 (a2.trans e9) (a3.trans (ex_keep e9)) (e9 _ _ a4) (a5.ex e9)
      | num j =>
        unfold encT at tx
        refine pst_whenF (b := false) ?_ rfl ?_
        · skip
          apply tk_is
          · walk_at "et"
          · simp
        refine pst_of fun H4 e4 => ?_
        replace tx := tx.ex e4
        try dsimp only
        refine Pst.go (K := K) ?_
        refine pst_whenF (b := false) ?_ rfl ?_
        · apply tk_is
          · walk_at "et"
          · simp
        refine pst_if (K := K) (b := false) ?_ (fun hb => by cases hb) fun _ => pst_of fun H9 e9 => ?_
        · apply tk_is
          · walk_at "et"
          · simp
        exact fin fl xs _ _ H9 hf0 ((e3.trans e4).trans e9) (hk3.trans (ex_keep (e4.trans e9))) (e9 _ _ (e4 _ _ hxs)) (by simpa [handS] using (hall.ex e4).ex e9)
      | sum ja jb =>
        unfold encT at tx
        refine pst_whenF (b := false) ?_ rfl ?_
        · skip
          apply tk_is
          · walk_at "et"
          · simp
        refine pst_of fun H4 e4 => ?_
        replace tx := tx.ex e4
        try dsimp only
        refine Pst.go (K := K) ?_
        refine pst_whenF (b := false) ?_ rfl ?_
        · apply tk_is
          · walk_at "et"
          · simp
        refine pst_if (K := K) (b := false) ?_ (fun hb => by cases hb) fun _ => pst_of fun H9 e9 => ?_
        · apply tk_is
          · walk_at "et"
          · simp
        exact fin fl xs _ _ H9 hf0 ((e3.trans e4).trans e9) (hk3.trans (ex_keep (e4.trans e9))) (e9 _ _ (e4 _ _ hxs)) (by simpa [handS] using (hall.ex e4).ex e9)
      | cell j =>
        unfold encT at tx
        refine pst_whenF (b := false) ?_ rfl ?_
        · skip
          apply tk_is
          · walk_at "et"
          · simp
        refine pst_of fun H4 e4 => ?_
        replace tx := tx.ex e4
        try dsimp only
        refine Pst.go (K := K) ?_
        refine pst_whenF (b := false) ?_ rfl ?_
        · apply tk_is
          · walk_at "et"
          · simp
        refine pst_if (K := K) (b := false) ?_ (fun hb => by cases hb) fun _ => pst_of fun H9 e9 => ?_
        · apply tk_is
          · walk_at "et"
          · simp
        exact fin fl xs _ _ H9 hf0 ((e3.trans e4).trans e9) (hk3.trans (ex_keep (e4.trans e9))) (e9 _ _ (e4 _ _ hxs)) (by simpa [handS] using (hall.ex e4).ex e9)
      | own j =>
        unfold encT at tx
        refine pst_whenF (b := false) ?_ rfl ?_
        · skip
          apply tk_is
          · walk_at "et"
          · simp
        refine pst_of fun H4 e4 => ?_
        replace tx := tx.ex e4
        try dsimp only
        refine Pst.go (K := K) ?_
        refine pst_whenF (b := false) ?_ rfl ?_
        · apply tk_is
          · walk_at "et"
          · simp
        refine pst_if (K := K) (b := false) ?_ (fun hb => by cases hb) fun _ => pst_of fun H9 e9 => ?_
        · apply tk_is
          · walk_at "et"
          · simp
        exact fin fl xs _ _ H9 hf0 ((e3.trans e4).trans e9) (hk3.trans (ex_keep (e4.trans e9))) (e9 _ _ (e4 _ _ hxs)) (by simpa [handS] using (hall.ex e4).ex e9)
    | say t =>
      unfold encS at tx
      refine pst_whenF (b := false) ?_ rfl ?_
      · apply tk_andF
        apply tk_is
        · walk_at "et"
        · simp
      refine pst_of fun H4 e4 => ?_
      replace tx := tx.ex e4
      try dsimp only
      refine Pst.go (K := K) ?_
      refine pst_whenF (b := false) ?_ rfl ?_
      · apply tk_is
        · walk_at "et"
        · simp
      refine pst_if (K := K) (b := false) ?_ (fun hb => by cases hb) fun _ => pst_of fun H9 e9 => ?_
      · apply tk_is
        · walk_at "et"
        · simp
      exact fin fl xs _ _ H9 hf0 ((e3.trans e4).trans e9) (hk3.trans (ex_keep (e4.trans e9))) (e9 _ _ (e4 _ _ hxs)) (by simpa [handS] using (hall.ex e4).ex e9)
    | ite t ba bb =>
      unfold encS at tx
      refine pst_whenF (b := false) ?_ rfl ?_
      · apply tk_andF
        apply tk_is
        · walk_at "et"
        · simp
      refine pst_whenF (b := false) ?_ rfl ?_
      · apply tk_is
        · walk_at "et"
        · simp
      have hd := dpB_mem hmem
      have ha := bods_dp (s := .ite t ba bb) (b := ba) (by simp [bods])
      have hb := bods_dp (s := .ite t ba bb) (b := bb) (by simp [bods])
      have sa := bods_sm (s := .ite t ba bb) (b := ba) (smB_mem hsm hmem) (by simp [bods])
      have sb := bods_sm (s := .ite t ba bb) (b := bb) (smB_mem hsm hmem) (by simp [bods])
      simp only [handS, List.length_append] at hle
      obtain ⟨m, rfl⟩ : ∃ m, n = m + 1 := ⟨n - 1, by omega⟩
      rw [hspI (by omega)]
      have em : m + 1 - 1 = m := by omega
      rw [em]
      refine pst_if (K := K) (b := true) ?_ (fun _ => pst_of fun H4 e4 => ?_) (fun hb => by cases hb)
      · apply tk_is
        · walk_at "et"
        · simp
      replace tx := tx.ex e4
      refine w_asg (w_op (w_op (w_v rfl (w_call (w_cons (w_d (K := K) (d := .tuple (encB ba)) ?_ fun va H5 e5 tva => w_nil ⟨va, ba, rfl, tva, by omega, by omega, sa.2, sa.1, fun p xs1 H6 hp e6 h1 t1 => ?_⟩))))))
      · walk_at "ev"
      have e46 := (e4.trans e5).trans e6
      have hpf : H fl = none := hf0
      refine ⟨fl, p, xs, xs1, rfl, rfl, e46 _ _ hxs, h1, by rw [hall.length, t1.length, List.length_map, List.length_map]; exact sz_of (by omega), fun q hq => ?_⟩
      have e7 := Ex.new (o := .lst (xs ++ xs1)) hq
      have a7 : upd H6 q (.lst (xs ++ xs1)) q = some (.lst (xs ++ xs1)) := upd_same
      have t7 : TdAll K (upd H6 q (.lst (xs ++ xs1))) (xs ++ xs1) ((handB (body.take i)).map encH ++ (handB ba).map encH) := ((hall.ex e46).append t1).ex e7
      have hq0 : H q = none := fresh_back (e3.trans e46) hq
      replace tx := ((tx.ex e5).ex e6).ex e7
      generalize upd H6 q (.lst (xs ++ xs1)) = H7 at *
      refine w_call (w_cons (w_d (K := K) (d := .tuple (encB bb)) ?_ fun vb H8 e8 tvb => w_nil ⟨vb, bb, rfl, tvb, by omega, by omega, sb.2, sb.1, fun p2 xs2 H9 hp2 e9 h2 t2 => ?_⟩))
      · walk_at "ev"
      have e89 := e8.trans e9
      refine ⟨q, p2, xs ++ xs1, xs2, rfl, rfl, e89 _ _ a7, h2, by rw [List.length_append, hall.length, t1.length, t2.length, List.length_map, List.length_map, List.length_map]; exact sz_of (by omega), fun q2 hq2 => ?_⟩
      have e10 := Ex.new (o := .lst ((xs ++ xs1) ++ xs2)) hq2
      have eall : Ex H3 (upd H9 q2 (.lst ((xs ++ xs1) ++ xs2))) := ((e46.trans e7).trans e89).trans e10
      refine fin q2 _ _ _ _ (fresh_back (((e3.trans e46).trans e7).trans e89) hq2) (e3.trans eall) (hk3.trans (ex_keep eall)) upd_same ?_
      rw [List.map_append]
      simp only [handS, List.map_append]
      rw [← List.append_assoc]
      exact ((t7.ex e89).append t2).ex e10
    | call c ts =>
      have htsl : ts.length ≤ 1000 := by
        have := smB_mem hsm hmem
        simpa [smS] using this
      unfold encS at tx
      refine pst_whenF (b := false) ?_ rfl ?_
      · apply tk_andF
        apply tk_is
        · walk_at "et"
        · simp
      refine pst_whenT (b := true) ?_ rfl ?_
      · apply tk_is
        · walk_at "et"
        · simp
      refine pst_of fun H4 e4 => ?_
      replace tx := tx.ex e4
      refine w_forR (K := K) (n := ts.length) ?_ (by omega) (fun l σ2 H' => ∃ (xs : List V) (u3 : Option V), σ2 = [some b, some (.ref fl), some v, u3] ∧ Ex H H' ∧ Keep K H4 H' ∧ H' fl = some (.lst xs) ∧ TdAll K H' xs ((handB (body.take i) ++ handC c (ts.take l) 0).map encH)) ?_ ?_ ?_
      · apply eda_cons
        · apply ed_is
          · walk_at "ev"
          · simp
        · exact eda_nil
      · intro H5 e5
        exact ⟨xs, _, rfl, (e3.trans e4).trans e5, ex_keep e5, e5 _ _ (e4 _ _ hxs), by simpa [handC] using (hall.ex e4).ex e5⟩
      · rintro l σ2 H5 hl ⟨xs2, u3, rfl, e5, k5, hx5, ht5⟩
        dsimp only
        obtain ⟨t, ht⟩ : ∃ t, ts[l]? = some t := ⟨_, List.getElem?_eq_getElem hl⟩
        have htl : (ts.take l).length = l := by simp; omega
        have htk : handC c (ts.take (l + 1)) 0 = handC c (ts.take l) 0 ++ handT c l t := by
          rw [take_snoc ht, handC_snoc, htl]
        have hle2 := handC_le c ts l
        simp only [handS] at hle
        have txx := tx.kp k5
        have hat : atI (ts.map encT) (l : Int) = some (encT t) := atI_nat (by rw [List.getElem?_map, ht] <;> rfl)
        rw [htk]
        cases t with
        | par j =>
          unfold encT at hat
          refine Pst.go (K := K) ?_
          refine pst_if (K := K) (b := true) ?_ (fun _ => pst_of fun H6 e6 => ?_) (fun hb => by cases hb)
          · apply tk_is
            · walk_at "et"
            · simp
          replace txx := txx.ex e6
          refine w_app rfl (e6 _ _ hx5) (w_d (K := K) (d := encH (j, some (c, l))) ?_ fun v4 H7 e7 t7 => ?_)
          · unfold encH
            walk_at "ev"
          have hx7 := e7 _ _ (e6 _ _ hx5)
          have kk : Keep K H7 (upd H7 fl (.lst (xs2 ++ [v4]))) := Keep.upd hx7 True.intro
          refine ⟨xs2, hx7, by rw [ht5.length, List.length_map, List.length_append]; exact sz_lt (by omega), xs2 ++ [v4], _, rfl, Ex.mut ((e5.trans e6).trans e7) hf0, (k5.trans (ex_keep (e6.trans e7))).trans kk, upd_same, ?_⟩
          rw [← List.append_assoc, List.map_append]
          exact ((ht5.ex (e6.trans e7)).kp kk).snoc (t7.kp kk)
        | num j =>
          unfold encT at hat
          refine Pst.go (K := K) ?_
          refine pst_if (K := K) (b := false) ?_ (fun hb => by cases hb) (fun _ => pst_of fun H6 e6 => ?_)
          · apply tk_is
            · walk_at "et"
            · simp
          exact ⟨xs2, _, rfl, e5.trans e6, k5.trans (ex_keep e6), e6 _ _ hx5, by simpa [handT] using ht5.ex e6⟩
        | sum ja jb =>
          unfold encT at hat
          refine Pst.go (K := K) ?_
          refine pst_if (K := K) (b := false) ?_ (fun hb => by cases hb) (fun _ => pst_of fun H6 e6 => ?_)
          · apply tk_is
            · walk_at "et"
            · simp
          exact ⟨xs2, _, rfl, e5.trans e6, k5.trans (ex_keep e6), e6 _ _ hx5, by simpa [handT] using ht5.ex e6⟩
        | cell j =>
          unfold encT at hat
          refine Pst.go (K := K) ?_
          refine pst_if (K := K) (b := false) ?_ (fun hb => by cases hb) (fun _ => pst_of fun H6 e6 => ?_)
          · apply tk_is
            · walk_at "et"
            · simp
          exact ⟨xs2, _, rfl, e5.trans e6, k5.trans (ex_keep e6), e6 _ _ hx5, by simpa [handT] using ht5.ex e6⟩
        | own j =>
          unfold encT at hat
          refine Pst.go (K := K) ?_
          refine pst_if (K := K) (b := false) ?_ (fun hb => by cases hb) (fun _ => pst_of fun H6 e6 => ?_)
          · apply tk_is
            · walk_at "et"
            · simp
          exact ⟨xs2, _, rfl, e5.trans e6, k5.trans (ex_keep e6), e6 _ _ hx5, by simpa [handT] using ht5.ex e6⟩
      · rintro σ2 H5 ⟨xs2, u3, rfl, e5, k5, hx5, ht5⟩
        rw [List.take_length] at ht5
        dsimp only
        refine Pst.go (K := K) ?_
        have txx := tx.kp k5
        refine pst_if (K := K) (b := false) ?_ (fun hb => by cases hb) fun _ => pst_of fun H9 e9 => ?_
        · apply tk_is
          · walk_at "et"
          · simp
        exact fin fl _ _ _ H9 hf0 (e5.trans e9) ((hk3.trans (ex_keep e4)).trans (k5.trans (ex_keep e9))) (e9 _ _ hx5) (ht5.ex e9)
  · rintro σ' H3 ⟨fl, xs, u2, u3, rfl, hf0, e3, hk3, hxs, hall⟩
    rw [List.take_length] at hall
    exact ⟨_, rfl, k fl xs H3 hf0 e3 hxs hall⟩
theorem ok_handings : ∀ n : Nat, Fn__law_handings T P w base CX0 (n + 1) (spHand K n)
  | 0 => hand_step T (fun _ _ _ _ => False) (fun h => absurd h (Nat.lt_irrefl _)) (fn_vac fun _ _ _ _ h => h)
  | n + 1 => hand_step T (spHand K n) (fun _ => rfl) (ok_handings n)
end
end Hw

set_option maxRecDepth 100000
set_option maxHeartbeats 4000000
/-! SE4: may_set by what is handed -/
namespace Hw
open PySem PySem.Spec PyProof.Rows L2 Evl
theorem any_same {α : Type} {f g : α → Bool} : ∀ {l : List α}, (∀ x ∈ l, f x = g x) → l.any f = l.any g
  | [], _ => rfl
  | x :: r, h => by rw [List.any_cons, List.any_cons, h x List.mem_cons_self, any_same fun y hy => h y (List.mem_cons_of_mem _ hy)]
theorem handC_mem {c : Nat} {h : Nat × Option (Nat × Nat)} : ∀ {ts : List Th} {k : Nat}, h ∈ handC c ts k ↔ ∃ i j, ts[i]? = some (.par j) ∧ h = (j, some (c, k + i))
  | [], k => by simp [handC]
  | t :: r, k => by
    have ih := handC_mem (c := c) (h := h) (ts := r) (k := k + 1)
    have split : (∃ i j, (t :: r)[i]? = some (.par j) ∧ h = (j, some (c, k + i))) ↔ (∃ j, t = .par j ∧ h = (j, some (c, k))) ∨ ∃ i j, r[i]? = some (.par j) ∧ h = (j, some (c, k + 1 + i)) := by
      constructor
      · rintro ⟨i, j, h1, h2⟩
        cases i with
        | zero => exact .inl ⟨j, by simpa using h1, by simpa using h2⟩
        | succ i => exact .inr ⟨i, j, by simpa using h1, by rw [h2]; congr 3; omega⟩
      · rintro (⟨j, h1, h2⟩ | ⟨i, j, h1, h2⟩)
        · exact ⟨0, j, by simp [h1], by simpa using h2⟩
        · exact ⟨i + 1, j, by simpa using h1, by rw [h2]; congr 3; omega⟩
    rw [split]
    cases t with
    | par j =>
      simp only [handC, List.mem_cons, ih]
      constructor
      · rintro (e | e)
        · exact .inl ⟨j, rfl, e⟩
        · exact .inr e
      · rintro (⟨j', e, e2⟩ | e)
        · cases e; exact .inl e2
        · exact .inr e
    | _ => simp only [handC, ih]; simp
/-- a handing counts, by what is known -/
def fires (ys : List (List Str)) (m : Nat → Nat → Bool) (h : Nat × Option (Nat × Nat)) : Bool := match h.2 with
  | none => true
  | some (c, k) => m c k && !PyData.eqv (.str ((ys.getD c []).getD k "copy")) (.str "copy")
def ksF (ks : Nat → Option (List Bool)) (c k : Nat) : Bool := ((ks c).getD []).getD k false
mutual
theorem setsS_hand {ys : List (List Str)} {ks : Nat → Option (List Bool)} {j : Nat} : ∀ s : Stm, setsS ys ks j s = (handS s).any fun h => decide (h.1 = j) && fires ys (ksF ks) h
  | .set p t => by cases p <;> simp [setsS, handS, fires]
  | .say t => by simp [setsS, handS]
  | .ite t a b => by simp only [setsS, handS, List.any_append, setsB_hand a, setsB_hand b]
  | .call c ts => by
    rw [Bool.eq_iff_iff]
    simp only [setsS, handS, List.any_eq_true, List.mem_range]
    constructor
    · rintro ⟨i, hi, h⟩
      simp only [hitC, Bool.and_eq_true, decide_eq_true_eq] at h
      have e : ts[i]? = some (.par j) := by
        rw [List.getElem?_eq_getElem hi]
        have := h.2.2
        simp [List.getD, hi] at this
        rw [this]
      refine ⟨(j, some (c, 0 + i)), handC_mem.mpr ⟨i, j, e, rfl⟩, ?_⟩
      rw [Nat.zero_add]
      simp only [fires, ksF, decide_true, Bool.true_and, Bool.and_eq_true]
      exact ⟨h.1, h.2.1⟩
    · rintro ⟨h, hm, hh⟩
      obtain ⟨i, j', h1, h2⟩ := handC_mem.mp hm
      subst h2
      rw [Nat.zero_add] at hh
      simp only [fires, ksF, Bool.and_eq_true, decide_eq_true_eq] at hh
      obtain ⟨e, h3, h4⟩ := hh
      subst e
      refine ⟨i, (List.getElem?_eq_some_iff.mp h1).1, ?_⟩
      simp only [hitC, Bool.and_eq_true, decide_eq_true_eq]
      exact ⟨h3, h4, by simp [List.getD, h1]⟩
theorem setsB_hand {ys : List (List Str)} {ks : Nat → Option (List Bool)} {j : Nat} : ∀ b : List Stm, setsB ys ks j b = (handB b).any fun h => decide (h.1 = j) && fires ys (ksF ks) h
  | [] => by simp [setsB, handB]
  | s :: r => by simp only [setsB, handB, List.any_append, setsS_hand s, setsB_hand r]
end
mutual
theorem handS_calls {x : Nat × Option (Nat × Nat)} {c k : Nat} (e : x.2 = some (c, k)) : ∀ s : Stm, x ∈ handS s → ∃ ts, (c, ts) ∈ callsS s ∧ k < ts.length
  | .set p t, h => by cases p <;> simp [handS] at h; subst h; cases e
  | .say t, h => by simp [handS] at h
  | .ite t a b, h => by
    simp only [handS, List.mem_append] at h
    simp only [callsS, List.mem_append]
    rcases h with h | h
    · obtain ⟨ts, h1, h2⟩ := handB_calls e a h
      exact ⟨ts, .inl h1, h2⟩
    · obtain ⟨ts, h1, h2⟩ := handB_calls e b h
      exact ⟨ts, .inr h1, h2⟩
  | .call c' ts, h => by
    obtain ⟨i, j', h1, h2⟩ := handC_mem.mp (by simpa [handS] using h)
    subst h2
    simp at e
    obtain ⟨e1, e2⟩ := e
    subst e1
    refine ⟨ts, by simp [callsS], ?_⟩
    have := (List.getElem?_eq_some_iff.mp h1).1
    omega
theorem handB_calls {x : Nat × Option (Nat × Nat)} {c k : Nat} (e : x.2 = some (c, k)) : ∀ b : List Stm, x ∈ handB b → ∃ ts, (c, ts) ∈ callsB b ∧ k < ts.length
  | [], h => by simp [handB] at h
  | s :: r, h => by
    simp only [handB, List.mem_append] at h
    simp only [callsB, List.mem_append]
    rcases h with h | h
    · obtain ⟨ts, h1, h2⟩ := handS_calls e s h
      exact ⟨ts, .inl h1, h2⟩
    · obtain ⟨ts, h1, h2⟩ := handB_calls e r h
      exact ⟨ts, .inr h1, h2⟩
end
def mayF (p : List Wk) (ys : List (List Str)) (a j : Nat) : Bool := ((knW p ys p.length a).getD []).getD j false
theorem knW_stable {p : List Wk} {ys : List (List Str)} {c : Nat} : ∀ {j d : Nat}, p.length - j ≤ c → c < p.length → j + d ≤ p.length → knW p ys (j + d) c = knW p ys j c
  | j, 0, _, _, _ => rfl
  | j, d + 1, h1, h2, h3 => by
    show (if c = p.length - 1 - (j + d) then _ else knW p ys (j + d) c) = _
    rw [if_neg (by omega)]
    exact knW_stable h1 h2 (by omega)
theorem knW_at {p : List Wk} {ys : List (List Str)} {a : Nat} {w : Wk} (ha : p[a]? = some w) : knW p ys p.length a = some ((List.range w.params).map fun k => setsB ys (knW p ys (p.length - 1 - a)) k w.body) := by
  have hl : a < p.length := (List.getElem?_eq_some_iff.mp ha).1
  have e : p.length = (p.length - 1 - a + 1) + a := by omega
  have h := knW_stable (p := p) (ys := ys) (c := a) (j := p.length - 1 - a + 1) (d := a) (by omega) hl (by omega)
  rw [← e] at h
  rw [h]
  show (if a = p.length - 1 - (p.length - 1 - a) then _ else _) = _
  rw [if_pos (by omega)]
  have : shP (shapes p) a = w.params := by simp [shP, shapes, List.getD, ha]
  rw [this, ha]
  rfl
/-- may_set's answers, by what is handed -/
theorem mayF_hand {p : List Wk} {ys : List (List Str)} {a j : Nat} {w : Wk} (hok : okP p = true) (ha : p[a]? = some w) (hj : j < w.params) : mayF p ys a j = (handB w.body).any fun h => decide (h.1 = j) && fires ys (mayF p ys) h := by
  have hl : a < p.length := (List.getElem?_eq_some_iff.mp ha).1
  have e1 : mayF p ys a j = setsB ys (knW p ys (p.length - 1 - a)) j w.body := by
    simp [mayF, knW_at ha, List.getD, hj]
  rw [e1, setsB_hand]
  refine any_same fun h hm => ?_
  have e2 : fires ys (ksF (knW p ys (p.length - 1 - a))) h = fires ys (mayF p ys) h := by
    unfold fires
    cases hh : h.2 with
    | none => rfl
    | some ck =>
      obtain ⟨c, k⟩ := ck
      obtain ⟨ts, h1, h2⟩ := handB_calls hh _ hm
      obtain ⟨q1, q2, q3⟩ := okB_calls _ _ _ (okP_get hok ha).2.2.1 h1
      have q2' : c < p.length := by simpa [shapes] using q2
      have q1' : a < c := q1
      have st := knW_stable (p := p) (ys := ys) (c := c) (j := p.length - 1 - a) (d := a + 1) (by omega) q2' (by omega)
      have el : p.length - 1 - a + (a + 1) = p.length := by omega
      rw [el] at st
      show (ksF (knW p ys (p.length - 1 - a)) c k && _) = (mayF p ys c k && _)
      unfold ksF mayF
      rw [st]
  rw [e2]
/-- what is told so far holds -/
def sound (p : List Wk) (ys : List (List Str)) (gs : List (Nat × Nat)) : Prop := ∀ x ∈ gs, x.1 < p.length ∧ (x.2 < shP (shapes p) x.1 → mayF p ys x.1 x.2 = true)
/-- all of work a is told -/
def compl (p : List Wk) (ys : List (List Str)) (gs : List (Nat × Nat)) (a : Nat) : Prop := ∀ j, j < shP (shapes p) a → mayF p ys a j = true → (a, j) ∈ gs
/-- what the law looks for at a handing -/
def seen (ys : List (List Str)) (gs : List (Nat × Nat)) (h : Nat × Option (Nat × Nat)) : Bool := fires ys (fun c k => decide ((c, k) ∈ gs)) h
theorem seen_sound {p : List Wk} {ys : List (List Str)} {gs : List (Nat × Nat)} {a : Nat} {w : Wk} {h : Nat × Option (Nat × Nat)} (hok : okP p = true) (ha : p[a]? = some w) (hm : h ∈ handB w.body) (s : sound p ys gs) (q : seen ys gs h = true) : sound p ys (gs ++ [(a, h.1)]) := by
  intro x hx
  rcases List.mem_append.mp hx with hx | hx
  · exact s x hx
  · have e : x = (a, h.1) := by simpa using hx
    subst e
    have hl : a < p.length := (List.getElem?_eq_some_iff.mp ha).1
    have ew : shP (shapes p) a = w.params := by simp [shP, shapes, List.getD, ha]
    refine ⟨hl, fun hj => ?_⟩
    rw [ew] at hj
    rw [mayF_hand hok ha hj, List.any_eq_true]
    refine ⟨h, hm, ?_⟩
    simp only [decide_true, Bool.true_and]
    unfold seen fires at q
    unfold fires
    cases hh : h.2 with
    | none => rfl
    | some ck =>
      obtain ⟨c, k⟩ := ck
      rw [hh] at q
      simp only [Bool.and_eq_true, decide_eq_true_eq] at q ⊢
      obtain ⟨ts, h1, h2⟩ := handB_calls hh _ hm
      obtain ⟨q1, q2, q3⟩ := okB_calls _ _ _ (okP_get hok ha).2.2.1 h1
      have q3' : ts.length = shP (shapes p) c := q3
      exact ⟨(s (c, k) q.1).2 (by show k < shP (shapes p) c; omega), q.2⟩
theorem seen_full {p : List Wk} {ys : List (List Str)} {gs : List (Nat × Nat)} {a : Nat} {w : Wk} {h : Nat × Option (Nat × Nat)} (hok : okP p = true) (ha : p[a]? = some w) (hm : h ∈ handB w.body) (s : ∀ c, a < c → c < p.length → compl p ys gs c) (q : seen ys gs h = false) : fires ys (mayF p ys) h = false := by
  unfold seen fires at q
  unfold fires
  cases hh : h.2 with
  | none => rw [hh] at q; cases q
  | some ck =>
    obtain ⟨c, k⟩ := ck
    rw [hh] at q
    obtain ⟨ts, h1, h2⟩ := handB_calls hh _ hm
    obtain ⟨q1, q2, q3⟩ := okB_calls _ _ _ (okP_get hok ha).2.2.1 h1
    have q2' : c < p.length := by simpa [shapes] using q2
    have q3' : ts.length = shP (shapes p) c := q3
    have hc := s c q1 q2' k (by omega)
    cases hm2 : mayF p ys c k with
    | false => simp [hm2]
    | true =>
      have := hc hm2
      simpa [this, hm2] using q
theorem full_of {p : List Wk} {ys : List (List Str)} {gs : List (Nat × Nat)} {a : Nat} {w : Wk} (hok : okP p = true) (ha : p[a]? = some w) (h : ∀ x ∈ handB w.body, fires ys (mayF p ys) x = true → (a, x.1) ∈ gs) : compl p ys gs a := by
  intro j hj hm
  have ew : shP (shapes p) a = w.params := by simp [shP, shapes, List.getD, ha]
  rw [ew] at hj
  rw [mayF_hand hok ha hj, List.any_eq_true] at hm
  obtain ⟨x, h1, h2⟩ := hm
  simp only [Bool.and_eq_true, decide_eq_true_eq] at h2
  have := h x h1 h2.2
  rw [h2.1] at this
  exact this
/-! how many -/
theorem handC_len (c : Nat) : ∀ (ts : List Th) (k : Nat), (handC c ts k).length ≤ ts.length
  | [], k => by simp [handC]
  | t :: r, k => by
    have := handC_len c r (k + 1)
    cases t <;> simp [handC] <;> omega
mutual
theorem handS_len {sh : List (Nat × Nat)} {at_ : Nat} (h3 : ∀ i, shP sh i ≤ 3) : ∀ (s : Stm) (w : Nat), okS sh at_ s w = true → (handS s).length ≤ 3 * cntS s
  | .set p t, w, _ => by cases p <;> simp [handS, cntS]
  | .say t, w, _ => by simp [handS]
  | .call c ts, w, h => by
    simp [okS] at h
    have := handC_len c ts 0
    have := h3 c
    have := h.2.2.2.1
    simp only [handS, cntS]
    omega
  | .ite t a b, w, h => by
    simp [okS] at h
    have h1 := handB_len h3 a (w + 1) h.2.2.1
    have h2 := handB_len h3 b (w + 1) h.2.2.2
    simp only [handS, cntS, List.length_append]
    omega
theorem handB_len {sh : List (Nat × Nat)} {at_ : Nat} (h3 : ∀ i, shP sh i ≤ 3) : ∀ (b : List Stm) (w : Nat), okB sh at_ b w = true → (handB b).length ≤ 3 * cntB b
  | [], w, _ => by simp [handB]
  | s :: r, w, h => by
    simp only [okB, Bool.and_eq_true] at h
    have h1 := handS_len h3 s w h.1
    have h2 := handB_len h3 r w h.2
    simp only [handB, cntB, List.length_append]
    omega
end
theorem shP_le {p : List Wk} (h : okP p = true) (i : Nat) : shP (shapes p) i ≤ 3 := by
  cases hi : p[i]? with
  | none => simp [shP, shapes, List.getD, hi]
  | some w =>
    have := (okP_get h hi).1
    simpa [shP, shapes, List.getD, hi] using this
theorem mayL_row {p : List Wk} {ys : List (List Str)} {a : Nat} {w : Wk} (ha : p[a]? = some w) : (knW p ys p.length a).getD [] = (List.range w.params).map fun j => mayF p ys a j := by
  have e : (knW p ys p.length a).getD [] = (List.range w.params).map fun k => setsB ys (knW p ys (p.length - 1 - a)) k w.body := by rw [knW_at ha] <;> rfl
  refine List.ext_getElem (by simp [e]) fun i h1 h2 => ?_
  simp [mayF, List.getD, h1]
def encG (x : Nat × Nat) : PyData := .tuple [.int (x.1 : Int), .int (x.2 : Int)]
theorem encG_any (gs : List (Nat × Nat)) (x : Nat × Nat) : ((gs.map encG).any fun z => PyData.eqv z (encG x)) = decide (x ∈ gs) := by
  rw [Bool.eq_iff_iff]
  simp only [List.any_eq_true, List.mem_map, decide_eq_true_eq]
  constructor
  · rintro ⟨z, ⟨y, hy, rfl⟩, h⟩
    simp [encG, PyData.eqv, PyData.eqvAll] at h
    have : y = x := Prod.ext (by omega) (by omega)
    rw [← this]
    exact hy
  · intro h
    exact ⟨_, ⟨x, h, rfl⟩, by simp [encG, PyData.eqv, PyData.eqvAll]⟩
theorem encG_shaped (x : Nat × Nat) : SeqAt.shaped (encG x) = true := by
  simp [SeqAt.shaped, encG, PyData.canLay0, PyData.canLayAll0, PyData.depth, PyData.depthAll]
theorem encGs_shaped (gs : List (Nat × Nat)) : SeqAt.shaped (.list (gs.map encG)) = true := by
  have h1 : PyData.canLayAll0 (gs.map encG) = true := by
    induction gs with
    | nil => rfl
    | cons x r ih => simp only [List.map_cons, PyData.canLayAll0, ih, Bool.and_true]; simp [encG, PyData.canLay0, PyData.canLayAll0]
  have h2 : PyData.depthAll (gs.map encG) ≤ 1 := by
    clear h1
    induction gs with
    | nil => simp [PyData.depthAll]
    | cons x r ih =>
      simp only [List.map_cons, PyData.depthAll]
      have : PyData.depth (encG x) = 1 := by simp [encG, PyData.depth, PyData.depthAll]
      omega
  have h3 : PyData.depth (.list (gs.map encG)) ≤ 64 := by
    show PyData.depthAll (gs.map encG) + 1 ≤ 64
    omega
  have h4 : (PyData.list (gs.map encG)).canLay0 = true := by
    show PyData.canLayAll0 (gs.map encG) = true
    exact h1
  unfold SeqAt.shaped
  rw [h4, decide_eq_true h3]
  rfl
end Hw

set_option maxRecDepth 100000
set_option maxHeartbeats 4000000
/-! SE5: the law's may_set -/
namespace Hw
open PySem PySem.Spec PyProof.Rows L2 Evl
local macro_rules | `(tactic| walk_at "dd") => `(tactic| first | rfl | decide | (simp; done) | omega)
local macro_rules | `(tactic| walk_at "td") => `(tactic| first | assumption | exact Td.int _ | exact Td.bl _ | exact Td.str _ | exact Td.non | exact Td.tup (by assumption) (by assumption))
local macro_rules | `(tactic| walk_at "ev") => `(tactic| first
  | exact ed_ci | exact ed_cs | exact ed_cb | exact ed_cn
  | (apply ed_cg; assumption)
  | (apply ed_var; (rfl); (walk_at "td"))
  | (apply ed_ixT; (walk_at "ev"); (walk_at "ev"); (first | rfl | assumption))
  | (apply ed_rowI; (rfl); (assumption); (walk_at "ev"); (rfl))
  | (apply ed_ixL; (apply EvDL.rd; walk_at "edl"); (walk_at "ev"); (rfl))
  | (apply ed_intb; (walk_at "ev"))
  | (apply ed_len; walk_at "ev")
  | (apply ed_lenV; (apply ev_rowR; (rfl); (assumption); (walk_at "ev"); (rfl)); (assumption))
  | (apply ed_Ii; (walk_at "ev"); (walk_at "ev"); (walk_at "cc"))
  | (apply ed_isi; (walk_at "ev"); (rfl))
  | (apply ed_I0i; (walk_at "ev"); (walk_at "ev"))
  | (apply ed_I0b; (walk_at "ev"); (walk_at "ev"))
  | (apply ed_eqi; (walk_at "ev"); (walk_at "ev"))
  | (apply ed_nei; (walk_at "ev"); (walk_at "ev"))
  | (apply ed_andF; walk_at "ev")
  | (apply ed_andV; (walk_at "ev"); (intro _; walk_at "ev"))
  | (apply ed_orT; walk_at "ev")
  | (apply ed_orV; (walk_at "ev"); (intro _; walk_at "ev"))
  | (apply ed_notT; walk_at "ev")
  | (apply ed_notF; walk_at "ev")
  | (apply ed_notV; walk_at "ev")
  | (apply ed_chain; (walk_at "ev"); (walk_at "ev"); (intro _; walk_at "ev"))
  | (apply ed_eqS; (walk_at "ev"); (walk_at "ev"); (walk_at "bb"); (walk_at "bb"))
  | (apply ed_neS; (walk_at "ev"); (walk_at "ev"); (walk_at "bb"); (walk_at "bb"))
  | (apply ed_inT; (walk_at "ev"); (walk_at "ev"); (rfl); (rfl))
  | (apply ed_niT; (walk_at "ev"); (walk_at "ev"); (rfl); (rfl))
  | (apply ed_tup; (walk_at "eva"); (walk_at "bb"))
  | (apply ed_sl; (walk_at "ev"); (walk_at "evo"); (walk_at "evo"))
  | (apply ed_eqN; (apply EvDL.rd; walk_at "edl"); (walk_at "edl"); (walk_at "bb"))
  | (apply ed_neN; (apply EvDL.rd; walk_at "edl"); (walk_at "edl"); (walk_at "bb"))
  | (apply ed_ixL; (apply edr_var; (rfl); (assumption); (assumption)); (walk_at "ev"); (first | rfl | assumption))
  | (apply ed_lenL; (apply edr_var; (rfl); (assumption); (assumption)))
  | (apply ed_call; (walk_at "eva"); (walk_at "post")))
local macro_rules | `(tactic| walk_at "edl") => `(tactic| first
  | assumption
  | (apply edl_lst; (walk_at "eva"); (walk_at "bb")))
local macro_rules | `(tactic| walk_at "eva") => `(tactic| first
  | exact eda_nil
  | (apply eda_cons; (walk_at "ev"); (walk_at "eva")))
local macro_rules | `(tactic| walk_at "evo") => `(tactic| first
  | exact eok_none
  | (apply eok_some; walk_at "ev"))
local macro_rules | `(tactic| walk_at "bb") => `(tactic| first | rfl | assumption | (simp; done) | (simp; omega) | decide +kernel)
local macro_rules | `(tactic| walk_at "et") => `(tactic| first
  | exact tk_yes
  | (apply tk_andF; walk_at "et")
  | (apply tk_and; (walk_at "et"); (intro _; walk_at "et"))
  | (apply tk_orT; walk_at "et")
  | (apply tk_or; (walk_at "et"); (intro _; walk_at "et"))
  | (apply tk_notT; walk_at "et")
  | (apply tk_notF; walk_at "et")
  | (apply tk_not; walk_at "et")
  | (apply tk_v; walk_at "ev")
  | (apply tk_vB; walk_at "ev"))
local macro_rules | `(tactic| walk_at "if") => `(tactic| first
  | (apply pst_whenF; (walk_at "et"); (walk_at "bb"))
  | (apply pst_whenT; (walk_at "et"); (walk_at "bb")))
local macro_rules | `(tactic| walk_at "post") => `(tactic| first | assumption | exact ⟨_, _, rfl, rfl⟩ | exact ⟨_, _, _, _, rfl, by omega, by omega, rfl⟩ | exact ⟨_, _, _, 0, rfl, by omega, by omega, rfl⟩)
local macro_rules | `(tactic| walk_at "cc") => `(tactic| first | assumption | decide | omega | (refine ⟨?_, ?_⟩ <;> first | decide | omega) | (exact Or.inl (by constructor <;> omega)))

section
variable {K : PySem.W.Frag} {σ : L2.St} {H H' : Hp} {D : Ends} {tu tz : TS} {te tl ta tb : TE}
/-- for a, b, c in a new list of threes -/
theorem w_forL3 {α : Type} {j l m : Nat} (xs : List α) (f1 f2 f3 : α → PyData) (h : EvDL K tl σ H (xs.map fun x => .tuple [f1 x, f2 x, f3 x])) (Pv : Addr → Hp → Nat → L2.St → Hp → Prop) (h0 : ∀ p H1, H p = none → Ex H H1 → Pv p H1 0 σ H1)
    (hk : ∀ p ys H1 i σ' H', H p = none → Ex H H1 → H1 p = some (.lst ys) → Pv p H1 i σ' H' → H' p = some (.lst ys) ∧ Keep K H1 H')
    (hs : ∀ p H1 i x v1 v2 v3 σ' H', xs[i]? = some x → Ex H H1 → H p = none → Td K H' v1 (f1 x) → Td K H' v2 (f2 x) → Td K H' v3 (f3 x) → Pv p H1 i σ' H' → tu { D with nx := Pv p H1 (i + 1), ct := Pv p H1 (i + 1), bk := D.nx } (((σ'.set j (some v1)).set l (some v2)).set m (some v3)) H')
    (hd : ∀ p H1 σ' H', Ex H H1 → H p = none → Pv p H1 xs.length σ' H' → D.nx σ' H') : tFor (iList K tl) (gTup K 3 (gCons (gName j) (gCons (gName l) (gCons (gName m) gNil)))) tu D σ H := by
  refine h H (Ex.refl H) _ fun p ys H1 hp e hx hall => ?_
  have hlen := hall.length
  rw [List.length_map] at hlen
  refine ⟨p, rfl, ⟨ys, SqL.of hx⟩, for_list (Pv p H1) (h0 p H1 hp e) (fun i σ' H' _ q => SqL.of (hk p ys H1 i σ' H' hp e hx q).1) (fun i x σ' H' hi q => ?_) (fun σ' H' q => hd p H1 σ' H' e hp (by rw [← hlen]; exact q))⟩
  obtain ⟨d, hdd, td⟩ := hall.getV hi
  rw [List.getElem?_map] at hdd
  obtain ⟨z, hz, rfl⟩ := Option.map_eq_some_iff.mp hdd
  obtain ⟨a, zs, rfl, hq, hqa⟩ := (td.kp (hk p ys H1 i σ' H' hp e hx q).2).tup_inv
  obtain _ | ⟨u1, _ | ⟨u2, _ | ⟨u3, _ | _⟩⟩⟩ := hqa
  exact ⟨a, _, rfl, hq, rfl, _, _, rfl, _, _, rfl, _, _, rfl, rfl, hs p H1 i z _ _ _ σ' H' hz e hp u1 u2 u3 q⟩
theorem ed_inD {n : Nat} {l : Addr} {xs : List V} {d : PyData} {ds : List PyData} (ha : EvD K ta σ H d) (hs : σ[n]? = some (some (.ref l))) (hl : H l = some (.lst xs)) (ht : TdAll K H xs ds) (h1 : SeqAt.shaped d = true) (h2 : SeqAt.shaped (.list ds) = true) :
    EvD K (tOp (rInD K) ta (tVar n)) σ H (.bool (ds.any fun z => PyData.eqv z d)) := fun H1 a Q q =>
  ha H1 a _ fun v H2 e2 t2 => ⟨.ref l, hs, d, ds, t2.dp, .lst (SqL.of ((a.trans e2) _ _ hl)) (ht.ex (a.trans e2)).dp, h1, h2, q _ H2 e2 (.bl _)⟩
end
def hW (h : Nat × Option (Nat × Nat)) : PyData := match h.2 with
  | none => .none
  | some (c, _) => .int (c : Int)
def hK (h : Nat × Option (Nat × Nat)) : PyData := match h.2 with
  | none => .none
  | some (_, k) => .int (k : Int)
theorem encH_eq (h : Nat × Option (Nat × Nat)) : encH h = .tuple [.int (h.1 : Int), hW h, hK h] := by
  obtain ⟨a, b⟩ := h
  cases b <;> rfl
/-- the list of what is told stands at gl -/
def Gd (K : PySem.W.Frag) (p : List Wk) (ys : List (List Str)) (gl : Addr) (H2 : Hp) (t L : Nat) (gs : List (Nat × Nat)) (xs : List V) (H' : Hp) : Prop :=
  H' gl = some (.lst xs) ∧ TdAll K H' xs (gs.map encG) ∧ sound p ys gs ∧ (∀ c, c < p.length → p.length ≤ c + t → compl p ys gs c) ∧ gs.length ≤ L ∧ Fr [gl] H2 H'
theorem compl_mono {p : List Wk} {ys : List (List Str)} {gs : List (Nat × Nat)} {c : Nat} {x : Nat × Nat} (h : compl p ys gs c) : compl p ys (gs ++ [x]) c := fun j h1 h2 => List.mem_append_left _ (h j h1 h2)
theorem Gd.ex {K : PySem.W.Frag} {p : List Wk} {ys : List (List Str)} {gl : Addr} {H2 H3 H4 : Hp} {t L : Nat} {gs : List (Nat × Nat)} {xs : List V} (h : Gd K p ys gl H2 t L gs xs H3) (e : Ex H3 H4) : Gd K p ys gl H2 t L gs xs H4 := by
  obtain ⟨a, b, c, d, f, g⟩ := h
  exact ⟨e _ _ a, b.ex e, c, d, f, g.trans (Fr.of e)⟩
def spLM (K : PySem.W.Frag) : Sp := fun vs H Q _ => ∃ p ys, TdAll K H vs [encP p, encY ys] ∧ okP p = true ∧ okY p ys = true ∧ smP p ∧ smY ys ∧ ∀ v H', Ex H H' → Td K H' v (encBs (mayL p ys)) → Q v H'
section
variable {P : Program} {w : World} {K : PySem.W.Frag} {mg : Str → Option Value} {base : Heap} (T : Tx K mg)
include T
theorem ok_law_may (GH : Fn__law_handings T P w base CX0 7 (spHand K 6)) : Fn__law_may_set T P w base CX0 8 (spLM K) := by
  have G__law_handings := GH
  refine T.F__law_may_set.ok sc__law_may_set (fun vs H Q E h => by obtain ⟨p, ys, ht, _⟩ := h; exact ht.length) fun cdv A outer s0 H vs Q E hr h => ?_
  obtain ⟨p, ys, ht, hok, hoy, hs, hy, kq⟩ := h
  obtain _ | ⟨t1, _ | ⟨t2, _ | _⟩⟩ := ht
  rename_i pw0 yw0
  refine ⟨_, (pss_cons (ps_set (i := 2) sc__law_may_set.nd rfl (Or.inr rfl) (pe_lst pa_nil))
  (pss_cons (ps_for (passes_of rfl) rfl (pi_range1 rfl T.b_range (pa_cons (pe_op op_add (pe_callB (kc_len K) rfl T.b_len PySem.boot_len (pa_cons (pv 0) pa_nil)) pe_int) pa_nil)) (pg_name (i := 3) sc__law_may_set.nd rfl (Or.inl rfl))
    (pss_one (ps_for (passes_of rfl) rfl (pi_range1 rfl T.b_range (pa_cons (pe_callB (kc_len K) rfl T.b_len PySem.boot_len (pa_cons (pv 0) pa_nil)) pa_nil)) (pg_name (i := 4) sc__law_may_set.nd rfl (Or.inr rfl))
      (pss_one (ps_for (passes_of rfl) rfl (kpi_list K (pe_call G__law_handings (hr.mono (by omega)) (by rfl) T.g__law_handings T.k__law_handings T.bd__law_handings .nil pass0 (pa_cons (pe_ix (kix_tup K) (pe_ix (kix_tup K) (pv 0) (pv 4) (fun _ _ => rfl)) pe_int (fun _ _ => rfl)) pa_nil))) (kpg_tup K rfl (pgs_cons (pg_name (i := 5) sc__law_may_set.nd rfl (Or.inl rfl)) (pgs_cons (pg_name (i := 6) sc__law_may_set.nd rfl (Or.inl rfl)) (pgs_cons (pg_name (i := 7) sc__law_may_set.nd rfl (Or.inl rfl)) pgs_nil))))
        (pss_one (ps_if (PW.pt (pw_or (pt_cmp (pc_isN (pv 6)) rfl) (pw_or1 (PW.pt (pw_and (pt_cmpR (kop_inD K (units65 hr)) (pe_tup (pa_cons (pv 6) (pa_cons (pv 7) pa_nil))) (pv 2) rfl) (pw_and1 (pt_cmpR (kop_ne K hr.units) (pe_ix (kix_tup K) (pe_ix (kix_tup K) (pv 1) (pv 6) (fun _ _ => rfl)) (pv 7) (fun _ _ => rfl)) pe_str (nomark _))))))))
          (pss_one (ps_expr (pe_bm PySem.F.plainAttrs_list PySem.F.slot_list_append PySem.F.type_list_append mt_append (pv 2) (pa_cons (pe_tup (pa_cons (pv 4) (pa_cons (pv 5) pa_nil))) pa_nil))))
          pss_nil)))))))
  (pss_cons (ps_set (i := 8) sc__law_may_set.nd rfl (Or.inl rfl) (pe_lst pa_nil))
  (pss_cons (ps_for (passes_of rfl) rfl (pi_range1 rfl T.b_range (pa_cons (pe_callB (kc_len K) rfl T.b_len PySem.boot_len (pa_cons (pv 0) pa_nil)) pa_nil)) (pg_name (i := 4) sc__law_may_set.nd rfl (Or.inr rfl))
    (pss_one (ps_expr (pe_bm PySem.F.plainAttrs_list PySem.F.slot_list_append PySem.F.type_list_append mt_append (pv 8) (pa_cons (pe_callTy (kc_tuple K) rfl T.b_tuple (by decide +kernel) (pa_cons (pe_lc (own := [("_law_param", 5)]) (g := gName 5) (tt := tYes) rfl sc__law_may_set.nd (pi_range1 rfl T.b_range (pa_cons (pe_ix (kix_tup K) (pe_ix (kix_tup K) (pv 0) (pv 4) (fun _ _ => rfl)) pe_int (fun _ _ => rfl)) pa_nil)) (blkOk_by (N := ["_law_program_here", "_law_ways_here", "_law_good", "_law_turn", "_law_at", "_law_param", "_law_work", "_law_k", "_law_found"]) (sc := defScope s__law_may_set) (by decide +kernel)) (fun _ _ _ _ _ => (pg_name (i := 5) sc__law_may_set.nd rfl (Or.inl rfl))) (fun _ _ _ _ _ => pts_nil) (fun _ _ _ _ _ => (pe_cmpR (kop_inD K (units65 hr)) (pe_tup (pa_cons (pv 4) (pa_cons (pv 5) pa_nil))) (pv 2) rfl))) pa_nil)) pa_nil)))))
  (pss_one (ps_ret (pe_callTy (kc_tuple K) rfl T.b_tuple (by decide +kernel) (pa_cons (pv 8) pa_nil)))))))), ?_⟩
  have hlen := okP_len hok
  obtain ⟨hyl, hyg⟩ := okY_get hoy
  refine Pst.go (K := K) ?_
  refine pst_asgL (edl_lst eda_nil (by simp)) fun gl xs0 H1 hgl e1 hx1 ht1 => ?_
  cases ht1
  refine pst_of fun H2 e2 => ?_
  have e12 := e1.trans e2
  have hx2 := e2 _ _ hx1
  replace t1 := t1.ex e12
  replace t2 := t2.ex e12
  have keep : ∀ {H'}, Fr [gl] H2 H' → Keep K H2 H' := fun f => f.keep fun a ha => by
    have e : a = gl := by simpa using ha
    rw [e]
    exact ⟨_, hx2, True.intro⟩
  clear hx1 e1 e2
  have g0 : Gd K p ys gl H2 0 0 [] [] H2 := ⟨hx2, .nil, (fun x hx => by simp at hx), (fun c h1 h2 => by omega), Nat.le_refl _, Fr.refl⟩
  refine w_seq (w_forR (K := K) (n := p.length + 1) ?_ (by omega) (fun t σ' H' => ∃ (gs : List (Nat × Nat)) (xs : List V) (u3 u4 u5 u6 u7 : Option V), σ' = [some pw0, some yw0, some (.ref gl), u3, u4, u5, u6, u7, none] ∧ Gd K p ys gl H2 t (1200 * t) gs xs H') ?_ ?_ ?_)
  · apply eda_cons
    · apply ed_is
      · walk_at "ev"
      · simp
    · exact eda_nil
  · intro H3 e3
    exact ⟨[], [], _, _, _, _, _, rfl, g0.ex e3⟩
  · rintro t σ' H3 ht ⟨gs, xs, u3, u4, u5, u6, u7, rfl, g3⟩
    have t13 := t1.kp (keep g3.2.2.2.2.2)
    dsimp only
    refine w_forR (K := K) (n := p.length) ?_ (by omega) (fun i σ' H' => ∃ (gs : List (Nat × Nat)) (xs : List V) (u3 u4 u5 u6 u7 : Option V), σ' = [some pw0, some yw0, some (.ref gl), u3, u4, u5, u6, u7, none] ∧ Gd K p ys gl H2 t (1200 * t + 300 * i) gs xs H' ∧ ∀ c, c < i → p.length ≤ c + t + 1 → compl p ys gs c) ?_ ?_ ?_
    · apply eda_cons
      · apply ed_is
        · walk_at "ev"
        · simp
      · exact eda_nil
    · intro H4 e4
      exact ⟨gs, xs, _, _, _, _, _, rfl, g3.ex e4, fun c h => absurd h (Nat.not_lt_zero c)⟩
    · clear g3 t13
      rintro a σ' H4 ha ⟨gs, xs, u3, u4, u5, u6, u7, rfl, g4, c4⟩
      obtain ⟨wk, hwk⟩ : ∃ w, p[a]? = some w := ⟨_, List.getElem?_eq_getElem ha⟩
      obtain ⟨q1, q2, q3, q4⟩ := okP_get hok hwk
      have hsw := hs.2 wk (List.mem_of_getElem? hwk)
      have hhl : (handB wk.body).length ≤ 300 := by
        have := handB_len (shP_le hok) wk.body 0 q3
        omega
      have hpa : atI (p.map encW) (a : Int) = some (.tuple [.int (wk.params : Int), .int (wk.owns : Int), .tuple (encB wk.body)]) := atI_nat (by rw [List.getElem?_map, hwk] <;> rfl)
      have t14 := t1.kp (keep g4.2.2.2.2.2)
      unfold encP at t14
      dsimp only
      refine w_forL3 (K := K) (handB wk.body) (fun h => .int (h.1 : Int)) hW hK ?_ (fun q H5 m σ' H' => ∃ (gs : List (Nat × Nat)) (xs : List V) (u3 u5 u6 u7 : Option V), σ' = [some pw0, some yw0, some (.ref gl), u3, some (.int (a : Int)), u5, u6, u7, none] ∧ Gd K p ys gl H2 t (1200 * t + 300 * a + m) gs xs H' ∧ (∀ c, c < a → p.length ≤ c + t + 1 → compl p ys gs c) ∧ (p.length ≤ a + t + 1 → ∀ x ∈ (handB wk.body).take m, fires ys (mayF p ys) x = true → (a, x.1) ∈ gs) ∧ Fr [gl] H5 H') ?_ ?_ ?_ ?_
      · intro H5 e5 Q' q
        refine w_call (w_cons (w_d (K := K) (d := .tuple (encB wk.body)) ?_ fun vb H6 e6 tb => w_nil ⟨vb, wk.body, rfl, tb, ?_, by omega, hsw.2, hsw.1, fun pp xs1 H7 hp e7 h1 tt => ?_⟩))
        · refine EvD.mono e5 ?_
          walk_at "ev"
        · have := okB_dp _ _ q3
          omega
        · have ee : (handB wk.body).map encH = (handB wk.body).map fun x => PyData.tuple [.int (x.1 : Int), hW x, hK x] := List.map_congr_left fun x _ => encH_eq x
          rw [ee] at tt
          exact q pp xs1 H7 (fresh_back e6 hp) (e6.trans e7) h1 tt
      · intro q H5 hq e5
        exact ⟨gs, xs, _, _, _, _, rfl, g4.ex e5, c4, (fun _ x hx => by simp at hx), Fr.refl⟩
      · rintro q zs H5 m σ' H' hq e5 hzq ⟨gs5, xs5, v3, v5, v6, v7, rfl, g5, c5, f5, fr5⟩
        have hne : q ≠ gl := by
          intro e
          have := g4.1
          rw [← e, hq] at this
          cases this
        refine ⟨fr5 _ _ (by simpa using hne) hzq, fr5.keep fun b hb => ?_⟩
        have e : b = gl := by simpa using hb
        rw [e]
        exact ⟨_, e5 _ _ g4.1, True.intro⟩
      · rintro q H5 m x v1 v2 v3 σ' H6 hx e5 hq tv1 tv2 tv3 ⟨gs6, xs6, u3', u5', u6', u7', rfl, g6, c6, f6, fr6⟩
        have hm := List.mem_of_getElem? hx
        have hm3 : m < 300 := by
          have := (List.getElem?_eq_some_iff.mp hx).1
          omega
        have t16 := t1.kp (keep g6.2.2.2.2.2)
        have t26 := t2.kp (keep g6.2.2.2.2.2)
        have take1 : ∀ y ∈ (handB wk.body).take (m + 1), y ∈ (handB wk.body).take m ∨ y = x := fun y hy => by
          rw [take_snoc hx] at hy
          rcases List.mem_append.mp hy with hy | hy
          · exact .inl hy
          · exact .inr (by simpa using hy)
        dsimp only
        refine Pst.go (K := K) ?_
        refine pst_if (K := K) (b := seen ys gs6 x) ?_ (fun hb => pst_of fun H7 e7 => ?_) (fun hb => pst_of fun H7 e7 => ?_)
        · obtain ⟨j, hh⟩ := x
          cases hh with
          | none => exact tk_orT (tk_is (tk_vB (ed_isN (ed_var rfl tv2))) rfl)
          | some ck =>
            obtain ⟨c, k⟩ := ck
            obtain ⟨ts, h1, h2⟩ := handB_calls (c := c) (k := k) rfl _ hm
            obtain ⟨r1, r2, r3⟩ := okB_calls _ _ _ q3 h1
            have r2' : c < p.length := by simpa [shapes] using r2
            have r3' : ts.length = shP (shapes p) c := r3
            obtain ⟨yc, hyc⟩ : ∃ y, ys[c]? = some y := ⟨_, List.getElem?_eq_getElem (by omega)⟩
            have hycl := hyg c yc hyc
            obtain ⟨z, hz⟩ : ∃ z, yc[k]? = some z := ⟨_, List.getElem?_eq_getElem (by omega)⟩
            have hzl := (hy.2 yc (List.mem_of_getElem? hyc)).2 z (List.mem_of_getElem? hz)
            have ty6 : Td K H6 yw0 (.tuple (ys.map fun y => .tuple (y.map PyData.str))) := t26
            refine tk_is (tk_or (tk_vB (ed_isN (ed_var rfl tv2))) fun _ => tk_and (tk_v (ed_inD (d := encG (c, k)) (ds := gs6.map encG) ?_ rfl g6.1 g6.2.1 (encG_shaped _) (encGs_shaped _))) fun _ => tk_v (ed_neS (ed_ixT (ds := yc.map PyData.str) (i := (k : Int)) (ed_ixT (ds := ys.map fun y => .tuple (y.map PyData.str)) (i := (c : Int)) (ed_var rfl ty6) (ed_var rfl tv2) (atI_nat (by rw [List.getElem?_map, hyc] <;> rfl))) (ed_var rfl tv3) (atI_nat (by rw [List.getElem?_map, hz] <;> rfl))) ed_cs hzl (by simp))) ?_
            · exact ed_tup (eda_cons (ed_var rfl tv2) (eda_cons (ed_var rfl tv3) eda_nil)) (by simp)
            · rw [encG_any]
              simp [seen, fires, hW, noneD, List.getD, hyc, hz]
        · refine w_app rfl (e7 _ _ g6.1) (w_d (K := K) (d := encG (a, x.1)) ?_ fun v H8 e8 t8 => ?_)
          · exact ed_tup (eda_cons (ed_var rfl (.int _)) (eda_cons (ed_var rfl (tv1.ex e7)) eda_nil)) (by simp)
          have e78 := e7.trans e8
          have hx8 := e78 _ _ g6.1
          have kk : Keep K H8 (upd H8 gl (.lst (xs6 ++ [v]))) := Keep.upd hx8 True.intro
          have hgl := g6.2.2.2.2.1
          refine ⟨xs6, hx8, by rw [g6.2.1.length, List.length_map]; exact sz_lt (by omega), gs6 ++ [(a, x.1)], xs6 ++ [v], _, _, _, _, rfl, ⟨upd_same, ?_, seen_sound hok hwk hm g6.2.2.1 hb, (fun c h1 h2 => compl_mono (g6.2.2.2.1 c h1 h2)), by simp; omega, (g6.2.2.2.2.2.trans (Fr.of e78)).trans (Fr.upd (by simp))⟩, (fun c h1 h2 => compl_mono (c6 c h1 h2)), (fun hp y hy hf => ?_), (fr6.trans (Fr.of e78)).trans (Fr.upd (by simp))⟩
          · rw [List.map_append]
            exact ((g6.2.1.ex e78).kp kk).snoc (t8.kp kk)
          · rcases take1 y hy with hy | hy
            · exact List.mem_append_left _ (f6 hp y hy hf)
            · subst hy
              exact List.mem_append_right _ (by simp)
        · refine ⟨gs6, xs6, _, _, _, _, rfl, ⟨e7 _ _ g6.1, g6.2.1.ex e7, g6.2.2.1, g6.2.2.2.1, by have := g6.2.2.2.2.1; omega, g6.2.2.2.2.2.trans (Fr.of e7)⟩, c6, (fun hp y hy hf => ?_), fr6.trans (Fr.of e7)⟩
          rcases take1 y hy with hy | hy
          · exact f6 hp y hy hf
          · subst hy
            have := seen_full hok hwk hm (fun c h1 h2 => g6.2.2.2.1 c h2 (by omega)) hb
            rw [hf] at this
            cases this
      · rintro q H5 σ' H6 e5 hq ⟨gs6, xs6, u3', u5', u6', u7', rfl, g6, c6, f6, fr6⟩
        refine ⟨gs6, xs6, _, _, _, _, _, rfl, ⟨g6.1, g6.2.1, g6.2.2.1, g6.2.2.2.1, by have := g6.2.2.2.2.1; omega, g6.2.2.2.2.2⟩, fun c hc hp => ?_⟩
        rcases Nat.lt_succ_iff_lt_or_eq.mp hc with hc | hc
        · exact c6 c hc hp
        · subst hc
          rw [List.take_length] at f6
          exact full_of hok hwk (f6 hp)
    · rintro σ' H4 ⟨gs, xs, u3, u4, u5, u6, u7, rfl, g4, c4⟩
      exact ⟨gs, xs, _, _, _, _, _, rfl, g4.1, g4.2.1, g4.2.2.1, fun c h1 h2 => c4 c h1 (by omega), by have := g4.2.2.2.2.1; omega, g4.2.2.2.2.2⟩
  · rintro σ' H3 ⟨gs, xs, u3, u4, u5, u6, u7, rfl, g3⟩
    have mem : ∀ a j, a < p.length → j < shP (shapes p) a → decide ((a, j) ∈ gs) = mayF p ys a j := fun a j h1 h2 => by
      rw [Bool.eq_iff_iff, decide_eq_true_eq]
      exact ⟨fun h => (g3.2.2.1 _ h).2 h2, fun h => g3.2.2.2.1 a h1 (by omega) j h2 h⟩
    dsimp only
    refine Pst.go (K := K) ?_
    refine pst_asgL (edl_lst eda_nil (by simp)) fun fl xs0 H4 hfl e4 hx4 ht4 => ?_
    cases ht4
    refine pst_of fun H5 e5 => ?_
    have g5 := (g3.ex e4).ex e5
    have hx5 := e5 _ _ hx4
    have hgf : gl ≠ fl := by
      intro e
      have := g3.1
      rw [e, hfl] at this
      cases this
    have keep2 : ∀ {H'}, Fr [fl] H5 H' → Keep K H5 H' := fun f => f.keep fun a ha => by
      have e : a = fl := by simpa using ha
      rw [e]
      exact ⟨_, hx5, True.intro⟩
    have t15 := t1.kp (keep g5.2.2.2.2.2)
    refine w_seq (w_forR (K := K) (n := p.length) ?_ (by omega) (fun i σ' H' => ∃ (xs2 : List V) (u4 u5 u6 u7 : Option V), σ' = [some pw0, some yw0, some (.ref gl), u3, u4, u5, u6, u7, some (.ref fl)] ∧ H' fl = some (.lst xs2) ∧ TdAll K H' xs2 (((mayL p ys).take i).map fun bs => .tuple (bs.map PyData.bool)) ∧ Fr [fl] H5 H') ?_ ?_ ?_)
    · apply eda_cons
      · apply ed_is
        · walk_at "ev"
        · simp
      · exact eda_nil
    · intro H6 e6
      exact ⟨[], _, _, _, _, rfl, e6 _ _ hx5, .nil, Fr.of e6⟩
    · rintro a σ' H6 ha ⟨xs2, u4', u5', u6', u7', rfl, hx6, hall6, fr6⟩
      obtain ⟨wk, hwk⟩ : ∃ w, p[a]? = some w := ⟨_, List.getElem?_eq_getElem ha⟩
      obtain ⟨q1, q2, q3, q4⟩ := okP_get hok hwk
      have hpa : atI (p.map encW) (a : Int) = some (.tuple [.int (wk.params : Int), .int (wk.owns : Int), .tuple (encB wk.body)]) := atI_nat (by rw [List.getElem?_map, hwk] <;> rfl)
      have t16 := t15.kp (keep2 fr6)
      have hg6 : H6 gl = some (.lst xs) := fr6 _ _ (by simpa using hgf) g5.1
      have hga6 := g5.2.1.kp (keep2 fr6)
      unfold encP at t16
      dsimp only
      refine w_app rfl hx6 (w_d (K := K) (d := .tuple (((knW p ys p.length a).getD []).map PyData.bool)) ?_ fun v H7 e7 t7 => ?_)
      · refine ed_is (ed_tupL (EvDL.rd (edl_lcR (n := wk.params) (fun _ => true) (fun j => .bool ((gs.map encG).any fun z => PyData.eqv z (encG (a, j)))) (eda_cons ?_ eda_nil) (by omega) (fun _ => rfl) (fun k H5 e5 hk => tk_yes) fun j H7 e7 hj _ => ?_))) ?_
        · walk_at "ev"
        · refine ed_inD (d := encG (a, j)) (ds := gs.map encG) ?_ rfl (e7 _ _ hg6) (hga6.ex e7) (encG_shaped _) (encGs_shaped _)
          exact ed_tup (eda_cons (ed_var rfl (.int _)) (eda_cons (ed_var rfl (.int _)) eda_nil)) (by simp)
        · rw [filter_yes, mayL_row hwk, List.map_map]
          refine congrArg PyData.tuple (List.map_congr_left fun j hj => ?_)
          have ew : shP (shapes p) a = wk.params := by simp [shP, shapes, List.getD, hwk]
          rw [encG_any, mem a j ha (by rw [ew]; exact List.mem_range.mp hj)]
          rfl
      have hx7 := e7 _ _ hx6
      have kk : Keep K H7 (upd H7 fl (.lst (xs2 ++ [v]))) := Keep.upd hx7 True.intro
      have hml : (mayL p ys)[a]? = some ((knW p ys p.length a).getD []) := by
        simp [mayL, ha]
      refine ⟨xs2, hx7, ?_, xs2 ++ [v], _, _, _, _, rfl, upd_same, ?_, (fr6.trans (Fr.of e7)).trans (Fr.upd (by simp))⟩
      · rw [hall6.length, List.length_map, List.length_take]
        exact sz_lt (by omega)
      · rw [take_snoc hml, List.map_append]
        exact ((hall6.ex e7).kp kk).snoc (t7.kp kk)
    · rintro σ' H6 ⟨xs2, u4', u5', u6', u7', rfl, hx6, hall6, fr6⟩
      dsimp only
      have el : (mayL p ys).take p.length = mayL p ys := List.take_of_length_le (by simp [mayL])
      rw [el] at hall6
      refine w_ret (w_d (K := K) (ed_tupL (edr_var rfl (SqL.of hx6) hall6)) fun v H7 e7 t7 => ?_)
      refine kq v H7 (fun b o h => ?_) t7
      have n1 : b ≠ gl := by
        intro e
        rw [e, hgl] at h
        cases h
      have h3 : H3 b = some o := g3.2.2.2.2.2 b o (by simpa using n1) (e12 b o h)
      have n2 : b ≠ fl := by
        intro e
        rw [e, hfl] at h3
        cases h3
      exact e7 _ _ (fr6 b o (by simpa using n2) (e5 _ _ (e4 _ _ h3)))
end
end Hw

set_option maxRecDepth 100000
set_option maxHeartbeats 4000000
/-! LA06: the law -/
namespace Hw
open PySem PySem.Spec PyProof.Rows L2 Evl
local macro_rules | `(tactic| walk_at "dd") => `(tactic| first | rfl | decide | (simp; done) | omega)
local macro_rules | `(tactic| walk_at "td") => `(tactic| first | assumption | exact Td.int _ | exact Td.bl _ | exact Td.str _ | exact Td.non | exact Td.tup (by assumption) (by assumption))
local macro_rules | `(tactic| walk_at "ev") => `(tactic| first
  | exact ed_ci | exact ed_cs | exact ed_cb | exact ed_cn
  | (apply ed_cg; assumption)
  | (apply ed_var; (rfl); (walk_at "td"))
  | (apply ed_ixT; (walk_at "ev"); (walk_at "ev"); (first | rfl | assumption))
  | (apply ed_rowI; (rfl); (assumption); (walk_at "ev"); (rfl))
  | (apply ed_ixL; (apply EvDL.rd; walk_at "edl"); (walk_at "ev"); (rfl))
  | (apply ed_intb; (walk_at "ev"))
  | (apply ed_len; walk_at "ev")
  | (apply ed_lenV; (apply ev_rowR; (rfl); (assumption); (walk_at "ev"); (rfl)); (assumption))
  | (apply ed_Ii; (walk_at "ev"); (walk_at "ev"); (walk_at "cc"))
  | (apply ed_isi; (walk_at "ev"); (rfl))
  | (apply ed_I0i; (walk_at "ev"); (walk_at "ev"))
  | (apply ed_I0b; (walk_at "ev"); (walk_at "ev"))
  | (apply ed_eqi; (walk_at "ev"); (walk_at "ev"))
  | (apply ed_nei; (walk_at "ev"); (walk_at "ev"))
  | (apply ed_andF; walk_at "ev")
  | (apply ed_andV; (walk_at "ev"); (intro _; walk_at "ev"))
  | (apply ed_orT; walk_at "ev")
  | (apply ed_orV; (walk_at "ev"); (intro _; walk_at "ev"))
  | (apply ed_notT; walk_at "ev")
  | (apply ed_notF; walk_at "ev")
  | (apply ed_notV; walk_at "ev")
  | (apply ed_chain; (walk_at "ev"); (walk_at "ev"); (intro _; walk_at "ev"))
  | (apply ed_eqS; (walk_at "ev"); (walk_at "ev"); (walk_at "bb"); (walk_at "bb"))
  | (apply ed_neS; (walk_at "ev"); (walk_at "ev"); (walk_at "bb"); (walk_at "bb"))
  | (apply ed_inT; (walk_at "ev"); (walk_at "ev"); (rfl); (rfl))
  | (apply ed_niT; (walk_at "ev"); (walk_at "ev"); (rfl); (rfl))
  | (apply ed_tup; (walk_at "eva"); (walk_at "bb"))
  | (apply ed_sl; (walk_at "ev"); (walk_at "evo"); (walk_at "evo"))
  | (apply ed_eqN; (apply EvDL.rd; walk_at "edl"); (walk_at "edl"); (walk_at "bb"))
  | (apply ed_neN; (apply EvDL.rd; walk_at "edl"); (walk_at "edl"); (walk_at "bb"))
  | (apply ed_ixL; (apply edr_var; (rfl); (assumption); (assumption)); (walk_at "ev"); (first | rfl | assumption))
  | (apply ed_lenL; (apply edr_var; (rfl); (assumption); (assumption)))
  | (apply ed_call; (walk_at "eva"); (walk_at "post")))
local macro_rules | `(tactic| walk_at "edl") => `(tactic| first
  | assumption
  | (apply edl_lst; (walk_at "eva"); (walk_at "bb")))
local macro_rules | `(tactic| walk_at "eva") => `(tactic| first
  | exact eda_nil
  | (apply eda_cons; (walk_at "ev"); (walk_at "eva")))
local macro_rules | `(tactic| walk_at "evo") => `(tactic| first
  | exact eok_none
  | (apply eok_some; walk_at "ev"))
local macro_rules | `(tactic| walk_at "bb") => `(tactic| first | rfl | assumption | (simp; done) | (simp; omega) | decide +kernel)
local macro_rules | `(tactic| walk_at "et") => `(tactic| first
  | exact tk_yes
  | (apply tk_andF; walk_at "et")
  | (apply tk_and; (walk_at "et"); (intro _; walk_at "et"))
  | (apply tk_orT; walk_at "et")
  | (apply tk_or; (walk_at "et"); (intro _; walk_at "et"))
  | (apply tk_notT; walk_at "et")
  | (apply tk_notF; walk_at "et")
  | (apply tk_not; walk_at "et")
  | (apply tk_v; walk_at "ev")
  | (apply tk_vB; walk_at "ev"))
local macro_rules | `(tactic| walk_at "if") => `(tactic| first
  | (apply pst_whenF; (walk_at "et"); (walk_at "bb"))
  | (apply pst_whenT; (walk_at "et"); (walk_at "bb")))
local macro_rules | `(tactic| walk_at "post") => `(tactic| first | assumption | exact ⟨_, _, rfl, rfl⟩ | exact ⟨_, _, _, _, rfl, by omega, by omega, rfl⟩ | exact ⟨_, _, _, 0, rfl, by omega, by omega, rfl⟩)
local macro_rules | `(tactic| walk_at "cc") => `(tactic| first | assumption | decide | omega | (refine ⟨?_, ?_⟩ <;> first | decide | omega) | (exact Or.inl (by constructor <;> omega)))

section
variable {K : PySem.W.Frag} {σ : L2.St} {H H' : Hp} {D : Ends} {tu tz : TS} {te tl ta tb : TE} {t : TT}
theorem w_not {Q : Bool → Hp → Prop} (h : t σ H fun b H1 => Q (!b) H1) : tNot t σ H Q := h
theorem w_tB {Q : Bool → Hp → Prop} (h : te σ H fun x H1 => ∃ c, x = .bl c ∧ Q c H1) : tB te σ H Q := h
/-- for x in a new list; nothing is changed -/
theorem w_forLd {j : Nat} {ds : List PyData} (h : EvDL K tl σ H ds) (Pv : Hp → Nat → L2.St → Hp → Prop) (h0 : ∀ H1, Ex H H1 → Pv H1 0 σ H1) (hk : ∀ H1 i σ' H', Pv H1 i σ' H' → Ex H1 H')
    (hs : ∀ H1 i d v σ' H', ds[i]? = some d → Ex H H1 → Td K H' v d → Pv H1 i σ' H' → tu { D with nx := Pv H1 (i + 1), ct := Pv H1 (i + 1), bk := D.nx } (σ'.set j (some v)) H')
    (hd : ∀ H1 σ' H', Ex H H1 → Pv H1 ds.length σ' H' → D.nx σ' H') : tFor (iList K tl) (gName j) tu D σ H := by
  refine h H (Ex.refl H) _ fun p ys H1 hp e hx hall => ?_
  have hlen := hall.length
  refine ⟨p, rfl, ⟨ys, SqL.of hx⟩, for_list (Pv H1) (h0 H1 e) (fun i σ' H' _ q => SqL.of (hk H1 i σ' H' q _ _ hx)) (fun i x σ' H' hi q => ?_) (fun σ' H' q => hd H1 σ' H' e (by rw [← hlen]; exact q))⟩
  obtain ⟨d, hdd, td⟩ := hall.getV hi
  exact hs H1 i d x σ' H' hdd e (td.ex (hk H1 i σ' H' q)) q
end
theorem encBs_ok {l : List (List Bool)} (h1 : l.length ≤ 1000) (h2 : ∀ b ∈ l, b.length ≤ 1000) : okD 2 (encBs l) = true := by
  simp only [encBs, okD, Bool.and_eq_true, decide_eq_true_eq, List.all_eq_true, List.length_map, List.mem_map]
  refine ⟨by omega, ?_⟩
  rintro _ ⟨b, hb, rfl⟩
  simp only [okD, Bool.and_eq_true, decide_eq_true_eq, List.all_eq_true, List.length_map, List.mem_map]
  refine ⟨by have := h2 b hb; omega, ?_⟩
  rintro _ ⟨c, _, rfl⟩
  rfl
theorem encBs_lay (l : List (List Bool)) : (encBs l).canLay0 = true := by
  have h : ∀ b : List Bool, PyData.canLayAll0 (b.map PyData.bool) = true := by
    intro b
    induction b with
    | nil => rfl
    | cons x r ih => simp only [List.map_cons, PyData.canLayAll0, ih, Bool.and_true]; rfl
  have h2 : ∀ l : List (List Bool), PyData.canLayAll0 (l.map fun bs => PyData.tuple (bs.map PyData.bool)) = true := by
    intro l
    induction l with
    | nil => rfl
    | cons x r ih => simp only [List.map_cons, PyData.canLayAll0, PyData.canLay0, h x, ih, Bool.and_true]
  exact h2 l
theorem mayL_small {p : List Wk} {ys : List (List Str)} (h : okP p = true) : (mayL p ys).length ≤ 1000 ∧ ∀ b ∈ mayL p ys, b.length ≤ 1000 := by
  have hl := okP_len h
  refine ⟨by simp [mayL]; omega, fun b hb => ?_⟩
  simp only [mayL, List.mem_map, List.mem_range] at hb
  obtain ⟨i, hi, rfl⟩ := hb
  obtain ⟨w, hw⟩ : ∃ w, p[i]? = some w := ⟨_, List.getElem?_eq_getElem hi⟩
  rw [mayL_row hw, List.length_map, List.length_range]
  have := (okP_get h hw).1
  omega
def spLaw (K : PySem.W.Frag) : Sp := fun vs H Q _ => ∃ (s : Addr) (ns : List Int), vs = [.ref s] ∧ SqL K H s (ns.map V.int) ∧ ns.length ≤ 63 ∧ ∀ H', Q (.bl true) H'
section
variable {P : Program} {w : World} {K : PySem.W.Frag} {mg : Str → Option Value} {base : Heap} (T : Tx K mg)
include T
theorem ok_law (GP : Fn__law_program T P w base CX0 12 (spProg K)) (GW : Fn__law_ways T P w base CX0 2 (spWays K)) (GA : Fn__law_alike T P w base CX0 3 (spAl K 2)) (GM : Fn_may_set T P w base (L2.CX P w) 26 (spMay K)) (GL : Fn__law_may_set T P w base CX0 8 (spLM K)) : Fn_law T P w base CX0 27 (spLaw K) := by
  have G__law_program := GP
  have G__law_ways := GW
  have G__law_alike := GA
  have G_may_set := GM
  have G__law_may_set := GL
  refine T.F_law.ok sc_law (fun vs H Q E h => by obtain ⟨s, ns, rfl, _⟩ := h; rfl) fun cdv A outer s0 H vs Q E hr h => ?_
  obtain ⟨s, ns, rfl, hS, hn, kq⟩ := h
  refine ⟨_, (pss_cons (ps_set (i := 1) sc_law.nd rfl (Or.inl rfl) (pe_lst (pa_cons (pv 0) (pa_cons pe_int (pa_cons pe_int (pa_cons pe_int pa_nil))))))
  (pss_cons (ps_for (passes_of rfl) rfl (pi_range1 rfl T.b_range (pa_cons pe_int pa_nil)) (pg_name (i := 2) sc_law.nd rfl (Or.inl rfl))
    (pss_cons (ps_set (i := 3) sc_law.nd rfl (Or.inl rfl) (pe_call G__law_program (hr.mono (by omega)) (by rfl) T.g__law_program T.k__law_program T.bd__law_program .nil pass0 (pa_cons (pv 1) (pa_cons pe_int pa_nil))))
    (pss_cons (ps_set (i := 4) sc_law.nd rfl (Or.inl rfl) (pe_call G__law_ways (hr.mono (by omega)) (by rfl) T.g__law_ways T.k__law_ways T.bd__law_ways .nil pass0 (pa_cons (pv 1) (pa_cons (pv 3) (pa_cons (pe_lst (pa_cons pe_str (pa_cons pe_str (pa_cons pe_str (pa_cons pe_str pa_nil))))) pa_nil)))))
    (pss_cons (ps_set (i := 5) sc_law.nd rfl (Or.inl rfl) (pe_call G__law_ways (hr.mono (by omega)) (by rfl) T.g__law_ways T.k__law_ways T.bd__law_ways .nil pass0 (pa_cons (pv 1) (pa_cons (pv 3) (pa_cons (pe_lst (pa_cons pe_str pa_nil)) pa_nil)))))
    (pss_one (ps_for (passes_of rfl) rfl (kpi_list K (pe_lst (pa_cons (pv 4) (pa_cons (pv 5) (pa_cons (pv 4) pa_nil))))) (pg_name (i := 6) sc_law.nd rfl (Or.inl rfl))
      (pss_one (ps_if (pt_not (pt_val (pe_call G__law_alike (hr.mono (by omega)) (by rfl) T.g__law_alike T.k__law_alike T.bd__law_alike .nil pass0 (pa_cons (pe_call G_may_set (hr.mono (by omega)) (by rfl) T.g_may_set T.k_may_set T.bd_may_set .nil passL (pa_cons (pv 3) (pa_cons (pv 6) pa_nil))) (pa_cons (pe_call G__law_may_set (hr.mono (by omega)) (by rfl) T.g__law_may_set T.k__law_may_set T.bd__law_may_set .nil pass0 (pa_cons (pv 3) (pa_cons (pv 6) pa_nil))) pa_nil)))))
        (pss_one (ps_ret pe_bl))
        pss_nil))))))))
  (pss_one (ps_ret pe_bl)))), ?_⟩
  refine w_seq (w_asg (w_lst (w_cons (w_v rfl (w_cons (w_c (w_cons (w_c (w_cons (w_c (w_nil ⟨by show 4 ≤ sizeLine; decide, fun r hr0 => ?_⟩)))))))))))
  have R1 : RowAt K s ns (upd H r (.lst [.ref s, .int 0, .int 0, .int 0])) r := ⟨0, 0, 0, upd_same, ex_l (Ex.new hr0) hS, by decide, by decide, by decide, by decide⟩
  dsimp only
  generalize upd H r (.lst [.ref s, .int 0, .int 0, .int 0]) = H1 at *
  refine w_seq (w_forR (K := K) (n := 4) ?_ (by decide) (fun i σ' H' => ∃ u2 u3 u4 u5 u6 : Option V, σ' = [some (.ref s), some (.ref r), u2, u3, u4, u5, u6] ∧ RowAt K s ns H' r) ?_ ?_ ?_)
  · exact eda_cons ed_ci eda_nil
  · intro H2 e2
    exact ⟨_, _, _, _, _, rfl, R1.ex e2⟩
  · rintro tn σ' H2 htn ⟨u2, u3, u4, u5, u6, rfl, R2⟩
    dsimp only
    refine w_seq (w_asg (w_call (w_cons (w_v rfl (w_cons (w_c (w_nil ⟨r, s, ns, 8, rfl, R2, hn, by decide, fun p vp H3 gp f3 R3 tp3 => ?_⟩)))))))
    have hok := goP_ok gp (by decide)
    have hsm := goP_sm gp
    have hl := okP_len hok
    have hpar : ∀ w ∈ p, w.params ≤ 1000 := fun w hw => by
      obtain ⟨i, hi⟩ := List.mem_iff_getElem?.mp hw
      have := (okP_get hok hi).1
      omega
    dsimp only
    refine w_seq (w_asg (w_call (w_cons (w_v rfl (w_cons (w_v rfl (w_cons (w_lst (w_cons (w_c (w_cons (w_c (w_cons (w_c (w_cons (w_c (w_nil ⟨by show 4 ≤ sizeLine; decide, fun so hso => w_nil ⟨r, s, so, ns, vp, p, ["copy", "place", "back", "want"], rfl, R3.ex (Ex.new hso), hn, tp3.ex (Ex.new hso), upd_same, (R3.off hso).1, by decide, by decide, by omega, hpar, fun ys vy H4 gy f4 R4 ty4 => ?_⟩⟩)))))))))))))))))
    have f34 : Fr [r] H3 H4 := (Fr.of (Ex.new hso)).trans f4
    have tp4 := tp3.kp (R3.keep f34)
    have oy := goY_ok gy fun z hz => (way_all z hz).1
    have sy := goY_sm gp gy fun z hz => (way_all z hz).2
    clear f34 f4
    dsimp only
    refine w_seq (w_asg (w_call (w_cons (w_v rfl (w_cons (w_v rfl (w_cons (w_lst (w_cons (w_c (w_nil ⟨by show 1 ≤ sizeLine; decide, fun so2 hso2 => w_nil ⟨r, s, so2, ns, vp, p, ["copy"], rfl, R4.ex (Ex.new hso2), hn, tp4.ex (Ex.new hso2), upd_same, (R4.off hso2).1, by decide, by decide, by omega, hpar, fun yz vz H5 gz f5 R5 tz5 => ?_⟩⟩)))))))))))
    have f45 : Fr [r] H4 H5 := (Fr.of (Ex.new hso2)).trans f5
    have tp5 := tp4.kp (R4.keep f45)
    have ty5 := ty4.kp (R4.keep f45)
    have one : ∀ z ∈ (["copy"] : List Str), z ∈ (["copy", "place", "back", "want"] : List Str) := by
      intro z hz
      have e : z = "copy" := by simpa using hz
      rw [e]
      simp
    have oz := goY_ok gz fun z hz => (way_all z (one z hz)).1
    have sz := goY_sm gp gz fun z hz => (way_all z (one z hz)).2
    clear f45 f5
    dsimp only
    refine w_forLd (K := K) (ds := [encY ys, encY yz, encY ys]) ?_ (fun H6 i σ' H' => ∃ u6 : Option V, σ' = [some (.ref s), some (.ref r), some (.int (tn : Int)), some vp, some vy, some vz, u6] ∧ Ex H5 H' ∧ Ex H6 H') ?_ ?_ ?_ ?_
    · exact edl_lst (eda_cons (ed_var rfl ty5) (eda_cons (ed_var rfl tz5) (eda_cons (ed_var rfl ty5) eda_nil))) (by simp)
    · intro H6 e6
      exact ⟨_, rfl, e6, Ex.refl _⟩
    · rintro H6 i σ' H' ⟨u6, rfl, e, e2⟩
      exact e2
    · rintro H6 m d v σ' H7 hd e6 tv ⟨u6, rfl, e7, e67⟩
      obtain ⟨y, rfl, oy1, sy1⟩ : ∃ y, d = encY y ∧ okY p y = true ∧ smY y := by
        match m, hd with
        | 0, hd => exact ⟨ys, by simpa using hd.symm, oy, sy⟩
        | 1, hd => exact ⟨yz, by simpa using hd.symm, oz, sz⟩
        | 2, hd => exact ⟨ys, by simpa using hd.symm, oy, sy⟩
        | m + 3, hd => simp at hd
      dsimp only
      refine w_ifs (w_not (w_tB (w_call (w_cons ?_))))
      refine w_call (w_cons (w_v rfl (w_cons (w_v rfl (w_nil ⟨p, y, .cons (tp5.ex e7) (.cons tv .nil), hsm, sy1, fun _ _ v1 H8 e8 t8 => ?_, (fun e => by rw [hok] at e; cases e), (fun _ e => by rw [oy1] at e; cases e)⟩)))))
      refine w_cons (w_call (w_cons (w_v rfl (w_cons (w_v rfl (w_nil ⟨p, y, .cons ((tp5.ex e7).ex e8) (.cons (tv.ex e8) .nil), hok, oy1, hsm, sy1, fun v2 H9 e9 t9 => w_nil ?_⟩))))))
      have small := mayL_small (ys := y) hok
      refine ⟨v1, v2, _, _, rfl, Td.tl _ (t8.ex e9), Td.tl _ t9, encBs_lay _, encBs_lay _, encBs_ok small.1 small.2, fun H10 e10 => ⟨_, rfl, ?_⟩⟩
      rw [alike_self 2 _ (encBs_ok small.1 small.2)]
      exact iteF ⟨_, rfl, ((e7.trans e8).trans e9).trans e10, ((e67.trans e8).trans e9).trans e10⟩
    · rintro H6 σ' H7 e6 ⟨u6, rfl, e7, e67⟩
      exact ⟨_, _, _, _, _, rfl, R5.ex e7⟩
  · rintro σ' H2 ⟨u2, u3, u4, u5, u6, rfl, R2⟩
    dsimp only
    refine w_ret (w_c ?_)
    exact kq H2
/-- the drawing, put together -/
theorem ok_gen (gT : Fn__law_taken T P w base CX0 1 (spTaken K)) : Fn__law_program T P w base CX0 12 (spProg K) := by
  have g0 := ok_thing T gT 0
  have g1 := ok_thing T gT 1
  have g2 := ok_thing T gT 2
  have gP : Fn__law_place T P w base CX0 4 (spPlace K 1) := ok_place T g1
  have gH : Fn__law_thing T P w base CX0 4 (spThings K) := by
    constructor
    · rintro vs H Q E ⟨n, hn, r, s, ns, v, ps, os, rfl, _⟩
      rfl
    · rintro A outer s H args us vs Q E hr he hb hv ⟨n, hn, h⟩
      rcases (by omega : n = 0 ∨ n = 1 ∨ n = 2) with e | e | e
      · subst e; exact g0.run A outer s H args us vs Q E (hr.mono (by decide)) he hb hv h
      · subst e; exact g1.run A outer s H args us vs Q E (hr.mono (by decide)) he hb hv h
      · subst e; exact g2.run A outer s H args us vs Q E hr he hb hv h
  have b0 : Fn__law_body T P w base CX0 7 (spBody K 0) := ok_body T (by decide) (ok_step (n := 0) (lv := 5) T (by decide) (fun _ _ _ _ => False) (fun h => absurd h (Nat.lt_irrefl 0)) (fn_vac fun _ _ _ _ h => h) gT gH gP) gT
  have b1 : Fn__law_body T P w base CX0 9 (spBody K 1) := ok_body T (by decide) (ok_step (n := 1) (lv := 7) T (by decide) (spBody K 0) (fun _ => rfl) b0 gT gH gP) gT
  have b2 : Fn__law_body T P w base CX0 11 (spBody K 2) := ok_body T (by decide) (ok_step (n := 2) (lv := 9) T (by decide) (spBody K 1) (fun _ => rfl) b1 gT gH gP) gT
  exact ok_program T gT gP b2
/-- all of it -/
theorem law_ok : Fn_law T P w base CX0 27 (spLaw K) := by
  have gT := ok_taken (P := P) (w := w) (base := base) T
  have gN := ok_is_number (P := P) (w := w) (base := base) T
  have gIT := ok_is_thing T gN 6
  have gIC := ok_is_call T (Nat.le_refl 8) gN gIT
  have gBo := ok_bodyN T gIT gIC 6
  have gBs := ok_bodies_of (P := P) (w := w) (base := base) (k := 0) T
  have gNP := ok_need_program T (ok_is_work T gBo (ok_count T gBs 7))
  have gNY := ok_need_ways T gNP
  have gM := ok_may_set T gNP gNY (ok_sets T gBs 6)
  exact ok_law T (ok_gen T gT) (ok_ways T gT) (ok_alike T 2) gM (ok_law_may T (ok_handings T 6))
end
end Hw

set_option maxRecDepth 100000
set_option maxHeartbeats 0
namespace Hw
open PySem PySem.Spec PyProof.Rows L2
def dd_is_number : He.DefD := ⟨("is_number", none), "is_number", "is_number", defArgs s_is_number, defBody s_is_number, defScope s_is_number, [], []⟩
def dd_is_thing : He.DefD := ⟨("is_thing", none), "is_thing", "is_thing", defArgs s_is_thing, defBody s_is_thing, defScope s_is_thing, [], []⟩
def dd_is_call : He.DefD := ⟨("is_call", none), "is_call", "is_call", defArgs s_is_call, defBody s_is_call, defScope s_is_call, [], []⟩
def dd_is_step : He.DefD := ⟨("is_step", none), "is_step", "is_step", defArgs s_is_step, defBody s_is_step, defScope s_is_step, [], []⟩
def dd_is_body : He.DefD := ⟨("is_body", none), "is_body", "is_body", defArgs s_is_body, defBody s_is_body, defScope s_is_body, [], []⟩
def dd_bodies_of : He.DefD := ⟨("bodies_of", none), "bodies_of", "bodies_of", defArgs s_bodies_of, defBody s_bodies_of, defScope s_bodies_of, [], []⟩
def dd_count : He.DefD := ⟨("count", none), "count", "count", defArgs s_count, defBody s_count, defScope s_count, [], []⟩
def dd_is_work : He.DefD := ⟨("is_work", none), "is_work", "is_work", defArgs s_is_work, defBody s_is_work, defScope s_is_work, [], []⟩
def dd_need_program : He.DefD := ⟨("need_program", none), "need_program", "need_program", defArgs s_need_program, defBody s_need_program, defScope s_need_program, [], []⟩
def dd_need_ways : He.DefD := ⟨("need_ways", none), "need_ways", "need_ways", defArgs s_need_ways, defBody s_need_ways, defScope s_need_ways, [], []⟩
def dd_sets : He.DefD := ⟨("sets", none), "sets", "sets", defArgs s_sets, defBody s_sets, defScope s_sets, [], []⟩
def dd_may_set : He.DefD := ⟨("may_set", none), "may_set", "may_set", defArgs s_may_set, defBody s_may_set, defScope s_may_set, [], []⟩
def dd__law_taken : He.DefD := ⟨("_law_taken", none), "_law_taken", "_law_taken", defArgs s__law_taken, defBody s__law_taken, defScope s__law_taken, [], []⟩
def dd__law_alike : He.DefD := ⟨("_law_alike", none), "_law_alike", "_law_alike", defArgs s__law_alike, defBody s__law_alike, defScope s__law_alike, [], []⟩
def dd__law_thing : He.DefD := ⟨("_law_thing", none), "_law_thing", "_law_thing", defArgs s__law_thing, defBody s__law_thing, defScope s__law_thing, [], []⟩
def dd__law_place : He.DefD := ⟨("_law_place", none), "_law_place", "_law_place", defArgs s__law_place, defBody s__law_place, defScope s__law_place, [], []⟩
def dd__law_step : He.DefD := ⟨("_law_step", none), "_law_step", "_law_step", defArgs s__law_step, defBody s__law_step, defScope s__law_step, [], []⟩
def dd__law_body : He.DefD := ⟨("_law_body", none), "_law_body", "_law_body", defArgs s__law_body, defBody s__law_body, defScope s__law_body, [], []⟩
def dd__law_program : He.DefD := ⟨("_law_program", none), "_law_program", "_law_program", defArgs s__law_program, defBody s__law_program, defScope s__law_program, [], []⟩
def dd__law_ways : He.DefD := ⟨("_law_ways", none), "_law_ways", "_law_ways", defArgs s__law_ways, defBody s__law_ways, defScope s__law_ways, [], []⟩
def dd__law_cells : He.DefD := ⟨("_law_cells", none), "_law_cells", "_law_cells", defArgs s__law_cells, defBody s__law_cells, defScope s__law_cells, [], []⟩
def dd__law_handings : He.DefD := ⟨("_law_handings", none), "_law_handings", "_law_handings", defArgs s__law_handings, defBody s__law_handings, defScope s__law_handings, [], []⟩
def dd__law_may_set : He.DefD := ⟨("_law_may_set", none), "_law_may_set", "_law_may_set", defArgs s__law_may_set, defBody s__law_may_set, defScope s__law_may_set, [], []⟩
def dd_law : He.DefD := ⟨("law", none), "law", "law", defArgs s_law, defBody s_law, defScope s_law, [], []⟩
def fns : List He.DefD := [dd_is_number, dd_is_thing, dd_is_call, dd_is_step, dd_is_body, dd_bodies_of, dd_count, dd_is_work, dd_need_program, dd_need_ways, dd_sets, dd_may_set, dd__law_taken, dd__law_alike, dd__law_thing, dd__law_place, dd__law_step, dd__law_body, dd__law_program, dd__law_ways, dd__law_cells, dd__law_handings, dd__law_may_set, dd_law]
def fas : List He.Fa := [.glo "is_number", .glo "is_thing", .glo "is_call", .glo "is_step", .glo "is_body", .glo "bodies_of", .glo "count", .glo "is_work", .glo "need_program", .glo "need_ways", .glo "sets", .glo "may_set", .glo "_law_taken", .glo "_law_alike", .glo "_law_thing", .glo "_law_place", .glo "_law_step", .glo "_law_body", .glo "_law_program", .glo "_law_ways", .glo "_law_cells", .glo "_law_handings", .glo "_law_may_set", .glo "law", .glo "HandError", .keep "HandError", .glo "BadProgram", .keep "BadProgram", .glo "BadWays", .keep "BadWays", .free "ValueError", .free "bool", .free "int", .free "isinstance", .free "len", .free "list", .free "range", .free "reversed", .free "str", .free "sum", .free "tuple", .free "zip", .int "NUMBERS" 3, .int "MOST_WORKS" 4, .int "MOST_PARAMS" 3, .int "MOST_OWNS" 99, .int "MOST_STEPS" 100, .int "MOST_WITHIN" 4, .glo "PLACES", .glo "WAYS"]
def exs : List (PySem.W.Frag → Bool) := [fun K => PySem.W.excIn K (He.ga K "HandError") [.type "ValueError", .type "Exception", .type "BaseException", .type "object"] "ValueError.__new__", fun K => decide (PySem.W.subIn K (.ref (He.ga K "HandError")) (.type "BaseException") = some true), fun K => decide (PySem.W.typeIn K (.ref (He.ga K "HandError")) = some (.type "type")), fun K => decide (PySem.W.exmOne K (.ref (He.ga K "HandError")) (.ref (He.ga K "HandError")) = some true), fun K => decide (PySem.W.exmOne K (.ref (He.ga K "HandError")) (.ref (He.ga K "BadProgram")) = some false), fun K => decide (PySem.W.exmOne K (.ref (He.ga K "HandError")) (.ref (He.ga K "BadWays")) = some false), fun K => PySem.W.excIn K (He.ga K "BadProgram") [.type "ValueError", .type "Exception", .type "BaseException", .type "object"] "ValueError.__new__", fun K => decide (PySem.W.subIn K (.ref (He.ga K "BadProgram")) (.type "BaseException") = some true), fun K => decide (PySem.W.typeIn K (.ref (He.ga K "BadProgram")) = some (.type "type")), fun K => decide (PySem.W.exmOne K (.ref (He.ga K "BadProgram")) (.ref (He.ga K "HandError")) = some true), fun K => decide (PySem.W.exmOne K (.ref (He.ga K "BadProgram")) (.ref (He.ga K "BadProgram")) = some true), fun K => decide (PySem.W.exmOne K (.ref (He.ga K "BadProgram")) (.ref (He.ga K "BadWays")) = some false), fun K => PySem.W.excIn K (He.ga K "BadWays") [.type "ValueError", .type "Exception", .type "BaseException", .type "object"] "ValueError.__new__", fun K => decide (PySem.W.subIn K (.ref (He.ga K "BadWays")) (.type "BaseException") = some true), fun K => decide (PySem.W.typeIn K (.ref (He.ga K "BadWays")) = some (.type "type")), fun K => decide (PySem.W.exmOne K (.ref (He.ga K "BadWays")) (.ref (He.ga K "HandError")) = some true), fun K => decide (PySem.W.exmOne K (.ref (He.ga K "BadWays")) (.ref (He.ga K "BadProgram")) = some false), fun K => decide (PySem.W.exmOne K (.ref (He.ga K "BadWays")) (.ref (He.ga K "BadWays")) = some true), fun K => He.tupB K "PLACES" [.str "cell", .str "own", .str "par"], fun K => He.tupB K "WAYS" [.str "back", .str "copy", .str "place", .str "want"]]
def exB (K : PySem.W.Frag) : Bool := exs.all fun f => f K
theorem exs_at {K : PySem.W.Frag} (e : exB K = true) (i : Nat) {f : PySem.W.Frag → Bool} (h : exs[i]? = some f) : f K = true := List.all_eq_true.mp e f (List.mem_of_getElem? h)
abbrev R : PySem.W.OpenRow := PySem.W.OpenLaw.row PySem.Challenge.rw_handways_k06_who_may_set_what
abbrev hk : PySem.W.Hook := He.hookX 4 fas fns [] [] exB
def ob (s : PySem.W.SharedT) : He.AlX := He.obsX 4 fas fns [] [] exB (HandSHeadRun.getT s)
theorem ob_eq (s : PySem.W.SharedT) : ob s = hk.obs s.abs := He.obsX_eq (HandSHeadRun.getT_eq s)
def loose0 : List Str := [("HandError" : Str), ("BadProgram" : Str), ("BadWays" : Str), ("NUMBERS" : Str), ("MOST_WORKS" : Str), ("MOST_PARAMS" : Str), ("MOST_OWNS" : Str), ("MOST_STEPS" : Str), ("MOST_WITHIN" : Str), ("PLACES" : Str), ("WAYS" : Str), ("is_number" : Str)]
def loose1 : List Str := [("is_thing" : Str), ("is_call" : Str), ("is_step" : Str), ("is_body" : Str), ("bodies_of" : Str), ("count" : Str), ("is_work" : Str), ("need_program" : Str), ("need_ways" : Str), ("sets" : Str), ("may_set" : Str), ("_law_taken" : Str)]
def loose2 : List Str := [("_law_alike" : Str), ("_law_thing" : Str), ("_law_place" : Str), ("_law_step" : Str), ("_law_body" : Str), ("_law_program" : Str), ("_law_ways" : Str), ("_law_cells" : Str), ("_law_handings" : Str), ("_law_may_set" : Str)]
def loose : List Str := loose0 ++ loose1 ++ loose2
theorem run (w : World) : HandSHeadRun.RunEq R (PySem.W.view R.prog [38]) hk ob 8000 loose w := by
  intro os
  kernel_rfl
theorem tx_of {w : World} {K : PySem.W.Frag} {h : Heap} {mg : Str → Option Value} (X : K.In h) (G : h.Ns mainGlobals mg) (y : He.SaysX fas fns [] [] exB w h K) : Tx K mg := by
  have c := y.t.d
  have e := y.more
  refine ⟨?f0, ?f1, ?f2, ?f3, ?f4, ?f5, ?f6, ?f7, ?f8, ?f9, ?f10, ?f11, ?f12, ?f13, ?f14, ?f15, ?f16, ?f17, ?f18, ?f19, ?f20, ?f21, ?f22, ?f23, ?f24, ?f25, ?f26, ?f27, ?f28, ?f29, ?f30, ?f31, ?f32, ?f33, ?f34, ?f35, ?f36, ?f37, ?f38, ?f39, ?f40, ?f41, ?f42, ?f43, ?f44, ?f45, ?f46, ?f47, ?f48, ?f49, ?f50, ?f51, ?f52, ?f53, ?f54, ?f55, ?f56, ?f57, ?f58, ?f59, ?f60, ?f61, ?f62, ?f63, ?f64, ?f65, ?f66, ?f67, ?f68, ?f69, ?d0, ?d1, ?d2, ?d3, ?d4, ?d5, ?d6, ?d7, ?d8, ?d9, ?d10, ?d11, ?d12, ?d13, ?d14, ?d15, ?d16, ?d17, ?d18, ?d19, ?d20, ?d21, ?d22, ?d23⟩
  case f0 => exact He.glo_ok X G (c.fact 0 (by rfl))
  case f1 => exact He.glo_ok X G (c.fact 1 (by rfl))
  case f2 => exact He.glo_ok X G (c.fact 2 (by rfl))
  case f3 => exact He.glo_ok X G (c.fact 3 (by rfl))
  case f4 => exact He.glo_ok X G (c.fact 4 (by rfl))
  case f5 => exact He.glo_ok X G (c.fact 5 (by rfl))
  case f6 => exact He.glo_ok X G (c.fact 6 (by rfl))
  case f7 => exact He.glo_ok X G (c.fact 7 (by rfl))
  case f8 => exact He.glo_ok X G (c.fact 8 (by rfl))
  case f9 => exact He.glo_ok X G (c.fact 9 (by rfl))
  case f10 => exact He.glo_ok X G (c.fact 10 (by rfl))
  case f11 => exact He.glo_ok X G (c.fact 11 (by rfl))
  case f12 => exact He.glo_ok X G (c.fact 12 (by rfl))
  case f13 => exact He.glo_ok X G (c.fact 13 (by rfl))
  case f14 => exact He.glo_ok X G (c.fact 14 (by rfl))
  case f15 => exact He.glo_ok X G (c.fact 15 (by rfl))
  case f16 => exact He.glo_ok X G (c.fact 16 (by rfl))
  case f17 => exact He.glo_ok X G (c.fact 17 (by rfl))
  case f18 => exact He.glo_ok X G (c.fact 18 (by rfl))
  case f19 => exact He.glo_ok X G (c.fact 19 (by rfl))
  case f20 => exact He.glo_ok X G (c.fact 20 (by rfl))
  case f21 => exact He.glo_ok X G (c.fact 21 (by rfl))
  case f22 => exact He.glo_ok X G (c.fact 22 (by rfl))
  case f23 => exact He.glo_ok X G (c.fact 23 (by rfl))
  case f24 => exact He.glo_ok X G (c.fact 24 (by rfl))
  case f25 => exact He.keep_ok (c.fact 25 (by rfl))
  case f26 => exact (exs_at e 0 (by rfl))
  case f27 => exact of_decide_eq_true (exs_at e 1 (by rfl))
  case f28 => exact of_decide_eq_true (exs_at e 2 (by rfl))
  case f29 => exact of_decide_eq_true (exs_at e 3 (by rfl))
  case f30 => exact of_decide_eq_true (exs_at e 4 (by rfl))
  case f31 => exact of_decide_eq_true (exs_at e 5 (by rfl))
  case f32 => exact He.glo_ok X G (c.fact 26 (by rfl))
  case f33 => exact He.keep_ok (c.fact 27 (by rfl))
  case f34 => exact (exs_at e 6 (by rfl))
  case f35 => exact of_decide_eq_true (exs_at e 7 (by rfl))
  case f36 => exact of_decide_eq_true (exs_at e 8 (by rfl))
  case f37 => exact of_decide_eq_true (exs_at e 9 (by rfl))
  case f38 => exact of_decide_eq_true (exs_at e 10 (by rfl))
  case f39 => exact of_decide_eq_true (exs_at e 11 (by rfl))
  case f40 => exact He.glo_ok X G (c.fact 28 (by rfl))
  case f41 => exact He.keep_ok (c.fact 29 (by rfl))
  case f42 => exact (exs_at e 12 (by rfl))
  case f43 => exact of_decide_eq_true (exs_at e 13 (by rfl))
  case f44 => exact of_decide_eq_true (exs_at e 14 (by rfl))
  case f45 => exact of_decide_eq_true (exs_at e 15 (by rfl))
  case f46 => exact of_decide_eq_true (exs_at e 16 (by rfl))
  case f47 => exact of_decide_eq_true (exs_at e 17 (by rfl))
  case f48 => exact He.free_ok X G (c.fact 30 (by rfl))
  case f49 => exact He.free_ok X G (c.fact 31 (by rfl))
  case f50 => exact He.free_ok X G (c.fact 32 (by rfl))
  case f51 => exact He.free_ok X G (c.fact 33 (by rfl))
  case f52 => exact He.free_ok X G (c.fact 34 (by rfl))
  case f53 => exact He.free_ok X G (c.fact 35 (by rfl))
  case f54 => exact He.free_ok X G (c.fact 36 (by rfl))
  case f55 => exact He.free_ok X G (c.fact 37 (by rfl))
  case f56 => exact He.free_ok X G (c.fact 38 (by rfl))
  case f57 => exact He.free_ok X G (c.fact 39 (by rfl))
  case f58 => exact He.free_ok X G (c.fact 40 (by rfl))
  case f59 => exact He.free_ok X G (c.fact 41 (by rfl))
  case f60 => exact He.int_ok X G (c.fact 42 (by rfl))
  case f61 => exact He.int_ok X G (c.fact 43 (by rfl))
  case f62 => exact He.int_ok X G (c.fact 44 (by rfl))
  case f63 => exact He.int_ok X G (c.fact 45 (by rfl))
  case f64 => exact He.int_ok X G (c.fact 46 (by rfl))
  case f65 => exact He.int_ok X G (c.fact 47 (by rfl))
  case f66 => exact He.glo_ok X G (c.fact 48 (by rfl))
  case f67 => exact fun H => He.tupB_ok (exs_at e 18 (by rfl)) H
  case f68 => exact He.glo_ok X G (c.fact 49 (by rfl))
  case f69 => exact fun H => He.tupB_ok (exs_at e 19 (by rfl)) H
  case d0 => exact c.def_ 0 (d := dd_is_number) (by rfl)
  case d1 => exact c.def_ 1 (d := dd_is_thing) (by rfl)
  case d2 => exact c.def_ 2 (d := dd_is_call) (by rfl)
  case d3 => exact c.def_ 3 (d := dd_is_step) (by rfl)
  case d4 => exact c.def_ 4 (d := dd_is_body) (by rfl)
  case d5 => exact c.def_ 5 (d := dd_bodies_of) (by rfl)
  case d6 => exact c.def_ 6 (d := dd_count) (by rfl)
  case d7 => exact c.def_ 7 (d := dd_is_work) (by rfl)
  case d8 => exact c.def_ 8 (d := dd_need_program) (by rfl)
  case d9 => exact c.def_ 9 (d := dd_need_ways) (by rfl)
  case d10 => exact c.def_ 10 (d := dd_sets) (by rfl)
  case d11 => exact c.def_ 11 (d := dd_may_set) (by rfl)
  case d12 => exact c.def_ 12 (d := dd__law_taken) (by rfl)
  case d13 => exact c.def_ 13 (d := dd__law_alike) (by rfl)
  case d14 => exact c.def_ 14 (d := dd__law_thing) (by rfl)
  case d15 => exact c.def_ 15 (d := dd__law_place) (by rfl)
  case d16 => exact c.def_ 16 (d := dd__law_step) (by rfl)
  case d17 => exact c.def_ 17 (d := dd__law_body) (by rfl)
  case d18 => exact c.def_ 18 (d := dd__law_program) (by rfl)
  case d19 => exact c.def_ 19 (d := dd__law_ways) (by rfl)
  case d20 => exact c.def_ 20 (d := dd__law_cells) (by rfl)
  case d21 => exact c.def_ 21 (d := dd__law_handings) (by rfl)
  case d22 => exact c.def_ 22 (d := dd__law_may_set) (by rfl)
  case d23 => exact c.def_ 23 (d := dd_law) (by rfl)
end Hw
set_option maxRecDepth 100000
set_option maxHeartbeats 0
open PySem PySem.W PySem.Calls PyProof.Rows
theorem PySem.Challenge.cw_handways_k06_who_may_set_what_holds : PySem.Challenge.rw_handways_k06_who_may_set_what.Holds := by
  w_on; o_law
  refine HandSHeadRun.head_any (r := OpenLaw.row PySem.Challenge.rw_handways_k06_who_may_set_what) (q := view (OpenLaw.row PySem.Challenge.rw_handways_k06_who_may_set_what).prog [38]) (H := Hw.hk) (ob := Hw.ob) (M := 8000) (loose := Hw.loose)
    (d := HandSHeadRun.topDef (OpenLaw.row PySem.Challenge.rw_handways_k06_who_may_set_what).prog 38) (kwd := []) Hw.ob_eq (by kernel_rfl) (fun s => by kernel_rfl) Hw.run (by kernel_rfl) (by kernel_rfl) (by kernel_rfl) (by rfl)
    (by first | assumption | decide +kernel) (by decide +kernel) ⟨rfl, rfl, rfl, rfl, rfl, by decide +kernel⟩ ?hw ?hc
  case hw => w_witness2
  case hc =>
    refine L2.walk_ofE (l := PySem.Challenge.rw_handways_k06_who_may_set_what) (n := 63) (k := 27) (x := "_law_script") (CX := L2.CX0) rfl (by decide) (by kernel_rfl) ⟨rfl, by decide, by decide⟩ ?F (fun _ _ _ _ z => z)
    intro w mg fa h Y G hmg0
    obtain ⟨K, KX, y⟩ := Y
    have T := Hw.tx_of KX G y
    have e : (HandSHeadRun.topDef (OpenLaw.row PySem.Challenge.rw_handways_k06_who_may_set_what).prog 38).name = ("law" : PySem.Str) := by kernel_rfl
    rw [e] at hmg0
    have e2 := hmg0.symm.trans T.g_law
    cases e2
    have b := L2.FunD.bindsA (ps := ["_law_script"]) T.F_law fun _ _ _ _ _ _ us hl => match us, hl with | [_], _ => rfl
    exact ⟨K, T.fd_law, Hw.spLaw K, KX, fun s v => b s [v] rfl, fun H a ns hl _ hS => ⟨a, ns, rfl, hS, hl, fun _ => rfl⟩, fun base _ _ => Hw.law_ok T⟩
