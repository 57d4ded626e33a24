import PyProof.Rows.All
import Wide.All
import OpenK.AllK
import Wide.FinOn
import HandS.ForMost
import HandS.Evl
import HandS.Deep
import HandS.TupAny
import HandS.IsInst
import HandS.Zip
import HandS.RevRange
import HandS.Defaults
import HandS.ExcInit
import HandS.ExcField
import HandS.ExcIs
import OpenK.KCls
import OpenK.KMore
import HandS.Exc
import HandS.HeadHook4
import HandS.HeadEnd
import HandS.Head2
import PySem.Challenge.RW_handways_k12_texts_refused
import HandS.ForExc
import HandS.Text
import HandS.Walk
import PyProof.P3In
import HandS.Style
set_option Elab.async false
set_option linter.all false
set_option maxRecDepth 100000
set_option maxHeartbeats 4000000
/-! W1: data (tuples within tuples) as values, what expressions are worth as data -/
namespace Hw
open PySem PySem.Spec PyProof.Rows L2 Evl
theorem filter_not_isEmpty {α : Type} {f : α → Bool} : ∀ xs : List α, (xs.filter fun t => !f t).isEmpty = xs.all f
  | [] => rfl
  | x :: r => by
    rw [List.filter_cons, List.all_cons]
    cases h : f x with
    | true => simpa using filter_not_isEmpty (f := f) r
    | false => simp

/-! ### data that never changes -/
mutual
inductive Td (K : PySem.W.Frag) (H : Hp) : V → PyData → Prop
  | non : Td K H .non .none
  | bl (b : Bool) : Td K H (.bl b) (.bool b)
  | int (i : Int) : Td K H (.int i) (.int i)
  | str (x : Str) : Td K H (.str x) (.str x)
  | tup {a : Addr} {xs : List V} {ds : List PyData} : SqT K H a xs → TdAll K H xs ds → Td K H (.ref a) (.tuple ds)
inductive TdAll (K : PySem.W.Frag) (H : Hp) : List V → List PyData → Prop
  | nil : TdAll K H [] []
  | cons {v : V} {vs : List V} {d : PyData} {ds : List PyData} : Td K H v d → TdAll K H vs ds → TdAll K H (v :: vs) (d :: ds)
end
/-- tuples stay as they stand -/
def Keep (K : PySem.W.Frag) (H H' : Hp) : Prop := ∀ a xs, SqT K H a xs → SqT K H' a xs
section
variable {K : PySem.W.Frag} {H H' H1 H2 : Hp}
theorem Keep.refl : Keep K H H := fun _ _ h => h
theorem Keep.trans (a : Keep K H H1) (b : Keep K H1 H2) : Keep K H H2 := fun x xs h => b x xs (a x xs h)
theorem ex_keep (e : Ex H H') : Keep K H H' := fun _ _ h => ex_t e h
theorem Keep.upd {a : Addr} {o u : HO} (h : H a = some u) (m : Mut (some u)) : Keep K H (upd H a o) := fun b xs q => by
  rcases q with (q | ⟨oo, q⟩) | q
  · refine .inl (.inl ?_)
    rw [upd_ne]
    · exact q
    · intro z
      subst z
      rw [h] at q
      cases q
      exact m
  · refine .inl (.inr ⟨oo, ?_⟩)
    rw [upd_ne]
    · exact q
    · intro z
      subst z
      rw [h] at q
      cases q
      exact m
  · exact .inr q
mutual
theorem Td.keep (k : Keep K H H') : ∀ (d : PyData) {v : V}, Td K H v d → Td K H' v d
  | .none, _, h => by cases h; exact .non
  | .bool _, _, h => by cases h; exact .bl _
  | .int _, _, h => by cases h; exact .int _
  | .str _, _, h => by cases h; exact .str _
  | .list _, _, h => by cases h
  | .tuple ds, _, h => by
    cases h with
    | tup hs ha => exact .tup (k _ _ hs) (TdAll.keep k ds ha)
  | .dict _, _, h => by cases h
theorem TdAll.keep (k : Keep K H H') : ∀ (ds : List PyData) {vs : List V}, TdAll K H vs ds → TdAll K H' vs ds
  | [], _, h => by cases h; exact .nil
  | d :: ds, _, h => by
    cases h with
    | cons a b => exact .cons (Td.keep k d a) (TdAll.keep k ds b)
end
theorem Td.kp {d : PyData} {v : V} (h : Td K H v d) (k : Keep K H H') : Td K H' v d := Td.keep k d h
theorem TdAll.kp {d : List PyData} {v : List V} (h : TdAll K H v d) (k : Keep K H H') : TdAll K H' v d := TdAll.keep k d h
theorem Td.ex {d : PyData} {v : V} (h : Td K H v d) (e : Ex H H') : Td K H' v d := h.kp (ex_keep e)
theorem TdAll.ex {d : List PyData} {v : List V} (h : TdAll K H v d) (e : Ex H H') : TdAll K H' v d := h.kp (ex_keep e)
mutual
theorem Td.dp : ∀ (d : PyData) {v : V}, Td K H v d → Dp K H v d
  | .none, _, h => by cases h; exact .non
  | .bool _, _, h => by cases h; exact .bl _
  | .int _, _, h => by cases h; exact .int _
  | .str _, _, h => by cases h; exact .str _
  | .list _, _, h => by cases h
  | .tuple ds, _, h => by
    cases h with
    | tup hs ha => exact .tup hs (TdAll.dp ds ha)
  | .dict _, _, h => by cases h
theorem TdAll.dp : ∀ (ds : List PyData) {vs : List V}, TdAll K H vs ds → DpAll K H vs ds
  | [], _, h => by cases h; exact .nil
  | d :: ds, _, h => by
    cases h with
    | cons a b => exact .cons (Td.dp d a) (TdAll.dp ds b)
end
theorem TdAll.length : ∀ {ds : List PyData} {vs : List V}, TdAll K H vs ds → vs.length = ds.length
  | [], _, h => by cases h; rfl
  | d :: ds, _, h => by
    cases h with
    | cons a b => simp [TdAll.length b]
theorem TdAll.get : ∀ {ds : List PyData} {vs : List V} {i : Nat} {d : PyData}, TdAll K H vs ds → ds[i]? = some d → ∃ v, vs[i]? = some v ∧ Td K H v d
  | [], _, _, _, _, e => by simp at e
  | d :: ds, _, i, d', h, e => by
    cases h with
    | cons a b =>
      cases i with
      | zero => simp at e; subst e; exact ⟨_, rfl, a⟩
      | succ i => simp at e; simpa using TdAll.get b e
theorem TdAll.getV : ∀ {ds : List PyData} {vs : List V} {i : Nat} {v : V}, TdAll K H vs ds → vs[i]? = some v → ∃ d, ds[i]? = some d ∧ Td K H v d
  | [], _, _, _, h, e => by cases h; simp at e
  | d :: ds, _, i, v', h, e => by
    cases h with
    | cons a b =>
      cases i with
      | zero => simp at e; subst e; exact ⟨_, rfl, a⟩
      | succ i => simp at e; simpa using TdAll.getV b e
theorem TdAll.append : ∀ {ds es : List PyData} {vs us : List V}, TdAll K H vs ds → TdAll K H us es → TdAll K H (vs ++ us) (ds ++ es)
  | [], _, _, _, h, g => by cases h; exact g
  | d :: ds, _, _, _, h, g => by
    cases h with
    | cons a b => exact .cons a (TdAll.append b g)
theorem TdAll.snoc {ds : List PyData} {vs : List V} {d : PyData} {v : V} (h : TdAll K H vs ds) (g : Td K H v d) : TdAll K H (vs ++ [v]) (ds ++ [d]) := h.append (.cons g .nil)
theorem TdAll.take : ∀ {ds : List PyData} {vs : List V} (n : Nat), TdAll K H vs ds → TdAll K H (vs.take n) (ds.take n)
  | _, _, 0, _ => .nil
  | [], _, n + 1, h => by cases h; exact .nil
  | d :: ds, _, n + 1, h => by
    cases h with
    | cons a b => exact .cons a (TdAll.take n b)
theorem TdAll.drop : ∀ {ds : List PyData} {vs : List V} (n : Nat), TdAll K H vs ds → TdAll K H (vs.drop n) (ds.drop n)
  | _, _, 0, h => h
  | [], _, n + 1, h => by cases h; exact .nil
  | d :: ds, _, n + 1, h => by
    cases h with
    | cons a b => exact TdAll.drop n b
theorem Td.tup_inv {v : V} {ds : List PyData} (h : Td K H v (.tuple ds)) : ∃ a xs, v = .ref a ∧ SqT K H a xs ∧ TdAll K H xs ds := by
  cases h with
  | tup hs ha => exact ⟨_, _, rfl, hs, ha⟩
theorem atI_td {ds : List PyData} {vs : List V} {i : Int} {d : PyData} (h : TdAll K H vs ds) (e : atI ds i = some d) : ∃ v, atI vs i = some v ∧ Td K H v d := by
  unfold atI at e ⊢
  rw [h.length]
  cases hi : ixN ds.length i with
  | none => rw [hi] at e; cases e
  | some j =>
    rw [hi] at e
    exact h.get e
end

/-! ### what is worth which data -/
def EvD (K : PySem.W.Frag) (te : TE) (σ : L2.St) (H : Hp) (d : PyData) : Prop := ∀ H1, Ex H H1 → ∀ Q : VK, (∀ v H2, Ex H1 H2 → Td K H2 v d → Q v H2) → te σ H1 Q
def EvDA (K : PySem.W.Frag) (ta : TA) (σ : L2.St) (H : Hp) (ds : List PyData) : Prop := ∀ H1, Ex H H1 → ∀ Q : List V → Hp → Prop, (∀ vs H2, Ex H1 H2 → TdAll K H2 vs ds → Q vs H2) → ta σ H1 Q
/-- a test's answer (K is only carried) -/
def EvTK (_ : PySem.W.Frag) (t : TT) (σ : L2.St) (H : Hp) (b : Bool) : Prop := EvT t σ H b
/-- a new list of data -/
def EvDL (K : PySem.W.Frag) (te : TE) (σ : L2.St) (H : Hp) (ds : List PyData) : Prop := ∀ H1, Ex H H1 → ∀ Q : VK, (∀ p xs H2, H1 p = none → Ex H1 H2 → H2 p = some (.lst xs) → TdAll K H2 xs ds → Q (.ref p) H2) → te σ H1 Q
/-- a list of data, to be read -/
def EvDR (K : PySem.W.Frag) (te : TE) (σ : L2.St) (H : Hp) (ds : List PyData) : Prop := ∀ H1, Ex H H1 → ∀ Q : VK, (∀ p xs H2, Ex H1 H2 → SqL K H2 p xs → TdAll K H2 xs ds → Q (.ref p) H2) → te σ H1 Q
section
variable {K : PySem.W.Frag} {σ : L2.St} {H H' : Hp} {ta tb te tx : TE} {t u : TT} {x y z v : V} {r : R2} {d e f : PyData} {ds es : List PyData} {i j k : Int}
theorem EvD.mono (a : Ex H H') (h : EvD K te σ H d) : EvD K te σ H' d := fun H1 b Q q => h H1 (a.trans b) Q q
theorem EvDA.mono {ta : TA} (a : Ex H H') (h : EvDA K ta σ H ds) : EvDA K ta σ H' ds := fun H1 b Q q => h H1 (a.trans b) Q q
theorem EvDL.mono (a : Ex H H') (h : EvDL K te σ H ds) : EvDL K te σ H' ds := fun H1 b Q q => h H1 (a.trans b) Q q
theorem EvDR.mono (a : Ex H H') (h : EvDR K te σ H ds) : EvDR K te σ H' ds := fun H1 b Q q => h H1 (a.trans b) Q q
theorem EvDL.rd (h : EvDL K te σ H ds) : EvDR K te σ H ds := fun H1 a Q q => h H1 a Q fun p xs H2 _ e2 hp ht => q p xs H2 e2 (SqL.of hp) ht
theorem edl_is (h : EvDL K te σ H ds) (q : ds = es) : EvDL K te σ H es := q ▸ h
theorem EvD.iv (h : EvD K te σ H (.int i)) : Ev te σ H (.int i) := fun H1 a Q q => h H1 a Q fun v H2 e2 td => by cases td; exact q H2 e2
theorem EvD.sv {s : Str} (h : EvD K te σ H (.str s)) : Ev te σ H (.str s) := fun H1 a Q q => h H1 a Q fun v H2 e2 td => by cases td; exact q H2 e2
theorem EvD.bv {b : Bool} (h : EvD K te σ H (.bool b)) : Ev te σ H (.bl b) := fun H1 a Q q => h H1 a Q fun v H2 e2 td => by cases td; exact q H2 e2
theorem EvD.nv (h : EvD K te σ H .none) : Ev te σ H .non := fun H1 a Q q => h H1 a Q fun v H2 e2 td => by cases td; exact q H2 e2
theorem ev_d (h : Ev te σ H v) (t : ∀ H, Td K H v d) : EvD K te σ H d := fun H1 a Q q => h H1 a Q fun H2 e2 => q v H2 e2 (t H2)
theorem ed_i (h : Ev te σ H (.int i)) : EvD K te σ H (.int i) := ev_d h fun _ => .int _
theorem ed_b {b : Bool} (h : Ev te σ H (.bl b)) : EvD K te σ H (.bool b) := ev_d h fun _ => .bl _
theorem ed_s {s : Str} (h : Ev te σ H (.str s)) : EvD K te σ H (.str s) := ev_d h fun _ => .str _
theorem ed_is (h : EvD K te σ H d) (q : d = e) : EvD K te σ H e := q ▸ h
theorem ed_var {n : Nat} (h : σ[n]? = some (some v)) (td : Td K H v d) : EvD K (tVar n) σ H d := fun H1 a _ q => ⟨v, h, q v H1 (Ex.refl H1) (td.ex a)⟩
theorem ed_ci : EvD K (tC (.int i)) σ H (.int i) := fun H1 _ _ q => q _ H1 (Ex.refl H1) (.int _)
theorem ed_cs {s : Str} : EvD K (tC (.str s)) σ H (.str s) := fun H1 _ _ q => q _ H1 (Ex.refl H1) (.str _)
theorem ed_cb {b : Bool} : EvD K (tC (.bl b)) σ H (.bool b) := fun H1 _ _ q => q _ H1 (Ex.refl H1) (.bl _)
theorem ed_cn : EvD K (tC .non) σ H .none := fun H1 _ _ q => q _ H1 (Ex.refl H1) .non
theorem ed_ct {a : Addr} (td : Td K H (.ref a) d) : EvD K (tC (.ref a)) σ H d := fun H1 e1 _ q => q _ H1 (Ex.refl H1) (td.ex e1)
theorem ed_cg {a : Addr} (td : ∀ H, Td K H (.ref a) d) : EvD K (tC (.ref a)) σ H d := fun H1 e1 _ q => q _ H1 (Ex.refl H1) (td H1)
theorem edr_var {n : Nat} {a : Addr} {xs : List V} (h : σ[n]? = some (some (.ref a))) (hl : SqL K H a xs) (td : TdAll K H xs ds) : EvDR K (tVar n) σ H ds := fun H1 e1 _ q => ⟨.ref a, h, q a xs H1 (Ex.refl H1) (ex_l e1 hl) (td.ex e1)⟩
theorem ed_ixT (ha : EvD K ta σ H (.tuple ds)) (hb : EvD K tb σ H (.int i)) (hd : atI ds i = some d) : EvD K (tOp (rIxT K) ta tb) σ H d := fun H1 a Q q =>
  ha H1 a _ fun v H2 e2 t2 => by
    obtain ⟨p, xs, rfl, hs, hall⟩ := t2.tup_inv
    refine hb.iv H2 (a.trans e2) _ fun H3 e3 => ?_
    obtain ⟨w, hw, tw⟩ := atI_td (hall.ex e3) hd
    exact ⟨p, xs, i, w, rfl, rfl, ex_t e3 hs, hw, q w H3 (e2.trans e3) tw⟩
theorem ed_ixL (ha : EvDR K ta σ H ds) (hb : EvD K tb σ H (.int i)) (hd : atI ds i = some d) : EvD K (tOp (rIxL K) ta tb) σ H d := fun H1 a Q q =>
  ha H1 a _ fun p xs H2 e2 hs hall => by
    refine hb.iv H2 (a.trans e2) _ fun H3 e3 => ?_
    obtain ⟨w, hw, tw⟩ := atI_td (hall.ex e3) hd
    exact ⟨p, xs, i, w, rfl, rfl, ex_l e3 hs, hw, q w H3 (e2.trans e3) tw⟩
theorem ed_I0i {g : Int → Int → Int} (ha : EvD K ta σ H (.int i)) (hb : EvD K tb σ H (.int j)) : EvD K (tOp (rI0 fun i j => .int (g i j)) ta tb) σ H (.int (g i j)) := ed_i (ev_op ha.iv hb.iv rv_I0)
theorem ed_I0b {g : Int → Int → Bool} (ha : EvD K ta σ H (.int i)) (hb : EvD K tb σ H (.int j)) : EvD K (tOp (rI0 fun i j => .bl (g i j)) ta tb) σ H (.bool (g i j)) := ed_b (ev_op ha.iv hb.iv rv_I0)
theorem ed_Ii {C : Int → Int → Prop} {g : Int → Int → Int} (ha : EvD K ta σ H (.int i)) (hb : EvD K tb σ H (.int j)) (hc : C i j) : EvD K (tOp (rI C fun i j => .int (g i j)) ta tb) σ H (.int (g i j)) := ed_i (ev_op ha.iv hb.iv (rv_I hc))
theorem ed_eqi (ha : EvD K ta σ H (.int i)) (hb : EvD K tb σ H (.int j)) : EvD K (tOp rEq ta tb) σ H (.bool (decide (i = j))) := ed_is (ed_b (ev_op ha.iv hb.iv (rv_eq rfl))) (by simp)
theorem ed_nei (ha : EvD K ta σ H (.int i)) (hb : EvD K tb σ H (.int j)) : EvD K (tOp rNe ta tb) σ H (.bool (!decide (i = j))) := ed_is (ed_b (ev_op ha.iv hb.iv (rv_ne rfl))) (by simp)
theorem ed_tup {ta : TA} (h : EvDA K ta σ H ds) (hl : ds.length ≤ 100000) : EvD K (tTup ta) σ H (.tuple ds) := fun H1 a _ q =>
  h H1 a _ fun vs H2 e2 t2 => ⟨by rw [t2.length]; exact sz_of hl, fun p hp => q _ _ (e2.trans (Ex.new hp)) (.tup (SqT.of upd_same) (t2.ex (Ex.new hp)))⟩
theorem edl_lst {ta : TA} (h : EvDA K ta σ H ds) (hl : ds.length ≤ 100000) : EvDL K (tLst ta) σ H ds := fun H1 a _ q =>
  h H1 a _ fun vs H2 e2 t2 => ⟨by rw [t2.length]; exact sz_of hl, fun p hp => q _ _ _ (fresh_back e2 hp) (e2.trans (Ex.new hp)) upd_same (t2.ex (Ex.new hp))⟩
theorem eda_nil : EvDA K tNil σ H [] := fun H1 _ _ q => q [] H1 (Ex.refl H1) .nil
theorem eda_cons {tr : TA} (h : EvD K ta σ H d) (hr : EvDA K tr σ H ds) : EvDA K (tCons ta tr) σ H (d :: ds) := fun H1 a _ q =>
  h H1 a _ fun v H2 e2 t2 => hr H2 (a.trans e2) _ fun vs H3 e3 t3 => q _ H3 (e2.trans e3) (.cons (t2.ex e3) t3)
theorem ed_len (h : EvD K ta σ H (.tuple ds)) : EvD K (tCB (rLenS K) (tCons ta tNil)) σ H (.int (ds.length : Int)) := fun H1 a Q q =>
  h H1 a _ fun v H2 e2 t2 => by
    obtain ⟨p, xs, rfl, hs, hall⟩ := t2.tup_inv
    refine ⟨p, xs, rfl, Or.inr hs, ?_⟩
    rw [hall.length]
    exact q _ H2 e2 (.int _)
theorem ed_lenL (h : EvDR K ta σ H ds) : EvD K (tCB (rLenS K) (tCons ta tNil)) σ H (.int (ds.length : Int)) := fun H1 a Q q =>
  h H1 a _ fun p xs H2 e2 hs ht => by
    refine ⟨p, xs, rfl, Or.inl hs, ?_⟩
    rw [ht.length]
    exact q _ H2 e2 (.int _)
theorem ed_andV {a b : Bool} (h1 : EvD K ta σ H (.bool a)) (h2 : a = true → EvD K tb σ H (.bool b)) : EvD K (tAndV ta tb) σ H (.bool (a && b)) := ed_b (ev_andV h1.bv fun q => (h2 q).bv)
theorem ed_orV {a b : Bool} (h1 : EvD K ta σ H (.bool a)) (h2 : a = false → EvD K tb σ H (.bool b)) : EvD K (tOrV ta tb) σ H (.bool (a || b)) := ed_b (ev_orV h1.bv fun q => (h2 q).bv)
theorem ed_andF (h1 : EvD K ta σ H (.bool false)) : EvD K (tAndV ta tb) σ H (.bool false) := fun H1 a Q q => h1.bv H1 a _ fun H2 e2 => ⟨false, rfl, (show Q (.bl false) H2 from q _ H2 e2 (.bl _))⟩
theorem ed_orT (h1 : EvD K ta σ H (.bool true)) : EvD K (tOrV ta tb) σ H (.bool true) := fun H1 a Q q => h1.bv H1 a _ fun H2 e2 => ⟨true, rfl, (show Q (.bl true) H2 from q _ H2 e2 (.bl _))⟩
theorem tk_andF (h1 : EvTK K t σ H false) : EvTK K (tAnd t u) σ H false := et_and (b := false) h1 fun q => nomatch q
theorem tk_orT (h1 : EvTK K t σ H true) : EvTK K (tOr t u) σ H true := et_or (b := true) h1 fun q => nomatch q
theorem tk_and {a b : Bool} (h1 : EvTK K t σ H a) (h2 : a = true → EvTK K u σ H b) : EvTK K (tAnd t u) σ H (a && b) := et_and h1 h2
theorem tk_or {a b : Bool} (h1 : EvTK K t σ H a) (h2 : a = false → EvTK K u σ H b) : EvTK K (tOr t u) σ H (a || b) := et_or h1 h2
theorem tk_not {a : Bool} (h1 : EvTK K t σ H a) : EvTK K (tNot t) σ H (!a) := et_not h1
theorem tk_notT (h1 : EvTK K t σ H true) : EvTK K (tNot t) σ H false := et_not h1
theorem tk_notF (h1 : EvTK K t σ H false) : EvTK K (tNot t) σ H true := et_not h1
theorem tk_yes : EvTK K tYes σ H true := fun H1 _ _ q => q H1 (Ex.refl H1)
theorem tk_is {a b : Bool} (h : EvTK K t σ H a) (e : a = b) : EvTK K t σ H b := e ▸ h
theorem ed_ifT (h : EvTK K t σ H true) (h1 : EvD K ta σ H d) : EvD K (tIf t ta tb) σ H d := fun H1 a Q q => h H1 a _ fun H2 e2 => h1 H2 (a.trans e2) Q fun v H3 e3 => q v H3 (e2.trans e3)
theorem ed_ifF (h : EvTK K t σ H false) (h1 : EvD K tb σ H d) : EvD K (tIf t ta tb) σ H d := fun H1 a Q q => h H1 a _ fun H2 e2 => h1 H2 (a.trans e2) Q fun v H3 e3 => q v H3 (e2.trans e3)
theorem ed_notV {a : Bool} (h1 : EvD K ta σ H (.bool a)) : EvD K (tNotV ta) σ H (.bool (!a)) := ed_b (ev_notV h1.bv)
theorem ed_notT (h1 : EvD K ta σ H (.bool true)) : EvD K (tNotV ta) σ H (.bool false) := ed_notV h1
theorem ed_notF (h1 : EvD K ta σ H (.bool false)) : EvD K (tNotV ta) σ H (.bool true) := ed_notV h1
theorem ed_if {b : Bool} (h : EvTK K t σ H b) (h1 : b = true → EvD K ta σ H d) (h2 : b = false → EvD K tb σ H d) : EvD K (tIf t ta tb) σ H d := fun H1 a Q q => h H1 a _ fun H2 e2 => by
  cases b with
  | true =>
    show ta σ H2 Q
    exact h1 rfl H2 (a.trans e2) Q fun v H3 e3 => q v H3 (e2.trans e3)
  | false =>
    show tb σ H2 Q
    exact h2 rfl H2 (a.trans e2) Q fun v H3 e3 => q v H3 (e2.trans e3)
theorem tk_v {b : Bool} (h : EvD K te σ H (.bool b)) : EvTK K (tTest te) σ H b := et_test h.bv
theorem tk_vB {b : Bool} (h : EvD K te σ H (.bool b)) : EvTK K (tB te) σ H b := et_B h.bv
/-- a < b < c -/
theorem ed_chain {g g' : Int → Int → Bool} (ha : EvD K ta σ H (.int i)) (hb : EvD K tb σ H (.int j)) (hc : g i j = true → EvD K tx σ H (.int k)) :
    EvD K (tChain (rI0 fun i j => .bl (g i j)) (rI0 fun i j => .bl (g' i j)) ta tb tx) σ H (.bool (g i j && g' j k)) := fun H1 a Q q =>
  ha.iv H1 a _ fun H2 e2 => hb.iv H2 (a.trans e2) _ fun H3 e3 => ⟨i, j, rfl, rfl, g i j, rfl, by
    cases hg : g i j with
    | true =>
      rw [if_pos rfl]
      rw [hg] at q
      exact (hc hg).iv H3 ((a.trans e2).trans e3) _ fun H4 e4 => ⟨j, k, rfl, rfl, q _ H4 ((e2.trans e3).trans e4) (.bl _)⟩
    | false =>
      rw [if_neg Bool.false_ne_true]
      rw [hg] at q
      exact q _ H3 (e2.trans e3) (.bl _)⟩
/-- is None -/
def noneD : PyData → Bool
  | .none => true
  | _ => false
theorem ed_isN (ha : EvD K ta σ H d) : EvD K (tIsN ta) σ H (.bool (noneD d)) := fun H1 a Q q => ha H1 a _ fun v H2 e2 t2 => by
  have e : decide (v = .non) = noneD d := by cases t2 <;> simp [noneD]
  rw [e]
  exact q _ H2 e2 (.bl _)
theorem ed_notN (ha : EvD K ta σ H d) : EvD K (tNotN ta) σ H (.bool (!noneD d)) := fun H1 a Q q => ha H1 a _ fun v H2 e2 t2 => by
  have e : decide (v = .non) = noneD d := by cases t2 <;> simp [noneD]
  rw [e]
  exact q _ H2 e2 (.bl _)
/-! flat data within a sequence -/
def flatD : PyData → Bool
  | .none | .bool _ | .int _ | .str _ => true
  | _ => false
theorem flat_td (h : Td K H v d) (f : flatD d = true) : flatV v = true := by cases h <;> first | rfl | cases f
theorem eqV_td {v w : V} (h : Td K H v d) (g : Td K H w e) (f : flatD d = true) (f2 : flatD e = true) : eqV v w = PyData.eqv d e := by
  cases h <;> cases g <;> first | rfl | cases f | cases f2 | simp [eqV, PyData.eqv]
theorem flatAll_td : ∀ {es : List PyData} {vs : List V}, TdAll K H vs es → es.all flatD = true → vs.all flatV = true
  | [], _, h, _ => by cases h; rfl
  | e :: es, _, h, f => by
    cases h with
    | cons a b =>
      simp only [List.all_cons, Bool.and_eq_true] at f ⊢
      exact ⟨flat_td a f.1, flatAll_td b f.2⟩
theorem inV_td : ∀ {es : List PyData} {vs : List V} {v : V}, TdAll K H vs es → Td K H v d → flatD d = true → es.all flatD = true → inV v vs = es.any fun z => PyData.eqv z d
  | [], _, _, h, _, _, _ => by cases h; rfl
  | e :: es, _, _, h, t, f, f2 => by
    cases h with
    | cons a b =>
      simp only [List.all_cons, Bool.and_eq_true] at f2
      have ih := inV_td b t f f2.2
      unfold inV at ih ⊢
      rw [List.any_cons, List.any_cons, ih, eqV_td a t f2.1 f]
theorem ed_inT (ha : EvD K ta σ H d) (hb : EvD K tb σ H (.tuple es)) (fd : flatD d = true) (fe : es.all flatD = true) : EvD K (tOp (rIn K false) ta tb) σ H (.bool (es.any fun z => PyData.eqv z d)) := fun H1 a Q q =>
  ha H1 a _ fun v H2 e2 t2 => hb H2 (a.trans e2) _ fun w H3 e3 t3 => by
    obtain ⟨p, xs, rfl, hs, hall⟩ := t3.tup_inv
    refine ⟨p, xs, rfl, .inr hs, flat_td t2 fd, flatAll_td hall fe, ?_⟩
    show Q (.bl (inV v xs)) H3
    rw [inV_td hall (t2.ex e3) fd fe]
    exact q _ H3 (e2.trans e3) (.bl _)
theorem ed_niT (ha : EvD K ta σ H d) (hb : EvD K tb σ H (.tuple es)) (fd : flatD d = true) (fe : es.all flatD = true) : EvD K (tOp (rIn K true) ta tb) σ H (.bool (!es.any fun z => PyData.eqv z d)) := fun H1 a Q q =>
  ha H1 a _ fun v H2 e2 t2 => hb H2 (a.trans e2) _ fun w H3 e3 t3 => by
    obtain ⟨p, xs, rfl, hs, hall⟩ := t3.tup_inv
    refine ⟨p, xs, rfl, .inr hs, flat_td t2 fd, flatAll_td hall fe, ?_⟩
    show Q (.bl (!inV v xs)) H3
    rw [inV_td hall (t2.ex e3) fd fe]
    exact q _ H3 (e2.trans e3) (.bl _)
/-! isinstance -/
def tyD : PyData → String
  | .none => "NoneType"
  | .bool _ => "bool"
  | .int _ => "int"
  | .str _ => "str"
  | .list _ => "list"
  | .tuple _ => "tuple"
  | .dict _ => "dict"
theorem tyx_td (h : Td K H v d) : TyX K H v (.type (tyD d)) := by
  cases h with
  | non => exact .base .non
  | bl b => exact .base (.bl b)
  | int i => exact .base (.int i)
  | str x => exact .base (.str x)
  | tup hs _ =>
    rcases hs with (hs | ⟨o, hs⟩) | ⟨o, its, n, hk, hc, _⟩
    · exact .base (.tup hs)
    · exact .fTuple hs
    · exact .kTuple hk hc
theorem ed_isi {b : Bool} {n : String} (ha : EvD K ta σ H d) (hk : kitB (tyD d) n = some b) : EvD K (tCB (rIsi K) (tCons ta (tCons (tC (.ty n)) tNil))) σ H (.bool b) := fun H1 a Q q =>
  ha H1 a _ fun v H2 e2 t2 => ⟨v, .ty n, _, _, b, rfl, .ty n, tyx_td t2, kit_ty hk, q _ H2 e2 (.bl _)⟩
/-! == of data of any depth, where one of both is not deep -/
def rEqM (K : PySem.W.Frag) : R2 := fun x y H Q => ∃ d e, Dp K H x d ∧ Dp K H y e ∧ d.canLay0 = true ∧ e.canLay0 = true ∧ min d.depth e.depth ≤ 64 ∧ Q (.bl (PyData.eqv d e)) H
def rNeM (K : PySem.W.Frag) : R2 := fun x y H Q => ∃ d e, Dp K H x d ∧ Dp K H y e ∧ d.canLay0 = true ∧ e.canLay0 = true ∧ min d.depth e.depth ≤ 64 ∧ Q (.bl (!PyData.eqv d e)) H
theorem op_eqM {X : Cx} (hu : X.A.units + 64 < cLine) : OpR X (compareOp .Eq) (rEqM X.K) := by
  intro pins s σ H x y v u Q I rx ry h
  obtain ⟨d, e, hd, he, sd, se, hm, q⟩ := h
  obtain ⟨as, r1⟩ := Dp.reads I d x v hd rx
  obtain ⟨bs, r2⟩ := Dp.reads I e y u he ry
  exact SeqAt.compareEq_reads r1 r2 sd se (by omega) ⟨.bl _, H, I, rfl, q⟩
theorem op_neM {X : Cx} (hu : X.A.units + 64 < cLine) : OpR X (compareOp .NotEq) (rNeM X.K) := by
  intro pins s σ H x y v u Q I rx ry h
  obtain ⟨d, e, hd, he, sd, se, hm, q⟩ := h
  obtain ⟨as, r1⟩ := Dp.reads I d x v hd rx
  obtain ⟨bs, r2⟩ := Dp.reads I e y u he ry
  exact SeqAt.compareNe_reads r1 r2 sd se (by omega) ⟨.bl _, H, I, rfl, q⟩
theorem ed_eqM (ha : EvD K ta σ H d) (hb : EvD K tb σ H e) (sd : d.canLay0 = true) (se : e.canLay0 = true) (hm : min d.depth e.depth ≤ 64) : EvD K (tOp (rEqM K) ta tb) σ H (.bool (PyData.eqv d e)) := fun H1 a Q q =>
  ha H1 a _ fun v H2 e2 t2 => hb H2 (a.trans e2) _ fun w H3 e3 t3 => ⟨d, e, (t2.ex e3).dp, t3.dp, sd, se, hm, q _ H3 (e2.trans e3) (.bl _)⟩
theorem ed_neM (ha : EvD K ta σ H d) (hb : EvD K tb σ H e) (sd : d.canLay0 = true) (se : e.canLay0 = true) (hm : min d.depth e.depth ≤ 64) : EvD K (tOp (rNeM K) ta tb) σ H (.bool (!PyData.eqv d e)) := fun H1 a Q q =>
  ha H1 a _ fun v H2 e2 t2 => hb H2 (a.trans e2) _ fun w H3 e3 t3 => ⟨d, e, (t2.ex e3).dp, t3.dp, sd, se, hm, q _ H3 (e2.trans e3) (.bl _)⟩
/-- a text on the right -/
theorem ed_eqS {s : Str} (ha : EvD K ta σ H d) (hb : EvD K tb σ H (.str s)) (sd : d.canLay0 = true) (ss : (PyData.str s).canLay0 = true) : EvD K (tOp (rEqM K) ta tb) σ H (.bool (PyData.eqv d (.str s))) := ed_eqM ha hb sd ss (by simp [PyData.depth])
theorem ed_neS {s : Str} (ha : EvD K ta σ H d) (hb : EvD K tb σ H (.str s)) (sd : d.canLay0 = true) (ss : (PyData.str s).canLay0 = true) : EvD K (tOp (rNeM K) ta tb) σ H (.bool (!PyData.eqv d (.str s))) := ed_neM ha hb sd ss (by simp [PyData.depth])
/-- a list of data and the empty list -/
theorem ed_eqN (ha : EvDR K ta σ H ds) (hb : EvDL K tb σ H []) (sd : PyData.canLayAll0 ds = true) : EvD K (tOp (rEqM K) ta tb) σ H (.bool ds.isEmpty) := fun H1 a Q q =>
  ha H1 a _ fun p xs H2 e2 hs ht => hb H2 (a.trans e2) _ fun w ys H3 _ e3 hw hy => by
    refine ⟨.list ds, .list [], .lst (ex_l e3 hs) (ht.ex e3).dp, .lst (SqL.of hw) hy.dp, (show PyData.canLay0 (.list ds) = true by simpa [PyData.canLay0] using sd), rfl, by simp [PyData.depth, PyData.depthAll], ?_⟩
    have e : PyData.eqv (.list ds) (.list []) = ds.isEmpty := by cases ds <;> simp [PyData.eqv, PyData.eqvAll]
    rw [e]
    exact q _ H3 (e2.trans e3) (.bl _)
theorem ed_neN (ha : EvDR K ta σ H ds) (hb : EvDL K tb σ H []) (sd : PyData.canLayAll0 ds = true) : EvD K (tOp (rNeM K) ta tb) σ H (.bool (!ds.isEmpty)) := fun H1 a Q q =>
  ha H1 a _ fun p xs H2 e2 hs ht => hb H2 (a.trans e2) _ fun w ys H3 _ e3 hw hy => by
    refine ⟨.list ds, .list [], .lst (ex_l e3 hs) (ht.ex e3).dp, .lst (SqL.of hw) hy.dp, (show PyData.canLay0 (.list ds) = true by simpa [PyData.canLay0] using sd), rfl, by simp [PyData.depth, PyData.depthAll], ?_⟩
    have e : PyData.eqv (.list ds) (.list []) = ds.isEmpty := by cases ds <;> simp [PyData.eqv, PyData.eqvAll]
    rw [e]
    exact q _ H3 (e2.trans e3) (.bl _)
/-! slices, + -/
def cutD (ds : List PyData) (lo hi : Option Int) : List PyData := (ds.drop (HT.sIx ds.length 0 lo)).take (HT.sIx ds.length ds.length hi - HT.sIx ds.length 0 lo)
theorem TdAll.cut {vs : List V} (h : TdAll K H vs ds) (lo hi : Option Int) : TdAll K H (cutV vs lo hi) (cutD ds lo hi) := by
  unfold cutV cutD
  rw [h.length]
  exact (h.drop _).take _
def EvOK (_ : PySem.W.Frag) (to : TO) (σ : L2.St) (H : Hp) (o : Option Int) : Prop := EvO to σ H o
theorem eok_some (h : EvD K te σ H (.int i)) : EvOK K (tPart te) σ H (some i) := eo_some h.iv
theorem eok_none : EvOK K tNoPart σ H none := eo_none
theorem ed_sl {tl th : TO} {lo hi : Option Int} (h : EvD K te σ H (.tuple ds)) (h1 : EvOK K tl σ H lo) (h2 : EvOK K th σ H hi) : EvD K (tSl (rSlA K) te tl th) σ H (.tuple (cutD ds lo hi)) := fun H1 a Q q =>
  h H1 a _ fun v H2 e2 t2 => by
    obtain ⟨p, xs, rfl, hs, hall⟩ := t2.tup_inv
    refine h1 H2 (a.trans e2) _ fun H3 e3 => h2 H3 ((a.trans e2).trans e3) _ fun H4 e4 => ?_
    have hs4 := ex_t (e3.trans e4) hs
    have ha4 := hall.ex (e3.trans e4)
    refine ⟨p, xs, rfl, hs4, fun hw => ?_, fun _ n hn => ?_⟩
    · refine q _ H4 ((e2.trans e3).trans e4) ?_
      have hl := hall.length
      have e : cutD ds lo hi = ds := by
        unfold cutD
        rw [← hl, hw.1, hw.2, List.drop_zero, hl]
        simp
      rw [e]
      exact .tup hs4 ha4
    · exact q _ _ (((e2.trans e3).trans e4).trans (Ex.new hn)) (.tup (SqT.of upd_same) ((ha4.cut lo hi).ex (Ex.new hn)))
theorem ed_cat (ha : EvD K ta σ H (.tuple ds)) (hb : EvD K tb σ H (.tuple es)) (hl : ds.length + es.length ≤ 100000) : EvD K (tOp (rCatA K) ta tb) σ H (.tuple (ds ++ es)) := fun H1 a Q q =>
  ha H1 a _ fun v H2 e2 t2 => hb H2 (a.trans e2) _ fun w H3 e3 t3 => by
    obtain ⟨p, xs, rfl, hs, hall⟩ := t2.tup_inv
    obtain ⟨p2, ys, rfl, hs2, hall2⟩ := t3.tup_inv
    have l1 := hall.length
    have l2 := hall2.length
    refine ⟨p, p2, xs, ys, rfl, rfl, ex_t e3 hs, hs2, sz_of (by omega), fun hx => ?_, fun _ hy => ?_, fun _ _ n hn => ?_⟩
    · subst hx
      cases hall
      exact q _ H3 (e2.trans e3) (.tup hs2 hall2)
    · subst hy
      cases hall2
      rw [List.append_nil] at q
      exact q _ H3 (e2.trans e3) (.tup (ex_t e3 hs) (hall.ex e3))
    · exact q _ _ ((e2.trans e3).trans (Ex.new hn)) (.tup (SqT.of upd_same) (((hall.ex e3).append hall2).ex (Ex.new hn)))
/-- tuple(a list of data) -/
def rTupS (K : PySem.W.Frag) : List V → Hp → VK → Prop := fun xs H Q => ∃ p ys, xs = [.ref p] ∧ ((SqL K H p ys ∧ ∀ l, H l = none → Q (.ref l) (upd H l (.tup ys))) ∨ (SqT K H p ys ∧ Q (.ref p) H))
theorem ed_tupL (h : EvDR K ta σ H ds) : EvD K (tCB (rTupS K) (tCons ta tNil)) σ H (.tuple ds) := fun H1 a Q q =>
  h H1 a _ fun p xs H2 e2 hs ht => ⟨p, xs, rfl, .inl ⟨hs, fun l hl => q _ _ (e2.trans (Ex.new hl)) (.tup (SqT.of upd_same) (ht.ex (Ex.new hl)))⟩⟩
theorem edl_lstT (h : EvD K ta σ H (.tuple ds)) : EvDL K (tCB (rListS K) (tCons ta tNil)) σ H ds := fun H1 a Q q =>
  h H1 a _ fun v H2 e2 t2 => by
    obtain ⟨p, xs, rfl, hs, hall⟩ := t2.tup_inv
    exact ⟨p, xs, rfl, .inr hs, fun l hl => q l xs _ (fresh_back e2 hl) (e2.trans (Ex.new hl)) upd_same (hall.ex (Ex.new hl))⟩
/-- sum of a list of ints -/
theorem td_ints : ∀ {ns : List Int} {xs : List V}, TdAll K H xs (ns.map PyData.int) → xs = ns.map V.int
  | [], _, h => by cases h; rfl
  | n :: ns, _, h => by
    cases h with
    | cons a b => cases a; rw [td_ints b]; rfl
theorem ed_sum {ns : List Int} (h : EvDR K ta σ H (ns.map PyData.int)) : EvD K (tCB (rSum K) (tCons ta tNil)) σ H (.int ns.sum) := fun H1 a Q q =>
  h H1 a _ fun p xs H2 e2 hs ht => ⟨p, ns, rfl, by rw [← td_ints ht]; exact hs, q _ H2 e2 (.int _)⟩
/-! constants of the top -/
theorem pe_gint {X : Cx} {x : Str} {i : Int} {pos : Pos} (hg : Gl X x) (hm : ∃ t, X.mg x = some (.int i t)) (hd : (x == ("__debug__" : Str)) = false := by decide) : PE X (.Name x pos) (tC (.int i)) := by
  obtain ⟨t, ht⟩ := hm
  exact pe_glob hg ht ⟨_, rfl⟩ hd
theorem pe_gstr {X : Cx} {x z : Str} {pos : Pos} (hg : Gl X x) (hm : ∃ t, X.mg x = some (.str z t)) (hd : (x == ("__debug__" : Str)) = false := by decide) : PE X (.Name x pos) (tC (.str z)) := by
  obtain ⟨t, ht⟩ := hm
  exact pe_glob hg ht ⟨_, rfl⟩ hd
/-! calls -/
def spF (K : PySem.W.Frag) (P : List PyData → PyData → Prop) : Sp := fun vs H Q _ => ∃ ds d, TdAll K H vs ds ∧ P ds d ∧ ∀ v H', Ex H H' → Td K H' v d → Q v H'
theorem ed_call {P : List PyData → PyData → Prop} {E : XK} {ta : TA} (h : EvDA K ta σ H ds) (hp : P ds d) : EvD K (tCall (spF K P) [] E ta) σ H d := fun H1 a Q q =>
  h H1 a _ fun vs H2 e2 t2 => by
    rw [List.append_nil]
    exact ⟨ds, d, t2, hp, fun v H3 e3 t3 => q v H3 (e2.trans e3) t3⟩
theorem spF_len {P : List PyData → PyData → Prop} {n : Nat} (h : ∀ ds d, P ds d → ds.length = n) (vs : List V) (H : Hp) (Q : VK) (E : XK) (q : spF K P vs H Q E) : vs.length = n := by
  obtain ⟨ds, d, ht, hp, _⟩ := q
  rw [ht.length, h ds d hp]
/-- a promise that asks what can't be -/
theorem fn_vac {P : Program} {w : World} {mg : Str → Option Value} {base : Heap} {CX : CXT} {k : Nat} {f : Addr} {fd : FuncData} {ps : List Str} {sp : Sp} (no : ∀ vs H Q E, ¬ sp vs H Q E) : FnOk P w K mg base CX k f fd ps sp :=
  ⟨fun vs H Q E h => absurd h (no vs H Q E), fun A outer s H args us vs Q E _ _ _ _ h => absurd h (no vs H Q E)⟩
end
end Hw

set_option maxRecDepth 100000
set_option maxHeartbeats 4000000
/-! W2: comprehensions and loops over data -/
namespace Hw
open PySem PySem.Spec PyProof.Rows L2 Evl
section
variable {K : PySem.W.Frag} {σ : L2.St} {H H' : Hp} {ta tb te tx : TE} {t u : TT} {x y z v : V} {d e f : PyData} {ds es : List PyData} {i j k : Int}
/-- what a comprehension has made so far -/
def Cd (K : PySem.W.Frag) (H : Hp) (Dl : Addr) (es : List PyData) (H' : Hp) : Prop := H Dl = none ∧ Ex H H' ∧ ∃ acc, H' Dl = some (.lst acc) ∧ TdAll K H' acc es
theorem cd_step {Dl : Addr} {b : Bool} {e : PyData} {H' : Hp} {σ2 : L2.St} (p : Cd K H Dl es H') (hl : es.length < 50000) (ht : EvTK K t σ2 H b) (he : b = true → EvD K te σ2 H e) :
    t σ2 H' fun c H3 => if c = true then te σ2 H3 fun y H4 => ∃ acc, H4 Dl = some (.lst acc) ∧ acc.length < sizeLine ∧ Cd K H Dl (if b then es ++ [e] else es) (upd H4 Dl (.lst (acc ++ [y]))) else Cd K H Dl (if b then es ++ [e] else es) H3 := by
  obtain ⟨p1, p2, acc, p3, p4⟩ := p
  refine ht H' p2 _ fun H3 e3 => ?_
  cases b with
  | true =>
    rw [if_pos rfl]
    refine he rfl H3 (p2.trans e3) _ fun v H4 e4 t4 => ⟨acc, e4 Dl _ (e3 Dl _ p3), by rw [p4.length]; exact sz_lt (by omega), p1, Ex.mut ((p2.trans e3).trans e4) p1, acc ++ [v], upd_same, ?_⟩
    have k : Keep K H4 (upd H4 Dl (.lst (acc ++ [v]))) := Keep.upd (e4 Dl _ (e3 Dl _ p3)) True.intro
    exact ((p4.ex (e3.trans e4)).kp k).snoc (t4.kp k)
  | false =>
    rw [if_neg Bool.false_ne_true]
    exact ⟨p1, p2.trans e3, acc, e3 Dl _ p3, p4.ex e3⟩
theorem filt_snoc {α : Type} {xs : List α} {p : α → Bool} {g : α → PyData} {n : Nat} {d : α} (h : xs[n]? = some d) : ((xs.take (n + 1)).filter p).map g = if p d then ((xs.take n).filter p).map g ++ [g d] else ((xs.take n).filter p).map g := by
  rw [List.take_add_one, h]
  simp only [Option.toList_some, List.filter_append, List.map_append, List.filter_cons, List.filter_nil]
  split <;> simp
theorem filt_len {α : Type} {xs : List α} {p : α → Bool} {g : α → PyData} (n : Nat) : (((xs.take n).filter p).map g).length ≤ xs.length := by
  rw [List.length_map]
  refine Nat.le_trans (List.length_filter_le _ _) ?_
  rw [List.length_take]
  omega
/-- [e for x in a tuple if t], the items told as xs.map f -/
theorem edl_lcM {α : Type} {tl : TE} {j : Nat} {vs : List Nat} (xs : List α) (f : α → PyData) (p : α → Bool) (g : α → PyData) (h : EvD K tl σ H (.tuple ds)) (hds : ds = xs.map f) (hz : xs.length ≤ 40000) (hw : ∀ x, wipe ((wipe σ vs).set j (some x)) vs = wipe σ vs)
    (ht : ∀ (x : α) (v : V) H1, Ex H H1 → x ∈ xs → Td K H1 v (f x) → EvTK K t ((wipe σ vs).set j (some v)) H1 (p x))
    (he : ∀ (x : α) (v : V) H1, Ex H H1 → x ∈ xs → p x = true → Td K H1 v (f x) → EvD K te ((wipe σ vs).set j (some v)) H1 (g x)) :
    EvDL K (tLc (iTup K tl) (gName j) t te vs) σ H ((xs.filter p).map g) := fun H0 e Q q => h H0 e _ fun w H1 e1 tw => by
  obtain ⟨a, ys, rfl, hx, hall⟩ := tw.tup_inv
  subst hds
  refine ⟨a, rfl, ⟨ys, hx⟩, fun Dl hD => ?_⟩
  refine lc_tup (xs := ys) (fun i H' => Cd K H1 Dl (((xs.take i).filter p).map g) H') ⟨hD, Ex.new hD, [], upd_same, by simpa using TdAll.nil⟩ (fun i H' _ c => ex_t c.2.1 hx) (fun i x H' hi c => ⟨hw x, ?_⟩) (fun H' c => ?_)
  · obtain ⟨d, hd, td⟩ := hall.getV hi
    rw [List.getElem?_map] at hd
    obtain ⟨z, hz2, rfl⟩ := Option.map_eq_some_iff.mp hd
    have hm : z ∈ xs := List.mem_of_getElem? hz2
    have := cd_step (te := te) (e := g z) c (by have := filt_len (xs := xs) (p := p) (g := g) i; omega) (ht z x H1 (e.trans e1) hm td) (fun hb => he z x H1 (e.trans e1) hm hb td)
    rw [filt_snoc hz2]
    exact this
  · obtain ⟨c1, c2, acc, c3, c4⟩ := c
    rw [hall.length, List.length_map, List.take_length] at c4
    exact q Dl acc H' (fresh_back e1 c1) (e1.trans c2) c3 c4
theorem edl_lcML {α : Type} {tl : TE} {j : Nat} {vs : List Nat} (xs : List α) (f : α → PyData) (p : α → Bool) (g : α → PyData) (h : EvDR K tl σ H ds) (hds : ds = xs.map f) (hz : xs.length ≤ 40000) (hw : ∀ x, wipe ((wipe σ vs).set j (some x)) vs = wipe σ vs)
    (ht : ∀ (x : α) (v : V) H1, Ex H H1 → x ∈ xs → Td K H1 v (f x) → EvTK K t ((wipe σ vs).set j (some v)) H1 (p x))
    (he : ∀ (x : α) (v : V) H1, Ex H H1 → x ∈ xs → p x = true → Td K H1 v (f x) → EvD K te ((wipe σ vs).set j (some v)) H1 (g x)) :
    EvDL K (tLc (iList K tl) (gName j) t te vs) σ H ((xs.filter p).map g) := fun H0 e Q q => h H0 e _ fun a ys H1 e1 hx hall => by
  subst hds
  refine ⟨a, rfl, ⟨ys, hx⟩, fun Dl hD => ?_⟩
  refine lc_list (xs := ys) (fun i H' => Cd K H1 Dl (((xs.take i).filter p).map g) H') ⟨hD, Ex.new hD, [], upd_same, by simpa using TdAll.nil⟩ (fun i H' _ c => ex_l c.2.1 hx) (fun i x H' hi c => ⟨hw x, ?_⟩) (fun H' c => ?_)
  · obtain ⟨d, hd, td⟩ := hall.getV hi
    rw [List.getElem?_map] at hd
    obtain ⟨z, hz2, rfl⟩ := Option.map_eq_some_iff.mp hd
    have hm : z ∈ xs := List.mem_of_getElem? hz2
    have := cd_step (te := te) (e := g z) c (by have := filt_len (xs := xs) (p := p) (g := g) i; omega) (ht z x H1 (e.trans e1) hm td) (fun hb => he z x H1 (e.trans e1) hm hb td)
    rw [filt_snoc hz2]
    exact this
  · obtain ⟨c1, c2, acc, c3, c4⟩ := c
    rw [hall.length, List.length_map, List.take_length] at c4
    exact q Dl acc H' (fresh_back e1 c1) (e1.trans c2) c3 c4
def rngD (n : Nat) : List PyData := (List.range n).map fun i => PyData.int ((i : Nat) : Int)
theorem rngD_length (n : Nat) : (rngD n).length = n := by simp [rngD]
theorem rngD_get {n i : Nat} (h : i < n) : (rngD n)[i]? = some (.int (i : Int)) := by
  unfold rngD
  rw [List.getElem?_map, List.getElem?_range h]
  rfl
theorem edl_lcR {ta : TA} {j : Nat} {vs : List Nat} {n : Nat} (p : Nat → Bool) (g : Nat → PyData) (h : EvDA K ta σ H [.int (n : Int)]) (hz : n ≤ 40000) (hw : ∀ x, wipe ((wipe σ vs).set j (some x)) vs = wipe σ vs)
    (ht : ∀ (i : Nat) H1, Ex H H1 → i < n → EvTK K t ((wipe σ vs).set j (some (.int (i : Int)))) H1 (p i))
    (he : ∀ (i : Nat) H1, Ex H H1 → i < n → p i = true → EvD K te ((wipe σ vs).set j (some (.int (i : Int)))) H1 (g i)) :
    EvDL K (tLc (iRng1 ta) (gName j) t te vs) σ H (((List.range n).filter p).map g) := fun H0 e Q q => h H0 e _ fun ws H1 e1 tw => by
  cases tw with
  | cons tw1 tw2 =>
    cases tw1
    cases tw2
    refine ⟨(n : Int), rfl, by omega, by omega, fun Dl hD => ?_⟩
    have en : ((n : Int)).toNat = n := by simp
    rw [en]
    refine lc_range (lo := 0) (n := n) (fun i H' => Cd K H1 Dl (((List.range i).filter p).map g) H') ⟨hD, Ex.new hD, [], upd_same, by simpa using TdAll.nil⟩ (fun i H' hi c => ?_) (fun H' c => ?_)
    · have e0 : (0 : Int) + (i : Int) = (i : Int) := Int.zero_add _
      show wipe ((wipe σ vs).set j (some (.int ((0 : Int) + (i : Int))))) vs = wipe σ vs ∧ _
      rw [e0]
      refine ⟨hw _, ?_⟩
      have hlen : (((List.range i).filter p).map g).length < 50000 := by
        rw [List.length_map]
        have := List.length_filter_le p (List.range i)
        rw [List.length_range] at this
        omega
      have := cd_step (te := te) (e := g i) c hlen (ht i H1 (e.trans e1) hi) (fun hb => he i H1 (e.trans e1) hi hb)
      have es : ((List.range (i + 1)).filter p).map g = if p i then ((List.range i).filter p).map g ++ [g i] else ((List.range i).filter p).map g := by
        rw [List.range_succ, List.filter_append, List.map_append, List.filter_cons]
        split <;> simp
      rw [es]
      exact this
    · obtain ⟨c1, c2, acc, c3, c4⟩ := c
      exact q Dl acc H' (fresh_back e1 c1) (e1.trans c2) c3 c4

/-! ### statements -/
variable {D : Ends} {tu tw tz : TS} {g : TG}
theorem sd_asg {i : Nat} (h : EvD K te σ H d) (k : ∀ v H1, Ex H H1 → Td K H1 v d → D.nx (σ.set i (some v)) H1) : tAsg te (gName i) D σ H := h H (Ex.refl H) _ fun v H1 e t => k v H1 e t
theorem qd_asg {i : Nat} (h : EvD K te σ H d) (k : ∀ v H1, Ex H H1 → Td K H1 v d → tz D (σ.set i (some v)) H1) : tSeq (tAsg te (gName i)) tz D σ H := sd_asg (D := { D with nx := tz D }) h k
theorem sd_asgL {i : Nat} (h : EvDL K te σ H ds) (k : ∀ p xs H1, H p = none → Ex H H1 → H1 p = some (.lst xs) → TdAll K H1 xs ds → D.nx (σ.set i (some (.ref p))) H1) : tAsg te (gName i) D σ H := h H (Ex.refl H) _ fun p xs H1 hp e h1 t => k p xs H1 hp e h1 t
theorem qd_asgL {i : Nat} (h : EvDL K te σ H ds) (k : ∀ p xs H1, H p = none → Ex H H1 → H1 p = some (.lst xs) → TdAll K H1 xs ds → tz D (σ.set i (some (.ref p))) H1) : tSeq (tAsg te (gName i)) tz D σ H := sd_asgL (D := { D with nx := tz D }) h k
theorem sd_ret (h : EvD K te σ H d) (k : ∀ v H1, Ex H H1 → Td K H1 v d → D.rt v H1) : tRet te D σ H := h H (Ex.refl H) _ k
theorem sd_retL (h : EvDL K te σ H ds) (k : ∀ p xs H1, H p = none → Ex H H1 → H1 p = some (.lst xs) → TdAll K H1 xs ds → D.rt (.ref p) H1) : tRet te D σ H := h H (Ex.refl H) _ k
theorem sd_drop (h : EvD K te σ H d) (k : ∀ H1, Ex H H1 → D.nx σ H1) : tDrop te D σ H := h H (Ex.refl H) _ fun _ H1 e _ => k H1 e
/-! from any heap that extends H -/
def Pst (_ : PySem.W.Frag) (t : TS) (D : Ends) (σ : L2.St) (H : Hp) : Prop := ∀ H1, Ex H H1 → t D σ H1
theorem Pst.go {t : TS} (h : Pst K t D σ H) : t D σ H := h H (Ex.refl H)
theorem pst_asg {i : Nat} (h : EvD K te σ H d) (k : ∀ v H1, Ex H H1 → Td K H1 v d → Pst K tz D (σ.set i (some v)) H1) : Pst K (tSeq (tAsg te (gName i)) tz) D σ H := fun H1 a => h H1 a _ fun v H2 e t => k v H2 (a.trans e) t H2 (Ex.refl H2)
theorem pst_asg1 {i : Nat} (h : EvD K te σ H d) (k : ∀ v H1, Ex H H1 → Td K H1 v d → D.nx (σ.set i (some v)) H1) : Pst K (tAsg te (gName i)) D σ H := fun H1 a => h H1 a _ fun v H2 e t => k v H2 (a.trans e) t
theorem pst_asgL {i : Nat} (h : EvDL K te σ H ds) (k : ∀ p xs H1, H p = none → Ex H H1 → H1 p = some (.lst xs) → TdAll K H1 xs ds → Pst K tz D (σ.set i (some (.ref p))) H1) : Pst K (tSeq (tAsg te (gName i)) tz) D σ H :=
  fun H1 a => h H1 a _ fun p xs H2 hp e h2 t => k p xs H2 (fresh_back a hp) (a.trans e) h2 t H2 (Ex.refl H2)
theorem pst_ret (h : EvD K te σ H d) (k : ∀ v H1, Ex H H1 → Td K H1 v d → D.rt v H1) : Pst K (tRet te) D σ H := fun H1 a => h H1 a _ fun v H2 e t => k v H2 (a.trans e) t
theorem pst_retL (h : EvDL K te σ H ds) (k : ∀ p xs H1, H p = none → Ex H H1 → H1 p = some (.lst xs) → TdAll K H1 xs ds → D.rt (.ref p) H1) : Pst K (tRet te) D σ H := fun H1 a => h H1 a _ fun p xs H2 hp e h2 t => k p xs H2 (fresh_back a hp) (a.trans e) h2 t
theorem pst_if {b : Bool} (h : EvTK K t σ H b) (h1 : b = true → Pst K tu D σ H) (h2 : b = false → Pst K tw D σ H) : Pst K (tIfS t tu tw) D σ H := fun H1 a => h H1 a _ fun H2 e => by
  cases b with
  | true => exact h1 rfl H2 (a.trans e)
  | false => exact h2 rfl H2 (a.trans e)
theorem pst_when {b : Bool} (h : EvTK K t σ H b) (h1 : b = true → Pst K tu { D with nx := tz D } σ H) (h2 : b = false → Pst K tz D σ H) : Pst K (tSeq (tIfS t tu tNext) tz) D σ H := fun H1 a => h H1 a _ fun H2 e => by
  cases b with
  | true => exact h1 rfl H2 (a.trans e)
  | false => exact h2 rfl H2 (a.trans e)
theorem pst_whenF {b : Bool} (h : EvTK K t σ H b) (hb : b = false) (h2 : Pst K tz D σ H) : Pst K (tSeq (tIfS t tu tNext) tz) D σ H := pst_when h (fun q => by rw [hb] at q; cases q) fun _ => h2
theorem pst_whenT {b : Bool} (h : EvTK K t σ H b) (hb : b = true) (h1 : Pst K tu { D with nx := tz D } σ H) : Pst K (tSeq (tIfS t tu tNext) tz) D σ H := pst_when h (fun _ => h1) fun q => by rw [hb] at q; cases q
theorem pst_drop (h : EvD K te σ H d) (k : Pst K tz D σ H) : Pst K (tSeq (tDrop te) tz) D σ H := fun H1 a => h H1 a _ fun v H2 e _ => k H2 (a.trans e)
/-- a, b, c = e -/
theorem pst_unp3 {i j l : Nat} {d1 d2 d3 : PyData} (h : EvD K te σ H (.tuple [d1, d2, d3]))
    (k : ∀ v1 v2 v3 H1, Ex H H1 → Td K H1 v1 d1 → Td K H1 v2 d2 → Td K H1 v3 d3 → Pst K tz D (((σ.set i (some v1)).set j (some v2)).set l (some v3)) H1) :
    Pst K (tSeq (tAsg te (gTup K 3 (gCons (gName i) (gCons (gName j) (gCons (gName l) gNil))))) tz) D σ H := fun H1 a => h H1 a _ fun v H2 e t => by
  obtain ⟨p, xs, rfl, hs, hall⟩ := t.tup_inv
  obtain _ | ⟨u1, _ | ⟨u2, _ | ⟨u3, _ | _⟩⟩⟩ := hall
  exact ⟨p, _, rfl, hs, rfl, _, _, rfl, _, _, rfl, _, _, rfl, rfl, k _ _ _ H2 (a.trans e) u1 u2 u3 H2 (Ex.refl H2)⟩
/-! a written dict with text keys -/
def EvPs (trs : List (TE × TE)) (σ : L2.St) (H : Hp) (ps : List (V × V)) : Prop := ∀ H1, Ex H H1 → ∀ Q : List (V × V) → Hp → Prop, (∀ H2, Ex H1 H2 → Q ps H2) → tPairs trs σ H1 Q
theorem eps_nil : EvPs [] σ H [] := fun H1 _ _ q => q H1 (Ex.refl H1)
theorem eps_cons {tk tv : TE} {r : List (TE × TE)} {ps : List (V × V)} {x y : V} (h1 : Ev tk σ H x) (h2 : Ev tv σ H y) (h3 : EvPs r σ H ps) : EvPs ((tk, tv) :: r) σ H ((x, y) :: ps) := fun H1 a Q q =>
  h1 H1 a _ fun H2 e2 => h2 H2 (a.trans e2) _ fun H3 e3 => h3 H3 ((a.trans e2).trans e3) _ fun H4 e4 => q H4 ((e2.trans e3).trans e4)
theorem pst_disp {i : Nat} {trs : List (TE × TE)} (kvs : List (Key × V)) (h : EvPs trs σ H (kvs.map fun kv => (kV kv.1, kv.2))) (hl : kvs.length ≤ 15)
    (k : ∀ p H1, H p = none → Ex H H1 → H1 p = some (.dK (mergeK [] kvs)) → Pst K tz D (σ.set i (some (.ref p))) H1) : Pst K (tSeq (tAsg (tDisp trs) (gName i)) tz) D σ H := fun H1 a p hp => by
  refine h _ (a.trans (Ex.new hp)) _ fun H2 e2 => ⟨e2 p _ upd_same, kvs, rfl, hl, ?_⟩
  have hp0 := fresh_back a hp
  exact k p _ hp0 (Ex.mut ((a.trans (Ex.new hp)).trans e2) hp0) upd_same _ (Ex.refl _)
theorem ev_dget {n : Nat} {p : Addr} {kvs : List (Key × V)} {s : Str} {v : V} (hs : σ[n]? = some (some (.ref p))) (hp : H p = some (.dK kvs)) (hk : Ev te σ H (.str s)) (hv : valV kvs (Sum.inr s) = some v) : Ev (tDGet (tVar n) te) σ H v := fun H1 a Q q =>
  ⟨.ref p, hs, hk H1 a _ fun H2 e2 => ⟨p, v, rfl, by
    have := DGet.k (k := Sum.inr s) ((a.trans e2) p _ hp)
    rw [hv] at this
    exact this, q H2 e2⟩⟩
/-- for x in a tuple -/
theorem sd_forT {tl : TE} {j : Nat} (h : EvD K tl σ H (.tuple ds)) (Pv : Nat → L2.St → Hp → Prop) (h0 : ∀ H1, Ex H H1 → Pv 0 σ H1) (hl : ∀ i σ' H', i ≤ ds.length → Pv i σ' H' → ∀ H1, Ex H H1 → Pv 0 σ H1 → Keep K H1 H')
    (hs : ∀ i d v σ' H', ds[i]? = some d → Td K H' v d → Pv i σ' H' → tu { D with nx := Pv (i + 1), ct := Pv (i + 1), bk := D.nx } (σ'.set j (some v)) H') (hd : ∀ σ' H', Pv ds.length σ' H' → D.nx σ' H') : tFor (iTup K tl) (gName j) tu D σ H :=
  h H (Ex.refl H) _ fun v H1 e tv => by
    obtain ⟨a, xs, rfl, hx, hall⟩ := tv.tup_inv
    have hlen := hall.length
    refine ⟨a, rfl, ⟨xs, hx⟩, for_tup Pv (h0 H1 e) (fun i σ' H' hi p => hl i σ' H' (by omega) p H1 e (h0 H1 e) a xs hx) (fun i x σ' H' hi p => ?_) (fun σ' H' p => hd σ' H' (by rw [← hlen]; exact p))⟩
    obtain ⟨d, hdd, td⟩ := hall.getV hi
    have hi' : i < xs.length := (List.getElem?_eq_some_iff.mp hi).1
    exact hs i d x σ' H' hdd (td.kp (hl i σ' H' (by omega) p H1 e (h0 H1 e))) p
end
end Hw

set_option maxRecDepth 100000
set_option maxHeartbeats 4000000
/-! W3: the rules with the written part told (within a comprehension's block it is the same) -/
namespace Hw
open PySem PySem.Spec PyProof.Rows L2 Evl
def rInt1 : List V → Hp → VK → Prop := fun xs H Q => (∃ i, xs = [.int i] ∧ Q (.int i) H) ∨ ∃ k, xs = [.bl k] ∧ Q (.int (if k then 1 else 0)) H
theorem kc_int {X : Cx} : CallR X (.type "int") rInt1 := call_int1
theorem units65 {k : Nat} {A : Around} (r : Room k A) : A.units + 65 < cLine := by have := r.un; omega
section
variable {X : Cx} (K : PySem.W.Frag)
theorem kix_list (h : X.K = K := by rfl) : IxR X (rIxL K) := by subst h; exact ix_list
theorem kix_tup (h : X.K = K := by rfl) : IxR X (rIxT K) := by subst h; exact ix_tup
theorem ksl_list (h : X.K = K := by rfl) : SlR X (rSlL K) := by subst h; exact sl_list
theorem ksl_tup (h : X.K = K := by rfl) : SlR X (rSlA K) := by subst h; exact sl_tupA
theorem kop_cat (h : X.K = K := by rfl) : OpR X (binaryOp .Add) (rCatA K) := by subst h; exact op_catA
theorem kop_in (h : X.K = K := by rfl) : OpR X (compareOp .In) (rIn K false) := by subst h; exact op_in_seq
theorem kop_ni (h : X.K = K := by rfl) : OpR X (compareOp .NotIn) (rIn K true) := by subst h; exact op_notIn_seq
theorem kop_inD (hu : X.A.units + 65 < cLine) (h : X.K = K := by rfl) : OpR X (compareOp .In) (rInD K) := by subst h; exact op_inD hu
theorem kop_niD (hu : X.A.units + 65 < cLine) (h : X.K = K := by rfl) : OpR X (compareOp .NotIn) (rNotInD K) := by subst h; exact op_notInD hu
theorem kop_eq (hu : X.A.units + 64 < cLine) (h : X.K = K := by rfl) : OpR X (compareOp .Eq) (rEqM K) := by subst h; exact op_eqM hu
theorem kop_ne (hu : X.A.units + 64 < cLine) (h : X.K = K := by rfl) : OpR X (compareOp .NotEq) (rNeM K) := by subst h; exact op_neM hu
theorem kc_isi (h : X.K = K := by rfl) : CallR X (.builtin "isinstance") (rIsi K) := by subst h; exact call_isi
theorem kc_isiT (h : X.K = K := by rfl) : CallR X (.builtin "isinstance") (rIsiT K) := by subst h; exact call_isiT
theorem kc_len (h : X.K = K := by rfl) : CallR X (.builtin "len") (rLenS K) := by subst h; exact call_len_seq
theorem kc_list (h : X.K = K := by rfl) : CallR X (.type "list") (rListS K) := by subst h; exact call_list_of
theorem kc_tuple (h : X.K = K := by rfl) : CallR X (.type "tuple") (rTupS K) := by subst h; exact call_tuple_of
theorem kc_sum (h : X.K = K := by rfl) (hc : X.calm = true := by rfl) : CallR X (.builtin "sum") (rSum K) := by subst h; exact cr_sum hc
theorem kpi_list {l tg : Expr} {tl : TE} (hl : PE X l tl) (h : X.K = K := by rfl) : PI X tg l (iList K tl) := by subst h; exact pi_list hl
theorem kpi_tup {l tg : Expr} {tl : TE} (hl : PE X l tl) (h : X.K = K := by rfl) : PI X tg l (iTup K tl) := by subst h; exact pi_tup hl
theorem kpe_fld {e : Expr} {f : Str} {pos : Pos} {ta : TE} (he : PE X e ta) (hb : attributeBase e f X.env (eval e X.env) = eval e X.env := by rfl) (h : X.K = K := by rfl) : PE X (.Attribute e f pos) (tFld K ta f) := by subst h; exact pe_fld he hb
theorem kpg_tup {es : List Expr} {k : Nat} {t : TGs} {n : Nat} {pos : Pos} (hc : X.calm = true) (ht : PGs X es t) (hn : (assignEach es X.env).length = n := by rfl) (hst : (assignEach es X.env).findIdx? (·.1) = none := by rfl) (h : X.K = K := by rfl) : PG X (.Tuple es k pos) (gTup K n t) := by subst h; exact pg_tup hc ht hn hst
theorem kpi_zip {e e2 : Expr} {ta : TA} {p pos tpos : Pos} {elts : List Expr} {kk : Nat} (hg : Gl X "zip") (hm : X.mg "zip" = none) (ha : PA X [e, e2] ta)
    (hs : starEach [e, e2] X.env = (false, eval e X.env) :: starEach [e2] X.env := by rfl) (hpl : (backTo pos (starEach [e2] X.env)).any (·.1) = false := by rfl) (h : X.K = K := by rfl) :
    PI X (.Tuple elts kk tpos) (.Call (.Name "zip" p) [e, e2] [] pos) (RZ.iZipA K ta) := by subst h; exact RZ.pi_zipA hg hm ha hs hpl
end
section
variable {K : PySem.W.Frag} {σ : L2.St} {H H' : Hp} {D : Ends} {tu : TS} {ds es : List PyData}
/-- for a, b in zip(t, u), two tuples of one length; the heap is only added to -/
theorem pst_forZ {α β : Type} {ta : TA} {j l : Nat} (xs : List α) (ys : List β) (f : α → PyData) (g : β → PyData) (h : EvDA K ta σ H [.tuple (xs.map f), .tuple (ys.map g)]) (hl : xs.length = ys.length)
    (Pv : Nat → L2.St → Hp → Prop) (hst : ∀ i σ' H1 H2, Ex H1 H2 → Pv i σ' H1 → Pv i σ' H2) (h0 : Pv 0 σ H)
    (hs : ∀ i x y v u σ' H1, xs[i]? = some x → ys[i]? = some y → Ex H H1 → Td K H1 v (f x) → Td K H1 u (g y) → Pv i σ' H1 →
      ∀ N : L2.St → Hp → Prop, (∀ σ2 H2, Pv (i + 1) σ2 H2 → Ex H1 H2 → N σ2 H2) → Pst K tu { D with nx := N, ct := N, bk := D.nx } ((σ'.set j (some v)).set l (some u)) H1)
    (hd : ∀ σ' H1, Ex H H1 → Pv xs.length σ' H1 → D.nx σ' H1) : Pst K (tFor (RZ.iZipA K ta) (gTup K 2 (gCons (gName j) (gCons (gName l) gNil))) tu) D σ H := fun H1 a => h H1 a _ fun ws H2 e tw => by
  obtain _ | ⟨w1, _ | ⟨w2, _ | _⟩⟩ := tw
  obtain ⟨pa, xa, rfl, ha, alla⟩ := w1.tup_inv
  obtain ⟨pb, xb, rfl, hb, allb⟩ := w2.tup_inv
  have la := alla.length
  have lb := allb.length
  rw [List.length_map] at la lb
  have a2 := a.trans e
  refine ⟨pa, pb, xa, xb, rfl, .inr ⟨ha, hb, RZ.for_zipT (xs := xa) (ys := xb) (by omega) (fun i σ' H' => Pv i σ' H' ∧ Ex H H' ∧ Ex H2 H') ⟨hst _ _ _ _ a2 h0, a2, Ex.refl _⟩ (fun i σ' H' p => ⟨ex_t p.2.2 ha, ex_t p.2.2 hb⟩) (fun i x y T σ' H' hx hy p hT => ?_) (fun σ' H' p => hd σ' H' p.2.1 (by rw [← la]; exact p.1))⟩⟩
  obtain ⟨p1, p2, p3⟩ := p
  obtain ⟨d1, hd1, td1⟩ := alla.getV hx
  obtain ⟨d2, hd2, td2⟩ := allb.getV hy
  rw [List.getElem?_map] at hd1 hd2
  obtain ⟨z1, hz1, rfl⟩ := Option.map_eq_some_iff.mp hd1
  obtain ⟨z2, hz2, rfl⟩ := Option.map_eq_some_iff.mp hd2
  have e4 : Ex H' (upd H' T (.tup [x, y])) := Ex.new hT
  refine ⟨T, [x, y], rfl, SqT.of upd_same, rfl, x, [y], rfl, y, [], rfl, rfl, ?_⟩
  exact (hs i z1 z2 x y σ' (upd H' T (.tup [x, y])) hz1 hz2 (p2.trans e4) (td1.ex (p3.trans e4)) (td2.ex (p3.trans e4)) (hst _ _ _ _ e4 p1) _ fun σ2 H3 q1 q2 => ⟨q1, (p2.trans e4).trans q2, (p3.trans e4).trans q2⟩).go
variable {ta tb te tx : TE} {tz tw : TS} {r s : Addr} {xs : List V} {i j c : Int} {d : PyData} {n : Nat} {v : V}
/-- an int of a list that is known by its values -/
theorem ed_rowI (hs : σ[n]? = some (some (.ref r))) (hr : SqL K H r xs) (hb : EvD K tb σ H (.int i)) (ha : atI xs i = some (.int c)) : EvD K (tOp (rIxL K) (tVar n) tb) σ H (.int c) := ed_i (ev_op (ev_var hs) hb.iv (rv_ixL hr ha))
theorem ev_rowR (hs : σ[n]? = some (some (.ref r))) (hr : SqL K H r xs) (hb : EvD K tb σ H (.int i)) (ha : atI xs i = some v) : Ev (tOp (rIxL K) (tVar n) tb) σ H v := ev_op (ev_var hs) hb.iv (rv_ixL hr ha)
theorem ed_lenV (ha : Ev ta σ H (.ref r)) (hr : SqL K H r xs) : EvD K (tCB (rLenS K) (tCons ta tNil)) σ H (.int (xs.length : Int)) := ed_i (ev_len ha hr)
/-- l[i] = e, e an int -/
theorem pst_setI {l : Addr} {k : Nat} (hs : σ[n]? = some (some (.ref l))) (hl : H l = some (.lst xs)) (h : EvD K te σ H (.int c)) (hi : EvD K tb σ H (.int i)) (hk : ixN xs.length i = some k)
    (kk : ∀ H1, Ex H H1 → Pst K tz D σ (upd H1 l (.lst (xs.set k (.int c))))) : Pst K (tSeq (tAsg te (gSub (tVar n) tb rSetL)) tz) D σ H := fun H1 a =>
  h.iv H1 a _ fun H2 e2 => ⟨.ref l, hs, hi.iv H2 (a.trans e2) _ fun H3 e3 => ⟨l, xs, i, k, rfl, rfl, ((a.trans e2).trans e3) l _ hl, hk, kk H3 ((a.trans e2).trans e3) _ (Ex.refl _)⟩⟩
theorem pst_setI1 {l : Addr} {k : Nat} (hs : σ[n]? = some (some (.ref l))) (hl : H l = some (.lst xs)) (h : EvD K te σ H (.int c)) (hi : EvD K tb σ H (.int i)) (hk : ixN xs.length i = some k)
    (kk : ∀ H1, Ex H H1 → D.nx σ (upd H1 l (.lst (xs.set k (.int c))))) : Pst K (tAsg te (gSub (tVar n) tb rSetL)) D σ H := fun H1 a =>
  h.iv H1 a _ fun H2 e2 => ⟨.ref l, hs, hi.iv H2 (a.trans e2) _ fun H3 e3 => ⟨l, xs, i, k, rfl, rfl, ((a.trans e2).trans e3) l _ hl, hk, kk H3 ((a.trans e2).trans e3)⟩⟩
theorem ed_intb {b : Bool} (h : EvD K te σ H (.bool b)) : EvD K (tCB rInt1 (tCons te tNil)) σ H (.int (if b then 1 else 0)) := fun H1 a Q q => h.bv H1 a _ fun H2 e2 => .inr ⟨b, rfl, q _ H2 e2 (.int _)⟩
/-! what stands beside some addresses is kept -/
def Fr (S : List Addr) (H H' : Hp) : Prop := ∀ p o, p ∉ S → H p = some o → H' p = some o
theorem Fr.refl {S : List Addr} : Fr S H H := fun _ _ _ h => h
theorem Fr.trans {S : List Addr} {H1 H2 : Hp} (a : Fr S H H1) (b : Fr S H1 H2) : Fr S H H2 := fun p o h e => b p o h (a p o h e)
theorem Fr.of {S : List Addr} (e : Ex H H') : Fr S H H' := fun p o _ h => e p o h
theorem Fr.sub {S S' : List Addr} (f : Fr S H H') (h : ∀ a ∈ S, a ∈ S') : Fr S' H H' := fun p o hp e => f p o (fun q => hp (h p q)) e
theorem Fr.upd {S : List Addr} {a : Addr} {o : HO} (h : a ∈ S) : Fr S H (upd H a o) := fun p u hp e => by rw [upd_ne (fun q => hp (by rw [q]; exact h))]; exact e
theorem Fr.keep {S : List Addr} (f : Fr S H H') (m : ∀ a ∈ S, ∃ u, H a = some u ∧ Mut (some u)) : Keep K H H' := fun b xs q => by
  have ne : ∀ u, H b = some u → ¬ Mut (some u) → b ∉ S := fun u hu nm hb => by
    obtain ⟨u2, h2, m2⟩ := m b hb
    rw [hu] at h2
    cases h2
    exact nm m2
  rcases q with (q | ⟨oo, q⟩) | q
  · exact .inl (.inl (f b _ (ne _ q fun z => z) q))
  · exact .inl (.inr ⟨oo, f b _ (ne _ q fun z => z) q⟩)
  · exact .inr q
end
end Hw

set_option maxRecDepth 100000
set_option maxHeartbeats 4000000
/-! S1: programs as Lean data, how they stand as values, which of them are let by -/
namespace Hw
open PySem PySem.Spec PyProof.Rows L2 Evl

inductive Th where
  | num (n : Nat) | sum (a b : Th) | cell (t : Th) | own (k : Nat) | par (k : Nat)
  deriving DecidableEq
inductive Stm where
  | set (p t : Th) | say (t : Th) | ite (t : Th) (a b : List Stm) | call (w : Nat) (ts : List Th)
structure Wk where
  params : Nat
  owns : Nat
  body : List Stm
def encT : Th → PyData
  | .num n => .tuple [.str "num", .int (n : Int)]
  | .sum a b => .tuple [.str "sum", encT a, encT b]
  | .cell t => .tuple [.str "cell", encT t]
  | .own k => .tuple [.str "own", .int (k : Int)]
  | .par k => .tuple [.str "par", .int (k : Int)]
mutual
def encS : Stm → PyData
  | .set p t => .tuple [.str "set", encT p, encT t]
  | .say t => .tuple [.str "say", encT t]
  | .ite t a b => .tuple [.str "if", encT t, .tuple (encB a), .tuple (encB b)]
  | .call w ts => .tuple [.str "call", .int (w : Int), .tuple (ts.map encT)]
def encB : List Stm → List PyData
  | [] => []
  | s :: r => encS s :: encB r
end
def encW (w : Wk) : PyData := .tuple [.int (w.params : Int), .int (w.owns : Int), .tuple (encB w.body)]
def encP (p : List Wk) : PyData := .tuple (p.map encW)
theorem encB_map : ∀ b : List Stm, encB b = b.map encS
  | [] => by simp [encB]
  | s :: r => by simp [encB, encB_map r]
theorem encB_length (b : List Stm) : (encB b).length = b.length := by rw [encB_map, List.length_map]
/-! ### words -/
@[simp] theorem eqv_str_self (x : Str) : PyData.eqv (.str x) (.str x) = true := by simp [PyData.eqv]
@[simp] theorem w_back_copy : PyData.eqv (.str "back") (.str "copy") = false := by decide +kernel
@[simp] theorem w_back_place : PyData.eqv (.str "back") (.str "place") = false := by decide +kernel
@[simp] theorem w_back_want : PyData.eqv (.str "back") (.str "want") = false := by decide +kernel
@[simp] theorem w_call_cell : PyData.eqv (.str "call") (.str "cell") = false := by decide +kernel
@[simp] theorem w_call_if : PyData.eqv (.str "call") (.str "if") = false := by decide +kernel
@[simp] theorem w_call_num : PyData.eqv (.str "call") (.str "num") = false := by decide +kernel
@[simp] theorem w_call_own : PyData.eqv (.str "call") (.str "own") = false := by decide +kernel
@[simp] theorem w_call_par : PyData.eqv (.str "call") (.str "par") = false := by decide +kernel
@[simp] theorem w_call_say : PyData.eqv (.str "call") (.str "say") = false := by decide +kernel
@[simp] theorem w_call_set : PyData.eqv (.str "call") (.str "set") = false := by decide +kernel
@[simp] theorem w_call_sum : PyData.eqv (.str "call") (.str "sum") = false := by decide +kernel
@[simp] theorem w_cell_call : PyData.eqv (.str "cell") (.str "call") = false := by decide +kernel
@[simp] theorem w_cell_if : PyData.eqv (.str "cell") (.str "if") = false := by decide +kernel
@[simp] theorem w_cell_num : PyData.eqv (.str "cell") (.str "num") = false := by decide +kernel
@[simp] theorem w_cell_own : PyData.eqv (.str "cell") (.str "own") = false := by decide +kernel
@[simp] theorem w_cell_par : PyData.eqv (.str "cell") (.str "par") = false := by decide +kernel
@[simp] theorem w_cell_say : PyData.eqv (.str "cell") (.str "say") = false := by decide +kernel
@[simp] theorem w_cell_set : PyData.eqv (.str "cell") (.str "set") = false := by decide +kernel
@[simp] theorem w_cell_sum : PyData.eqv (.str "cell") (.str "sum") = false := by decide +kernel
@[simp] theorem w_copy_back : PyData.eqv (.str "copy") (.str "back") = false := by decide +kernel
@[simp] theorem w_copy_place : PyData.eqv (.str "copy") (.str "place") = false := by decide +kernel
@[simp] theorem w_copy_want : PyData.eqv (.str "copy") (.str "want") = false := by decide +kernel
@[simp] theorem w_if_call : PyData.eqv (.str "if") (.str "call") = false := by decide +kernel
@[simp] theorem w_if_cell : PyData.eqv (.str "if") (.str "cell") = false := by decide +kernel
@[simp] theorem w_if_num : PyData.eqv (.str "if") (.str "num") = false := by decide +kernel
@[simp] theorem w_if_own : PyData.eqv (.str "if") (.str "own") = false := by decide +kernel
@[simp] theorem w_if_par : PyData.eqv (.str "if") (.str "par") = false := by decide +kernel
@[simp] theorem w_if_say : PyData.eqv (.str "if") (.str "say") = false := by decide +kernel
@[simp] theorem w_if_set : PyData.eqv (.str "if") (.str "set") = false := by decide +kernel
@[simp] theorem w_if_sum : PyData.eqv (.str "if") (.str "sum") = false := by decide +kernel
@[simp] theorem w_num_call : PyData.eqv (.str "num") (.str "call") = false := by decide +kernel
@[simp] theorem w_num_cell : PyData.eqv (.str "num") (.str "cell") = false := by decide +kernel
@[simp] theorem w_num_if : PyData.eqv (.str "num") (.str "if") = false := by decide +kernel
@[simp] theorem w_num_own : PyData.eqv (.str "num") (.str "own") = false := by decide +kernel
@[simp] theorem w_num_par : PyData.eqv (.str "num") (.str "par") = false := by decide +kernel
@[simp] theorem w_num_say : PyData.eqv (.str "num") (.str "say") = false := by decide +kernel
@[simp] theorem w_num_set : PyData.eqv (.str "num") (.str "set") = false := by decide +kernel
@[simp] theorem w_num_sum : PyData.eqv (.str "num") (.str "sum") = false := by decide +kernel
@[simp] theorem w_own_call : PyData.eqv (.str "own") (.str "call") = false := by decide +kernel
@[simp] theorem w_own_cell : PyData.eqv (.str "own") (.str "cell") = false := by decide +kernel
@[simp] theorem w_own_if : PyData.eqv (.str "own") (.str "if") = false := by decide +kernel
@[simp] theorem w_own_num : PyData.eqv (.str "own") (.str "num") = false := by decide +kernel
@[simp] theorem w_own_par : PyData.eqv (.str "own") (.str "par") = false := by decide +kernel
@[simp] theorem w_own_say : PyData.eqv (.str "own") (.str "say") = false := by decide +kernel
@[simp] theorem w_own_set : PyData.eqv (.str "own") (.str "set") = false := by decide +kernel
@[simp] theorem w_own_sum : PyData.eqv (.str "own") (.str "sum") = false := by decide +kernel
@[simp] theorem w_par_call : PyData.eqv (.str "par") (.str "call") = false := by decide +kernel
@[simp] theorem w_par_cell : PyData.eqv (.str "par") (.str "cell") = false := by decide +kernel
@[simp] theorem w_par_if : PyData.eqv (.str "par") (.str "if") = false := by decide +kernel
@[simp] theorem w_par_num : PyData.eqv (.str "par") (.str "num") = false := by decide +kernel
@[simp] theorem w_par_own : PyData.eqv (.str "par") (.str "own") = false := by decide +kernel
@[simp] theorem w_par_say : PyData.eqv (.str "par") (.str "say") = false := by decide +kernel
@[simp] theorem w_par_set : PyData.eqv (.str "par") (.str "set") = false := by decide +kernel
@[simp] theorem w_par_sum : PyData.eqv (.str "par") (.str "sum") = false := by decide +kernel
@[simp] theorem w_place_back : PyData.eqv (.str "place") (.str "back") = false := by decide +kernel
@[simp] theorem w_place_copy : PyData.eqv (.str "place") (.str "copy") = false := by decide +kernel
@[simp] theorem w_place_want : PyData.eqv (.str "place") (.str "want") = false := by decide +kernel
@[simp] theorem w_say_call : PyData.eqv (.str "say") (.str "call") = false := by decide +kernel
@[simp] theorem w_say_cell : PyData.eqv (.str "say") (.str "cell") = false := by decide +kernel
@[simp] theorem w_say_if : PyData.eqv (.str "say") (.str "if") = false := by decide +kernel
@[simp] theorem w_say_num : PyData.eqv (.str "say") (.str "num") = false := by decide +kernel
@[simp] theorem w_say_own : PyData.eqv (.str "say") (.str "own") = false := by decide +kernel
@[simp] theorem w_say_par : PyData.eqv (.str "say") (.str "par") = false := by decide +kernel
@[simp] theorem w_say_set : PyData.eqv (.str "say") (.str "set") = false := by decide +kernel
@[simp] theorem w_say_sum : PyData.eqv (.str "say") (.str "sum") = false := by decide +kernel
@[simp] theorem w_set_call : PyData.eqv (.str "set") (.str "call") = false := by decide +kernel
@[simp] theorem w_set_cell : PyData.eqv (.str "set") (.str "cell") = false := by decide +kernel
@[simp] theorem w_set_if : PyData.eqv (.str "set") (.str "if") = false := by decide +kernel
@[simp] theorem w_set_num : PyData.eqv (.str "set") (.str "num") = false := by decide +kernel
@[simp] theorem w_set_own : PyData.eqv (.str "set") (.str "own") = false := by decide +kernel
@[simp] theorem w_set_par : PyData.eqv (.str "set") (.str "par") = false := by decide +kernel
@[simp] theorem w_set_say : PyData.eqv (.str "set") (.str "say") = false := by decide +kernel
@[simp] theorem w_set_sum : PyData.eqv (.str "set") (.str "sum") = false := by decide +kernel
@[simp] theorem w_sum_call : PyData.eqv (.str "sum") (.str "call") = false := by decide +kernel
@[simp] theorem w_sum_cell : PyData.eqv (.str "sum") (.str "cell") = false := by decide +kernel
@[simp] theorem w_sum_if : PyData.eqv (.str "sum") (.str "if") = false := by decide +kernel
@[simp] theorem w_sum_num : PyData.eqv (.str "sum") (.str "num") = false := by decide +kernel
@[simp] theorem w_sum_own : PyData.eqv (.str "sum") (.str "own") = false := by decide +kernel
@[simp] theorem w_sum_par : PyData.eqv (.str "sum") (.str "par") = false := by decide +kernel
@[simp] theorem w_sum_say : PyData.eqv (.str "sum") (.str "say") = false := by decide +kernel
@[simp] theorem w_sum_set : PyData.eqv (.str "sum") (.str "set") = false := by decide +kernel
@[simp] theorem w_want_back : PyData.eqv (.str "want") (.str "back") = false := by decide +kernel
@[simp] theorem w_want_copy : PyData.eqv (.str "want") (.str "copy") = false := by decide +kernel
@[simp] theorem w_want_place : PyData.eqv (.str "want") (.str "place") = false := by decide +kernel
@[simp] theorem lay_num : (PyData.str "num").canLay0 = true := by decide +kernel
@[simp] theorem lay_sum : (PyData.str "sum").canLay0 = true := by decide +kernel
@[simp] theorem lay_cell : (PyData.str "cell").canLay0 = true := by decide +kernel
@[simp] theorem lay_own : (PyData.str "own").canLay0 = true := by decide +kernel
@[simp] theorem lay_par : (PyData.str "par").canLay0 = true := by decide +kernel
@[simp] theorem lay_set : (PyData.str "set").canLay0 = true := by decide +kernel
@[simp] theorem lay_say : (PyData.str "say").canLay0 = true := by decide +kernel
@[simp] theorem lay_if : (PyData.str "if").canLay0 = true := by decide +kernel
@[simp] theorem lay_call : (PyData.str "call").canLay0 = true := by decide +kernel
@[simp] theorem lay_copy : (PyData.str "copy").canLay0 = true := by decide +kernel
@[simp] theorem lay_place : (PyData.str "place").canLay0 = true := by decide +kernel
@[simp] theorem lay_back : (PyData.str "back").canLay0 = true := by decide +kernel
@[simp] theorem lay_want : (PyData.str "want").canLay0 = true := by decide +kernel
/-! ### which things and steps can be -/
def okT (ps os : Nat) : Th → Nat → Bool
  | .num n, w => decide (w ≤ 4) && decide (n < 3)
  | .own k, w => decide (w ≤ 4) && decide (k < os)
  | .par k, w => decide (w ≤ 4) && decide (k < ps)
  | .cell t, w => decide (w ≤ 4) && okT ps os t (w + 1)
  | .sum a b, w => decide (w ≤ 4) && (okT ps os a (w + 1) && okT ps os b (w + 1))
def isPlace : Th → Bool
  | .cell _ | .own _ | .par _ => true
  | _ => false
/-- sh: params and own cells of all works -/
def shP (sh : List (Nat × Nat)) (i : Nat) : Nat := (sh.getD i (0, 0)).1
def shO (sh : List (Nat × Nat)) (i : Nat) : Nat := (sh.getD i (0, 0)).2
mutual
def okS (sh : List (Nat × Nat)) (at_ : Nat) : Stm → Nat → Bool
  | .set p t, w => decide (w ≤ 4) && (okT (shP sh at_) (shO sh at_) p 0 && (isPlace p && okT (shP sh at_) (shO sh at_) t 0))
  | .say t, w => decide (w ≤ 4) && okT (shP sh at_) (shO sh at_) t 0
  | .ite t a b, w => decide (w ≤ 4) && (okT (shP sh at_) (shO sh at_) t 0 && (okB sh at_ a (w + 1) && okB sh at_ b (w + 1)))
  | .call c ts, w => decide (w ≤ 4) && (decide (c < sh.length) && (decide (at_ < c) && (decide (ts.length = shP sh c) && ts.all fun t => okT (shP sh at_) (shO sh at_) t 0)))
def okB (sh : List (Nat × Nat)) (at_ : Nat) : List Stm → Nat → Bool
  | [], _ => true
  | s :: r, w => okS sh at_ s w && okB sh at_ r w
end
mutual
def cntS : Stm → Nat
  | .ite _ a b => 1 + (cntB a + cntB b)
  | _ => 1
def cntB : List Stm → Nat
  | [] => 0
  | s :: r => cntS s + cntB r
end
/-! bodies and calls are no longer than that -/
mutual
def smS : Stm → Bool
  | .call _ ts => decide (ts.length ≤ 20000)
  | .ite _ a b => (decide (a.length ≤ 20000) && decide (b.length ≤ 20000)) && (smB a && smB b)
  | _ => true
def smB : List Stm → Bool
  | [] => true
  | s :: r => smS s && smB r
end
theorem smB_mem : ∀ {b : List Stm} {s : Stm}, smB b = true → s ∈ b → smS s = true
  | x :: r, s, h, hm => by
    simp only [smB, Bool.and_eq_true] at h
    rcases List.mem_cons.mp hm with e | hm
    · rw [e]; exact h.1
    · exact smB_mem h.2 hm
/-! how deep bodies lie within others -/
mutual
def dpS : Stm → Nat
  | .ite _ a b => 1 + max (dpB a) (dpB b)
  | _ => 0
def dpB : List Stm → Nat
  | [] => 0
  | s :: r => max (dpS s) (dpB r)
end
theorem dpB_mem : ∀ {b : List Stm} {s : Stm}, s ∈ b → dpS s ≤ dpB b
  | x :: r, s, hm => by
    simp only [dpB]
    rcases List.mem_cons.mp hm with e | hm
    · rw [e]; exact Nat.le_max_left _ _
    · exact Nat.le_trans (dpB_mem hm) (Nat.le_max_right _ _)
mutual
theorem okS_dp {sh : List (Nat × Nat)} {at_ : Nat} : ∀ (s : Stm) (w : Nat), okS sh at_ s w = true → dpS s + w ≤ 5
  | .set p t, w, h => by simp [okS] at h; simp [dpS]; omega
  | .say t, w, h => by simp [okS] at h; simp [dpS]; omega
  | .call c ts, w, h => by simp [okS] at h; simp [dpS]; omega
  | .ite t a b, w, h => by
    simp [okS] at h
    have h1 := okB_dp a (w + 1) h.2.2.1
    have h2 := okB_dp b (w + 1) h.2.2.2
    simp only [dpS]
    omega
theorem okB_dp {sh : List (Nat × Nat)} {at_ : Nat} : ∀ (b : List Stm) (w : Nat), okB sh at_ b w = true → dpB b = 0 ∨ dpB b + w ≤ 5
  | [], w, _ => .inl (by simp [dpB])
  | s :: r, w, h => by
    simp only [okB, Bool.and_eq_true] at h
    have h1 := okS_dp s w h.1
    have h2 := okB_dp r w h.2
    simp only [dpB]
    omega
end
def bods : Stm → List (List Stm)
  | .ite _ a b => [a, b]
  | _ => []
theorem bods_sm {s : Stm} {b : List Stm} (h : smS s = true) (hb : b ∈ bods s) : b.length ≤ 20000 ∧ smB b = true := by
  cases s with
  | ite t x y =>
    simp only [smS, Bool.and_eq_true, decide_eq_true_eq] at h
    simp only [bods, List.mem_cons, List.not_mem_nil, or_false] at hb
    rcases hb with e | e <;> subst e <;> simp [h]
  | _ => simp [bods] at hb
theorem bods_dp {s : Stm} {b : List Stm} (hb : b ∈ bods s) : dpB b + 1 ≤ dpS s := by
  cases s with
  | ite t x y =>
    simp only [bods, List.mem_cons, List.not_mem_nil, or_false] at hb
    simp only [dpS]
    rcases hb with e | e <;> subst e <;> omega
  | _ => simp [bods] at hb
theorem cntS_bods (s : Stm) : cntS s = 1 + ((bods s).map cntB).sum := by cases s <;> simp [cntS, bods]
theorem cntB_sum : ∀ b : List Stm, cntB b = (b.map cntS).sum
  | [] => by simp [cntB]
  | s :: r => by simp [cntB, cntB_sum r]
theorem okB_all {sh : List (Nat × Nat)} {at_ w : Nat} : ∀ b : List Stm, okB sh at_ b w = b.all fun s => okS sh at_ s w
  | [] => by simp [okB]
  | s :: r => by simp [okB, okB_all r]
def shapes (p : List Wk) : List (Nat × Nat) := p.map fun w => (w.params, w.owns)
def okW (p : List Wk) (at_ : Nat) : Bool := match p[at_]? with
  | some w => decide (w.params ≤ 3) && (decide (w.owns ≤ 99) && ((decide (at_ ≠ 0) || decide (w.params = 0)) && (okB (shapes p) at_ w.body 0 && decide (cntB w.body ≤ 100))))
  | none => false
def okP (p : List Wk) : Bool := decide (1 ≤ p.length) && (decide (p.length ≤ 4) && (List.range p.length).all (okW p))
/-! ### ways -/
def encY (ys : List (List Str)) : PyData := .tuple (ys.map fun y => .tuple (y.map PyData.str))
def isWay (s : Str) : Bool := [("back" : Str), "copy", "place", "want"].any fun z => PyData.eqv (.str z) (.str s)
def okY (p : List Wk) (ys : List (List Str)) : Bool := decide (ys.length = p.length) && (List.range p.length).all fun i => decide ((ys.getD i []).length = shP (shapes p) i) && (ys.getD i []).all isWay
def smY (ys : List (List Str)) : Prop := ys.length ≤ 1000 ∧ ∀ y ∈ ys, y.length ≤ 1000 ∧ ∀ s ∈ y, (PyData.str s).canLay0 = true
/-! ### data that may be laid -/
theorem encT_lay : ∀ t : Th, (encT t).canLay0 = true
  | .num n => by simp [encT, PyData.canLay0, PyData.canLayAll0]; decide +kernel
  | .own n => by simp [encT, PyData.canLay0, PyData.canLayAll0]; decide +kernel
  | .par n => by simp [encT, PyData.canLay0, PyData.canLayAll0]; decide +kernel
  | .cell t => by
    simp only [encT, PyData.canLay0, PyData.canLayAll0, encT_lay t, Bool.and_true]
    decide +kernel
  | .sum a b => by
    simp only [encT, PyData.canLay0, PyData.canLayAll0, encT_lay a, encT_lay b, Bool.and_true]
    decide +kernel
theorem encTs_lay : ∀ ts : List Th, PyData.canLayAll0 (ts.map encT) = true
  | [] => by simp [PyData.canLayAll0]
  | t :: r => by simp [PyData.canLayAll0, encT_lay t, encTs_lay r]
mutual
theorem encS_lay : ∀ s : Stm, (encS s).canLay0 = true
  | .set p t => by
    simp only [encS, PyData.canLay0, PyData.canLayAll0, encT_lay, Bool.and_true]
    decide +kernel
  | .say t => by
    simp only [encS, PyData.canLay0, PyData.canLayAll0, encT_lay, Bool.and_true]
    decide +kernel
  | .ite t a b => by
    simp only [encS, PyData.canLay0, PyData.canLayAll0, encT_lay, encB_lay a, encB_lay b, Bool.and_true]
    decide +kernel
  | .call w ts => by
    simp only [encS, PyData.canLay0, PyData.canLayAll0, encTs_lay, Bool.and_true]
    decide +kernel
theorem encB_lay : ∀ b : List Stm, PyData.canLayAll0 (encB b) = true
  | [] => by simp [encB, PyData.canLayAll0]
  | s :: r => by simp [encB, PyData.canLayAll0, encS_lay s, encB_lay r]
end
theorem encW_lay (w : Wk) : (encW w).canLay0 = true := by simp [encW, PyData.canLay0, PyData.canLayAll0, encB_lay]
theorem encP_lay (p : List Wk) : (encP p).canLay0 = true := by
  have h : ∀ p : List Wk, PyData.canLayAll0 (p.map encW) = true := by
    intro p
    induction p with
    | nil => simp [PyData.canLayAll0]
    | cons w r ih => simp [PyData.canLayAll0, encW_lay w, ih]
  simpa [encP, PyData.canLay0] using h p
theorem layAll_filter {p : PyData → Bool} : ∀ {ds : List PyData}, PyData.canLayAll0 ds = true → PyData.canLayAll0 (ds.filter p) = true
  | [], _ => by simp [PyData.canLayAll0]
  | d :: ds, h => by
    simp only [PyData.canLayAll0, Bool.and_eq_true] at h
    rw [List.filter_cons]
    split
    · simp [PyData.canLayAll0, h.1, layAll_filter h.2]
    · exact layAll_filter h.2
end Hw

set_option maxRecDepth 100000
set_option maxHeartbeats 4000000
/-! OX: an own exception class with an __init__, over an own one -/
namespace L2
open PySem PySem.Spec PyProof.Rows
def oexB (K : PySem.W.Frag) (C : Addr) : Bool := (match K.lookup C with
  | some ⟨.type "type", _, .cls cd, sl⟩ => (match cd.mro, sl.toList with
    | .ref C' :: bm, [_, _, _, _, some (.builtin n), _] => C' == C && n == "ValueError.__new__" && !cd.hasDel && cd.hasDict && PySem.HandSPX.refsVE bm
    | _, _ => false)
  | _ => false) && (decide (PySem.W.findIn K (.ref C) "__setattr__" = some (some (.builtin "object.__setattr__"))) && (decide (PySem.W.subIn K (.ref C) (.type "BaseException") = some true) && (decide (PySem.W.typeIn K (.ref C) = some (.type "type")) && PySem.W.keepIn K (.ref C))))
theorem oexB_ok {K : PySem.W.Frag} {C : Addr} (h : oexB K C = true) : OexC K C := by
  unfold oexB at h
  rw [Bool.and_eq_true] at h
  obtain ⟨q, h⟩ := h
  simp only [Bool.and_eq_true, decide_eq_true_eq] at h
  obtain ⟨h1, h2, h3, h4⟩ := h
  refine ⟨?_, h1, h2, h3, h4⟩
  split at q
  · rename_i dd cd sl ho
    split at q
    · rename_i C' bm k0 k1 k2 k3 n k5 hm hs
      simp only [Bool.and_eq_true, beq_iff_eq, Bool.not_eq_true'] at q
      obtain ⟨⟨⟨⟨rfl, rfl⟩, hdel⟩, hdict⟩, hr⟩ := q
      obtain ⟨nm, bs, mro, ns, qn, hd, sn, sub, ab, col, del⟩ := cd
      dsimp only at hm hdel hdict
      subst hm hdel hdict
      have hsl : sl = #[k0, k1, k2, k3, some (.builtin "ValueError.__new__"), k5] := by
        obtain ⟨l⟩ := sl
        simp only at hs
        rw [hs]
      subst hsl
      exact ⟨_, _, _, _, _, _, _, _, _, _, _, _, _, _, _, ho, hr⟩
    · cases q
  · cases q
def fcB (K : PySem.W.Frag) (C : Addr) : Bool := match PySem.W.findCls K (.ref C) (.type "type") "__init__" with
  | some (.val v) => v == .builtin "ValueError.__init__"
  | _ => false
theorem fcB_ok {K : PySem.W.Frag} {C : Addr} (h : fcB K C = true) : PySem.W.findCls K (.ref C) (.type "type") "__init__" = some (.val (.builtin "ValueError.__init__")) := by
  unfold fcB at h
  split at h
  · rename_i v hv
    rw [hv, beq_iff_eq.mp h]
  · cases h
section
variable {X : Cx} {e : Expr} {es : List Expr} {ta : TA} {p1 p2 pos : Pos} {x : Str} {C : Addr}
/-- D.__init__(self, ..), D an own class over ValueError with none of its own -/
theorem pe_heinit {pl : Sem Bool} (hg : Gl X x) (hm : X.mg x = some (.ref C)) (hs : PySem.W.specialIn X.K (.ref C) "__getattribute__" = some (some (.builtin "type.__getattribute__"))) (hr : PySem.W.readsIn X.K C (.type "type") = true)
    (vV : PySem.W.findCls X.K (.ref C) (.type "type") "__init__" = some (.val (.builtin "ValueError.__init__"))) (ha : PA X (e :: es) ta) (hdb : (x == ("__debug__" : Str)) = false := by decide)
    (hc : eval (.Call (.Attribute (.Name x p1) "__init__" p2) (e :: es) [] pos) X.env = (do
      let ov ← eval (.Name x p1) X.env
      standAt p2.atName
      let (f, first) ← holding [ov] (getMethod ov "__init__" pl)
      callWith pos f first (backTo pos (starEach (e :: es) X.env)) (backToKw pos (keywordEach [] X.env))) := by rfl)
    (he : starEach (e :: es) X.env = (false, eval e X.env) :: starEach es X.env := by rfl) (hpl : (backTo pos (starEach es X.env)).any (·.1) = false := by rfl) :
    PE X (.Call (.Attribute (.Name x p1) "__init__" p2) (e :: es) [] pos) (tVeI X.K ta) := by
  refine ⟨fun pins s σ H Q I h => ?_⟩
  refine PySem.W.methodCall_KW (ld_glob I hg hm ?_ hdb) hc
  refine PySem.W.method_cls I.kIn hs (PySem.W.cls_value I.kIn hr vV (by decide +kernel) ?_)
  show wpAny _ _ (callWith pos (Value.builtin "ValueError.__init__") [] (backTo pos (starEach (e :: es) X.env)) []) _ _ _
  refine PyProof.Rows.callWith_method1 (thn (ha.run pos pins _ σ H _ (I.tok _) h) fun us s1 ⟨vs, H1, I1, r1, a, C, ws, ev, hl, T, ea, q⟩ => ?_) he hpl
  subst ev
  cases r1 with
  | @cons _ u0 _ ur ra rw' =>
    obtain rfl : u0 = Value.ref a := ra
    have hlen : ur.length ≤ sizeLine := by
      rw [← Paired.length rw', sizeLine_eq]
      omega
    exact oinit_ok T I1 ea hlen fun s' J => ⟨.non, H1, J, rfl, q⟩
end
end L2

set_option maxRecDepth 100000
set_option maxHeartbeats 4000000
/-! OX2: isinstance of a caught error that has fields (lines turned from HandS.ExcIs) -/
namespace PySem.W
open PySem PySem.Spec PySem.Calls PyProof.Rows
section
variable {prog : Program} {w : World} {A : Around} {E : Value → Shared → Prop} {s : Shared} {K : Frag} {x D : Addr} {ox : Obj} {od : Option Obj}
theorem findObj_dataD {C : Addr} {name : Str} {a g : Value} (hc : (clsIn K C).isSome = true) (ha : findIn K (.ref C) name = some (some a)) (hg : specialIn K a "__get__" = some (some g)) (ht : takesIn K a = some true) : findObj K C od name = some (.bind g a) := by
  obtain ⟨cd, hc⟩ := Option.isSome_iff_exists.mp hc
  unfold findObj
  rw [hc, Option.bind_some, ha, Option.bind_some]
  cases od <;> simp [hg, ht]
theorem kin_classD {Q : Option Value → Shared → Prop} (hga : findIn K (.ref D) "__getattribute__" = some (some (.builtin "BaseException.__getattribute__"))) (hgt : findIn K (.ref D) "__getattr__" = some none) (hsub : subIn K (.ref D) (.type "BaseException") = some true)
    (hdct : hasDictIn K D = true) (ha : findIn K (.ref D) "__class__" = some (some (.builtin "object.__class__")))
    (hn : specialIn K (.builtin "object.__class__") "__get__" = some (some (.builtin "getset_descriptor.__get__"))) (htk : takesIn K (.builtin "object.__class__") = some true) (hm : mroIn K D (.type "object") = some true)
    (X : K.In s.heap) (I : InstAt s.heap x ox D od) (h : Q (some (.ref D)) { s with toks := s.toks + 1 }) : wpAny (model prog w) A (getAttr? (.ref x) "__class__") Q E s := by
  have hf : findObj K D od "__class__" = some (.bind (.builtin "getset_descriptor.__get__") (.builtin "object.__class__")) := findObj_dataD (by obtain ⟨cd, hc, _⟩ := any_some hdct; rw [hc]; rfl) ha hn htk
  obtain ⟨hp, g, d, t, os⟩ := s
  have L0 := I.type (M := model prog w)
  have L1 := looks_findIn (M := model prog w) X hga
  have L2 := looks_findIn (M := model prog w) X hgt
  have L3 := looks_find (M := model prog w) X I hf
  have sub : Looks (model prog w) hp (isInstance (.ref x) (.type "BaseException")) true := L0.andThen (looks_subIn X hsub)
  have hx0 : (false && onTheHeap (Value.builtin "BaseException.__getattribute__")) = false := rfl
  have hx2 : (Value.builtin "BaseException.__getattribute__" == Value.builtin "object.__getattribute__") = false := by decide +kernel
  have hx1 : (onTheHeap (Value.ref D) && Value.builtin "BaseException.__getattribute__" == Value.builtin "object.__getattribute__") = false := by rw [hx2]; rfl
  unfold getAttr? getAttrBy? getAttrBy
  refine wpAny_bind (wpAny_mkText (wpAny_bind (wpAny_attempt (wpAny_holding (wpAny_bind (L0.at (wpAny_bind (L1.at ?_))))))))
  show wpAny _ _ (if (onTheHeap (Value.ref D) && Value.builtin "BaseException.__getattribute__" == Value.builtin "object.__getattribute__") = true then _ else _) _ _ _
  rw [hx1, if_neg Bool.false_ne_true]
  unfold getAttrByItsOwn hookBefore
  refine wpAny_bind ?_
  rw [if_pos (show onTheHeap (Value.ref D) = true from rfl)]
  refine L2.at ?_
  refine wpAny_bind (wpAny_attempt (wpAny_holding ?_))
  unfold callGetattribute
  rw [hx0, if_neg Bool.false_ne_true]
  unfold boundAndCalled
  rw [PySem.F.excAttr_ValueError.ga.bind (.ref x)]
  refine wpAny_bind (wpAny_pure ?_)
  show wpAny _ _ (call (.builtin "BaseException.__getattribute__") [.ref x, .str "__class__" t]) _ _ _
  refine wpAny_call (codeAny_call_builtin PySem.F.excAttr_ValueError.ga.plain PySem.F.entry_bexc_ga ?_)
  refine @check_slot (model prog w) _ _ ⟨hp, g, d, t + 1, os⟩ "BaseException.__getattribute__" "BaseException" "__getattribute__" (.ref x) [.str "__class__" t] [] _ (by decide +kernel) (by decide +kernel) sub (PySem.F.args_bexc_ga (.ref x) (.str "__class__" t)) ?_
  unfold Builtin.«object.__getattribute__»
  refine wpAny_bind (wpAny_of_eq (a := ((Value.ref x : Value), [Value.str "__class__" t])) (by first | rfl | (simp only [slotArgs]; rfl)) ?_)
  refine wpAny_bind (wpAny_pure (wpAny_bind (L0.at (wpAny_bind (L3.at ?_)))))
  show wpAny _ _ (holding [Value.builtin "object.__class__"] (call (.builtin "getset_descriptor.__get__") [.builtin "object.__class__", .ref x, .ref D]) >>= ret) _ _ _
  refine wpAny_bind (wpAny_holding (wpAny_call (class_get (s := ⟨hp, g, d, t + 1, os⟩) (ox := ox) (od := od) X I hm ?_)))
  refine wpAny_pure ?_
  show wpAny _ _ (handedOut (.ref D)) _ _ _
  rw [handedOut_of (v := .ref D) rfl]
  first
    | exact wpAny_pure (wpAny_pure h)
    | exact wpAny_pure h
    | exact wpAny_pure (wpAny_bind (wpAny_pure (wpAny_pure h)))
theorem handS_kitx_excD (hga : findIn K (.ref D) "__getattribute__" = some (some (.builtin "BaseException.__getattribute__"))) (hgt : findIn K (.ref D) "__getattr__" = some none) (hsub : subIn K (.ref D) (.type "BaseException") = some true) (hdct : hasDictIn K D = true) (ha : findIn K (.ref D) "__class__" = some (some (.builtin "object.__class__")))
    (hn : specialIn K (.builtin "object.__class__") "__get__" = some (some (.builtin "getset_descriptor.__get__"))) (htk : takesIn K (.builtin "object.__class__") = some true) (hm : mroIn K D (.type "object") = some true) :
    KitX K (.ref x) (.ref D) (fun h => InstAt h x ox D od) where
  ty := fun _ _ _ I => I.type
  it := fun _ _ X _ => by
    obtain ⟨cdD, hcD, _⟩ := any_some hdct
    unfold clsIn at hcD
    split at hcD
    · rename_i c' d' cd' sl' ho
      intro A' Q' E' s' k q
      unfold isType loadHead
      exact wpAny_bind (wpAny_loadPart (k _ _ (X _ _ ho)) (wpAny_pure q))
    · cases hcD
  ne := fun h tp dd its n sl X htp => by
    obtain ⟨cdD, hcD, _⟩ := any_some hdct
    refine Bool.eq_false_iff.mpr fun q => ?_
    have e : D = tp := Value.ref.inj (beq_iff_eq.mp q)
    subst e
    unfold clsIn at hcD
    split at hcD
    · rename_i c' d' cd' sl' ho
      have z := (X _ _ ho).symm.trans htp
      cases z
    · cases hcD
  ca := fun X I k => kin_classD hga hgt hsub hdct ha hn htk hm X I k
end
end PySem.W
namespace L2
open PySem PySem.Spec PyProof.Rows
/-- isinstance(e, c), e the exception with fields that the suite holds -/
def rIsF (K : PySem.W.Frag) (D a : Addr) (d : Option Addr) : List V → Hp → VK → Prop := fun xs H Q => ∃ (c : V) (cv : Value) (b : Bool) (dd : Addr) (fs : List (Str × V)), xs = [.ref a, c] ∧ (∀ u, RelV c u → u = cv) ∧ PySem.W.kitOne K (.ref D) cv = some b ∧ d = some dd ∧ H dd = some (.xd fs) ∧ Q (.bl b) H
theorem call_isF {X : Cx} {a D : Addr} {oe : Obj} {d : Option Addr} {pn : List (Addr × Obj)} (C : ExcC X.K D) (hz : Zc (.ref D) d oe) (hf : ∃ vs, oe.data = .fields vs) : CallR (X.suite a ((a, oe) :: pn)) (.builtin "isinstance") (rIsF X.K D a d) := by
  intro pins s σ H xs us Q I r h
  obtain ⟨c, cv, b, dd, fs, rfl, hcv, e, ed, ea, q⟩ := h
  cases r with
  | cons rx rr =>
    cases rr with
    | cons rt rr =>
      cases rr
      cases rx
      have ec := hcv _ rt
      subst ec
      subst ed
      obtain ⟨hget, _⟩ := I.pin (a, oe) (List.mem_append.mpr (.inl List.mem_cons_self))
      obtain ⟨vs, hv⟩ := hf
      have hx : ObjOk X.prog X.w H s.heap dd (.xd fs) := I.hok dd _ ea
      obtain ⟨mA, hns, hr⟩ := hx
      obtain ⟨od, ho, hl⟩ := lookIn_ns hns
      have J : PySem.W.InstAt s.heap a oe D (some od) := ⟨hget, hz.1, by unfold PySem.W.notCls; rw [hv] <;> rfl, by rw [hz.2]; exact ho⟩
      exact PySem.W.kia_one (PySem.W.handS_kitx_excD C.hg C.hk C.hs C.hd C.ha C.hn C.ht C.hm) I.kIn J e (fun z => nomatch z) fun tk => ⟨.bl b, H, I.kept (t' := tk) fun _ _ z => z, rfl, q⟩
end L2

set_option maxRecDepth 100000
set_option maxHeartbeats 4000000
namespace Hw
open PySem PySem.Spec PyProof.Rows L2
def top (i : Nat) : Stmt := PySem.Challenge.pw_handways_k12_texts_refused.main.body.getD i (.Pass ⟨0, 0, 0, 0⟩)
abbrev s_BadText___init__ : Stmt := inClass (top 5) 0
abbrev s_is_number : Stmt := top 14
abbrev s_is_thing : Stmt := top 15
abbrev s_is_call : Stmt := top 16
abbrev s_is_step : Stmt := top 17
abbrev s_is_body : Stmt := top 18
abbrev s_bodies_of : Stmt := top 19
abbrev s_count : Stmt := top 20
abbrev s_is_work : Stmt := top 21
abbrev s_need_program : Stmt := top 22
abbrev s_Line___init__ : Stmt := inClass (top 26) 0
abbrev s_Line_here : Stmt := inClass (top 26) 1
abbrev s_Line_must : Stmt := inClass (top 26) 2
abbrev s_Line_word : Stmt := inClass (top 26) 3
abbrev s_Line_number : Stmt := inClass (top 26) 4
abbrev s_Line_thing_here : Stmt := inClass (top 26) 5
abbrev s_Line_inner : Stmt := inClass (top 26) 6
abbrev s_Line_steps_here : Stmt := inClass (top 26) 7
abbrev s_Line_step : Stmt := inClass (top 26) 8
abbrev s_read : Stmt := top 27
abbrev s__law_taken : Stmt := top 29
abbrev s__law_alike : Stmt := top 30
abbrev s__law_thing : Stmt := top 31
abbrev s__law_place : Stmt := top 32
abbrev s__law_step : Stmt := top 33
abbrev s__law_body : Stmt := top 34
abbrev s__law_program : Stmt := top 35
abbrev s__law_ways : Stmt := top 36
abbrev s__law_cells : Stmt := top 37
abbrev s__law_words : Stmt := top 38
abbrev s__law_text : Stmt := top 39
abbrev s__law_is_number : Stmt := top 40
abbrev s__law_is_thing : Stmt := top 41
abbrev s__law_is_step : Stmt := top 42
abbrev s__law_is_body : Stmt := top 43
abbrev s__law_count : Stmt := top 44
abbrev s__law_is_program : Stmt := top 45
abbrev s__law_is_figures : Stmt := top 46
abbrev s__law_thing_at : Stmt := top 47
abbrev s__law_things_at : Stmt := top 48
abbrev s__law_step_at : Stmt := top 49
abbrev s__law_body_at : Stmt := top 50
abbrev s__law_reading : Stmt := top 51
abbrev s__law_told : Stmt := top 52
abbrev s__law_changed : Stmt := top 53
abbrev s_law : Stmt := top 54
theorem sc_BadText___init__ : FnScope ["self", "row"] ["self", "row"] (defScope s_BadText___init__) := ⟨rfl, rfl, rfl, by decide +kernel, rfl, by decide +kernel, by decide +kernel⟩
theorem sc_is_number : FnScope ["part", "below"] ["part", "below"] (defScope s_is_number) := ⟨rfl, rfl, rfl, by decide +kernel, rfl, by decide +kernel, by decide +kernel⟩
theorem sc_is_thing : FnScope ["thing", "sizes", "within", "word", "below"] ["thing", "sizes", "within"] (defScope s_is_thing) := ⟨rfl, rfl, rfl, by decide +kernel, rfl, by decide +kernel, by decide +kernel⟩
theorem sc_is_call : FnScope ["program", "at", "step", "sizes", "thing"] ["program", "at", "step", "sizes"] (defScope s_is_call) := ⟨rfl, rfl, rfl, by decide +kernel, rfl, by decide +kernel, by decide +kernel⟩
theorem sc_is_step : FnScope ["program", "at", "step", "within", "sizes", "body"] ["program", "at", "step", "within"] (defScope s_is_step) := ⟨rfl, rfl, rfl, by decide +kernel, rfl, by decide +kernel, by decide +kernel⟩
theorem sc_is_body : FnScope ["program", "at", "body", "within", "step"] ["program", "at", "body", "within"] (defScope s_is_body) := ⟨rfl, rfl, rfl, by decide +kernel, rfl, by decide +kernel, by decide +kernel⟩
theorem sc_bodies_of : FnScope ["step"] ["step"] (defScope s_bodies_of) := ⟨rfl, rfl, rfl, by decide +kernel, rfl, by decide +kernel, by decide +kernel⟩
theorem sc_count : FnScope ["body", "step", "inner"] ["body"] (defScope s_count) := ⟨rfl, rfl, rfl, by decide +kernel, rfl, by decide +kernel, by decide +kernel⟩
theorem sc_is_work : FnScope ["program", "at", "params", "owns", "body"] ["program", "at"] (defScope s_is_work) := ⟨rfl, rfl, rfl, by decide +kernel, rfl, by decide +kernel, by decide +kernel⟩
theorem sc_need_program : FnScope ["program", "at"] ["program"] (defScope s_need_program) := ⟨rfl, rfl, rfl, by decide +kernel, rfl, by decide +kernel, by decide +kernel⟩
theorem sc_Line___init__ : FnScope ["self", "text", "row"] ["self", "text", "row"] (defScope s_Line___init__) := ⟨rfl, rfl, rfl, by decide +kernel, rfl, by decide +kernel, by decide +kernel⟩
theorem sc_Line_here : FnScope ["self"] ["self"] (defScope s_Line_here) := ⟨rfl, rfl, rfl, by decide +kernel, rfl, by decide +kernel, by decide +kernel⟩
theorem sc_Line_must : FnScope ["self", "good"] ["self", "good"] (defScope s_Line_must) := ⟨rfl, rfl, rfl, by decide +kernel, rfl, by decide +kernel, by decide +kernel⟩
theorem sc_Line_word : FnScope ["self"] ["self"] (defScope s_Line_word) := ⟨rfl, rfl, rfl, by decide +kernel, rfl, by decide +kernel, by decide +kernel⟩
theorem sc_Line_number : FnScope ["self", "word", "sign"] ["self"] (defScope s_Line_number) := ⟨rfl, rfl, rfl, by decide +kernel, rfl, by decide +kernel, by decide +kernel⟩
theorem sc_Line_thing_here : FnScope ["self", "word", "one"] ["self"] (defScope s_Line_thing_here) := ⟨rfl, rfl, rfl, by decide +kernel, rfl, by decide +kernel, by decide +kernel⟩
theorem sc_Line_inner : FnScope ["self", "found"] ["self"] (defScope s_Line_inner) := ⟨rfl, rfl, rfl, by decide +kernel, rfl, by decide +kernel, by decide +kernel⟩
theorem sc_Line_steps_here : FnScope ["self", "found"] ["self"] (defScope s_Line_steps_here) := ⟨rfl, rfl, rfl, by decide +kernel, rfl, by decide +kernel, by decide +kernel⟩
theorem sc_Line_step : FnScope ["self", "word", "work", "things", "thing", "first"] ["self"] (defScope s_Line_step) := ⟨rfl, rfl, rfl, by decide +kernel, rfl, by decide +kernel, by decide +kernel⟩
theorem sc_read : FnScope ["text", "found", "rows", "row", "line", "params", "owns", "body"] ["text"] (defScope s_read) := ⟨rfl, rfl, rfl, by decide +kernel, rfl, by decide +kernel, by decide +kernel⟩
theorem sc__law_taken : FnScope ["_law_row", "_law_many", "_law_found", "_law_cell"] ["_law_row", "_law_many"] (defScope s__law_taken) := ⟨rfl, rfl, rfl, by decide +kernel, rfl, by decide +kernel, by decide +kernel⟩
theorem sc__law_alike : FnScope ["_law_found", "_law_due", "_law_k"] ["_law_found", "_law_due"] (defScope s__law_alike) := ⟨rfl, rfl, rfl, by decide +kernel, rfl, by decide +kernel, by decide +kernel⟩
theorem sc__law_thing : FnScope ["_law_row", "_law_sizes", "_law_within", "_law_way"] ["_law_row", "_law_sizes", "_law_within"] (defScope s__law_thing) := ⟨rfl, rfl, rfl, by decide +kernel, rfl, by decide +kernel, by decide +kernel⟩
theorem sc__law_place : FnScope ["_law_row", "_law_sizes", "_law_within", "_law_thing_here"] ["_law_row", "_law_sizes", "_law_within"] (defScope s__law_place) := ⟨rfl, rfl, rfl, by decide +kernel, rfl, by decide +kernel, by decide +kernel⟩
theorem sc__law_step : FnScope ["_law_row", "_law_shapes", "_law_at", "_law_left", "_law_within", "_law_sizes", "_law_way", "_law_work", "_law_things", "_law_k", "_law_thing_here", "_law_first"] ["_law_row", "_law_shapes", "_law_at", "_law_left", "_law_within"] (defScope s__law_step) := ⟨rfl, rfl, rfl, by decide +kernel, rfl, by decide +kernel, by decide +kernel⟩
theorem sc__law_body : FnScope ["_law_row", "_law_shapes", "_law_at", "_law_left", "_law_within", "_law_found", "_law_turn"] ["_law_row", "_law_shapes", "_law_at", "_law_left", "_law_within"] (defScope s__law_body) := ⟨rfl, rfl, rfl, by decide +kernel, rfl, by decide +kernel, by decide +kernel⟩
theorem sc__law_program : FnScope ["_law_row", "_law_most", "_law_shapes", "_law_k", "_law_owns", "_law_found", "_law_at", "_law_body_here", "_law_things"] ["_law_row", "_law_most"] (defScope s__law_program) := ⟨rfl, rfl, rfl, by decide +kernel, rfl, by decide +kernel, by decide +kernel⟩
theorem sc__law_ways : FnScope ["_law_row", "_law_program_here", "_law_some", "_law_found", "_law_params", "_law_owns", "_law_body_here", "_law_k"] ["_law_row", "_law_program_here", "_law_some"] (defScope s__law_ways) := ⟨rfl, rfl, rfl, by decide +kernel, rfl, by decide +kernel, by decide +kernel⟩
theorem sc__law_cells : FnScope ["_law_k"] [] (defScope s__law_cells) := ⟨rfl, rfl, rfl, by decide +kernel, rfl, by decide +kernel, by decide +kernel⟩
theorem sc__law_words : FnScope ["_law_part", "_law_found", "_law_one"] ["_law_part"] (defScope s__law_words) := ⟨rfl, rfl, rfl, by decide +kernel, rfl, by decide +kernel, by decide +kernel⟩
theorem sc__law_text : FnScope ["_law_program_here", "_law_rows", "_law_params", "_law_owns", "_law_body_here"] ["_law_program_here"] (defScope s__law_text) := ⟨rfl, rfl, rfl, by decide +kernel, rfl, by decide +kernel, by decide +kernel⟩
theorem sc__law_is_number : FnScope ["_law_part", "_law_below"] ["_law_part", "_law_below"] (defScope s__law_is_number) := ⟨rfl, rfl, rfl, by decide +kernel, rfl, by decide +kernel, by decide +kernel⟩
theorem sc__law_is_thing : FnScope ["_law_thing_here", "_law_sizes", "_law_within", "_law_part"] ["_law_thing_here", "_law_sizes", "_law_within"] (defScope s__law_is_thing) := ⟨rfl, rfl, rfl, by decide +kernel, rfl, by decide +kernel, by decide +kernel⟩
theorem sc__law_is_step : FnScope ["_law_shapes", "_law_at", "_law_step_here", "_law_within", "_law_things", "_law_bodies", "_law_thing_here", "_law_body_here"] ["_law_shapes", "_law_at", "_law_step_here", "_law_within"] (defScope s__law_is_step) := ⟨rfl, rfl, rfl, by decide +kernel, rfl, by decide +kernel, by decide +kernel⟩
theorem sc__law_is_body : FnScope ["_law_shapes", "_law_at", "_law_body_here", "_law_within", "_law_step_here"] ["_law_shapes", "_law_at", "_law_body_here", "_law_within"] (defScope s__law_is_body) := ⟨rfl, rfl, rfl, by decide +kernel, rfl, by decide +kernel, by decide +kernel⟩
theorem sc__law_count : FnScope ["_law_body_here", "_law_found", "_law_step_here"] ["_law_body_here"] (defScope s__law_count) := ⟨rfl, rfl, rfl, by decide +kernel, rfl, by decide +kernel, by decide +kernel⟩
theorem sc__law_is_program : FnScope ["_law_program_here", "_law_shapes", "_law_at", "_law_work", "_law_one"] ["_law_program_here"] (defScope s__law_is_program) := ⟨rfl, rfl, rfl, by decide +kernel, rfl, by decide +kernel, by decide +kernel⟩
theorem sc__law_is_figures : FnScope ["_law_word", "_law_sign"] ["_law_word"] (defScope s__law_is_figures) := ⟨rfl, rfl, rfl, by decide +kernel, rfl, by decide +kernel, by decide +kernel⟩
theorem sc__law_thing_at : FnScope ["_law_words_here", "_law_at", "_law_word", "_law_number", "_law_first", "_law_second"] ["_law_words_here", "_law_at"] (defScope s__law_thing_at) := ⟨rfl, rfl, rfl, by decide +kernel, rfl, by decide +kernel, by decide +kernel⟩
theorem sc__law_things_at : FnScope ["_law_words_here", "_law_at", "_law_found", "_law_told_here"] ["_law_words_here", "_law_at"] (defScope s__law_things_at) := ⟨rfl, rfl, rfl, by decide +kernel, rfl, by decide +kernel, by decide +kernel⟩
theorem sc__law_step_at : FnScope ["_law_words_here", "_law_at", "_law_number", "_law_told_here", "_law_found", "_law_k"] ["_law_words_here", "_law_at"] (defScope s__law_step_at) := ⟨rfl, rfl, rfl, by decide +kernel, rfl, by decide +kernel, by decide +kernel⟩
theorem sc__law_body_at : FnScope ["_law_words_here", "_law_at", "_law_found", "_law_told_here"] ["_law_words_here", "_law_at"] (defScope s__law_body_at) := ⟨rfl, rfl, rfl, by decide +kernel, rfl, by decide +kernel, by decide +kernel⟩
theorem sc__law_reading : FnScope ["_law_text_here", "_law_found", "_law_rows", "_law_row", "_law_words_here", "_law_told_here"] ["_law_text_here"] (defScope s__law_reading) := ⟨rfl, rfl, rfl, by decide +kernel, rfl, by decide +kernel, by decide +kernel⟩
theorem sc__law_told : FnScope ["_law_text_here", "e", "_law_other", "_law_kinds"] ["_law_text_here"] (defScope s__law_told) := ⟨rfl, rfl, rfl, by decide +kernel, rfl, by decide +kernel, by decide +kernel⟩
theorem sc__law_changed : FnScope ["_law_row", "_law_text_here", "_law_way", "_law_at", "_law_sign", "_law_lines", "_law_k", "_law_words_here", "_law_j", "_law_odd", "_law_rest", "_law_other"] ["_law_row", "_law_text_here"] (defScope s__law_changed) := ⟨rfl, rfl, rfl, by decide +kernel, rfl, by decide +kernel, by decide +kernel⟩
theorem sc_law : FnScope ["_law_script", "_law_row", "_law_some", "_law_turn", "_law_text_here", "_law_change", "_law_one"] ["_law_script"] (defScope s_law) := ⟨rfl, rfl, rfl, by decide +kernel, rfl, by decide +kernel, by decide +kernel⟩
/-- what the walk leans on, of the text behind its top -/
structure Tx (K : PySem.W.Frag) (mg : Str → Option Value) : Prop where
  g_is_number : mg "is_number" = some (.ref (He.ga K "is_number"))
  g_is_thing : mg "is_thing" = some (.ref (He.ga K "is_thing"))
  g_is_call : mg "is_call" = some (.ref (He.ga K "is_call"))
  g_is_step : mg "is_step" = some (.ref (He.ga K "is_step"))
  g_is_body : mg "is_body" = some (.ref (He.ga K "is_body"))
  g_bodies_of : mg "bodies_of" = some (.ref (He.ga K "bodies_of"))
  g_count : mg "count" = some (.ref (He.ga K "count"))
  g_is_work : mg "is_work" = some (.ref (He.ga K "is_work"))
  g_need_program : mg "need_program" = some (.ref (He.ga K "need_program"))
  g_read : mg "read" = some (.ref (He.ga K "read"))
  g__law_taken : mg "_law_taken" = some (.ref (He.ga K "_law_taken"))
  g__law_alike : mg "_law_alike" = some (.ref (He.ga K "_law_alike"))
  g__law_thing : mg "_law_thing" = some (.ref (He.ga K "_law_thing"))
  g__law_place : mg "_law_place" = some (.ref (He.ga K "_law_place"))
  g__law_step : mg "_law_step" = some (.ref (He.ga K "_law_step"))
  g__law_body : mg "_law_body" = some (.ref (He.ga K "_law_body"))
  g__law_program : mg "_law_program" = some (.ref (He.ga K "_law_program"))
  g__law_ways : mg "_law_ways" = some (.ref (He.ga K "_law_ways"))
  g__law_cells : mg "_law_cells" = some (.ref (He.ga K "_law_cells"))
  g__law_words : mg "_law_words" = some (.ref (He.ga K "_law_words"))
  g__law_text : mg "_law_text" = some (.ref (He.ga K "_law_text"))
  g__law_is_number : mg "_law_is_number" = some (.ref (He.ga K "_law_is_number"))
  g__law_is_thing : mg "_law_is_thing" = some (.ref (He.ga K "_law_is_thing"))
  g__law_is_step : mg "_law_is_step" = some (.ref (He.ga K "_law_is_step"))
  g__law_is_body : mg "_law_is_body" = some (.ref (He.ga K "_law_is_body"))
  g__law_count : mg "_law_count" = some (.ref (He.ga K "_law_count"))
  g__law_is_program : mg "_law_is_program" = some (.ref (He.ga K "_law_is_program"))
  g__law_is_figures : mg "_law_is_figures" = some (.ref (He.ga K "_law_is_figures"))
  g__law_thing_at : mg "_law_thing_at" = some (.ref (He.ga K "_law_thing_at"))
  g__law_things_at : mg "_law_things_at" = some (.ref (He.ga K "_law_things_at"))
  g__law_step_at : mg "_law_step_at" = some (.ref (He.ga K "_law_step_at"))
  g__law_body_at : mg "_law_body_at" = some (.ref (He.ga K "_law_body_at"))
  g__law_reading : mg "_law_reading" = some (.ref (He.ga K "_law_reading"))
  g__law_told : mg "_law_told" = some (.ref (He.ga K "_law_told"))
  g__law_changed : mg "_law_changed" = some (.ref (He.ga K "_law_changed"))
  g_law : mg "law" = some (.ref (He.ga K "law"))
  g_HandError : mg "HandError" = some (.ref (He.ga K "HandError"))
  k_HandError : PySem.W.keepIn K (.ref (He.ga K "HandError")) = true
  x_HandError : PySem.W.excIn K (He.ga K "HandError") [.type "ValueError", .type "Exception", .type "BaseException", .type "object"] "ValueError.__new__" = true
  be_HandError : PySem.W.subIn K (.ref (He.ga K "HandError")) (.type "BaseException") = some true
  ty_HandError : PySem.W.typeIn K (.ref (He.ga K "HandError")) = some (.type "type")
  em_HandError_HandError : PySem.W.exmOne K (.ref (He.ga K "HandError")) (.ref (He.ga K "HandError")) = some true
  em_HandError_BadProgram : PySem.W.exmOne K (.ref (He.ga K "HandError")) (.ref (He.ga K "BadProgram")) = some false
  em_HandError_BadWays : PySem.W.exmOne K (.ref (He.ga K "HandError")) (.ref (He.ga K "BadWays")) = some false
  em_HandError_BadCells : PySem.W.exmOne K (.ref (He.ga K "HandError")) (.ref (He.ga K "BadCells")) = some false
  em_HandError_BadText : PySem.W.exmOne K (.ref (He.ga K "HandError")) (.ref (He.ga K "BadText")) = some false
  g_BadProgram : mg "BadProgram" = some (.ref (He.ga K "BadProgram"))
  k_BadProgram : PySem.W.keepIn K (.ref (He.ga K "BadProgram")) = true
  x_BadProgram : PySem.W.excIn K (He.ga K "BadProgram") [.type "ValueError", .type "Exception", .type "BaseException", .type "object"] "ValueError.__new__" = true
  be_BadProgram : PySem.W.subIn K (.ref (He.ga K "BadProgram")) (.type "BaseException") = some true
  ty_BadProgram : PySem.W.typeIn K (.ref (He.ga K "BadProgram")) = some (.type "type")
  em_BadProgram_HandError : PySem.W.exmOne K (.ref (He.ga K "BadProgram")) (.ref (He.ga K "HandError")) = some true
  em_BadProgram_BadProgram : PySem.W.exmOne K (.ref (He.ga K "BadProgram")) (.ref (He.ga K "BadProgram")) = some true
  em_BadProgram_BadWays : PySem.W.exmOne K (.ref (He.ga K "BadProgram")) (.ref (He.ga K "BadWays")) = some false
  em_BadProgram_BadCells : PySem.W.exmOne K (.ref (He.ga K "BadProgram")) (.ref (He.ga K "BadCells")) = some false
  em_BadProgram_BadText : PySem.W.exmOne K (.ref (He.ga K "BadProgram")) (.ref (He.ga K "BadText")) = some false
  g_BadWays : mg "BadWays" = some (.ref (He.ga K "BadWays"))
  k_BadWays : PySem.W.keepIn K (.ref (He.ga K "BadWays")) = true
  x_BadWays : PySem.W.excIn K (He.ga K "BadWays") [.type "ValueError", .type "Exception", .type "BaseException", .type "object"] "ValueError.__new__" = true
  be_BadWays : PySem.W.subIn K (.ref (He.ga K "BadWays")) (.type "BaseException") = some true
  ty_BadWays : PySem.W.typeIn K (.ref (He.ga K "BadWays")) = some (.type "type")
  em_BadWays_HandError : PySem.W.exmOne K (.ref (He.ga K "BadWays")) (.ref (He.ga K "HandError")) = some true
  em_BadWays_BadProgram : PySem.W.exmOne K (.ref (He.ga K "BadWays")) (.ref (He.ga K "BadProgram")) = some false
  em_BadWays_BadWays : PySem.W.exmOne K (.ref (He.ga K "BadWays")) (.ref (He.ga K "BadWays")) = some true
  em_BadWays_BadCells : PySem.W.exmOne K (.ref (He.ga K "BadWays")) (.ref (He.ga K "BadCells")) = some false
  em_BadWays_BadText : PySem.W.exmOne K (.ref (He.ga K "BadWays")) (.ref (He.ga K "BadText")) = some false
  g_BadCells : mg "BadCells" = some (.ref (He.ga K "BadCells"))
  k_BadCells : PySem.W.keepIn K (.ref (He.ga K "BadCells")) = true
  x_BadCells : PySem.W.excIn K (He.ga K "BadCells") [.type "ValueError", .type "Exception", .type "BaseException", .type "object"] "ValueError.__new__" = true
  be_BadCells : PySem.W.subIn K (.ref (He.ga K "BadCells")) (.type "BaseException") = some true
  ty_BadCells : PySem.W.typeIn K (.ref (He.ga K "BadCells")) = some (.type "type")
  em_BadCells_HandError : PySem.W.exmOne K (.ref (He.ga K "BadCells")) (.ref (He.ga K "HandError")) = some true
  em_BadCells_BadProgram : PySem.W.exmOne K (.ref (He.ga K "BadCells")) (.ref (He.ga K "BadProgram")) = some false
  em_BadCells_BadWays : PySem.W.exmOne K (.ref (He.ga K "BadCells")) (.ref (He.ga K "BadWays")) = some false
  em_BadCells_BadCells : PySem.W.exmOne K (.ref (He.ga K "BadCells")) (.ref (He.ga K "BadCells")) = some true
  em_BadCells_BadText : PySem.W.exmOne K (.ref (He.ga K "BadCells")) (.ref (He.ga K "BadText")) = some false
  g_BadText : mg "BadText" = some (.ref (He.ga K "BadText"))
  k_BadText : PySem.W.keepIn K (.ref (He.ga K "BadText")) = true
  be_BadText : PySem.W.subIn K (.ref (He.ga K "BadText")) (.type "BaseException") = some true
  ty_BadText : PySem.W.typeIn K (.ref (He.ga K "BadText")) = some (.type "type")
  em_BadText_HandError : PySem.W.exmOne K (.ref (He.ga K "BadText")) (.ref (He.ga K "HandError")) = some true
  em_BadText_BadProgram : PySem.W.exmOne K (.ref (He.ga K "BadText")) (.ref (He.ga K "BadProgram")) = some false
  em_BadText_BadWays : PySem.W.exmOne K (.ref (He.ga K "BadText")) (.ref (He.ga K "BadWays")) = some false
  em_BadText_BadCells : PySem.W.exmOne K (.ref (He.ga K "BadText")) (.ref (He.ga K "BadCells")) = some false
  em_BadText_BadText : PySem.W.exmOne K (.ref (He.ga K "BadText")) (.ref (He.ga K "BadText")) = some true
  g_Line : mg "Line" = some (.ref (He.ga K "Line"))
  k_Line : PySem.W.keepIn K (.ref (He.ga K "Line")) = true
  c_Line : Cls K (He.ga K "Line")
  mk_Line : Mk K (He.ga K "Line") (He.ma K (He.ga K "Line") "__init__")
  na_Line_words : NoAttr K (He.ga K "Line") "words"
  na_Line_at : NoAttr K (He.ga K "Line") "at"
  na_Line_row : NoAttr K (He.ga K "Line") "row"
  m_Line_here : Meth K (He.ga K "Line") "here" (He.ma K (He.ga K "Line") "here")
  m_Line_must : Meth K (He.ga K "Line") "must" (He.ma K (He.ga K "Line") "must")
  m_Line_word : Meth K (He.ga K "Line") "word" (He.ma K (He.ga K "Line") "word")
  m_Line_number : Meth K (He.ga K "Line") "number" (He.ma K (He.ga K "Line") "number")
  m_Line_thing_here : Meth K (He.ga K "Line") "thing_here" (He.ma K (He.ga K "Line") "thing_here")
  m_Line_inner : Meth K (He.ga K "Line") "inner" (He.ma K (He.ga K "Line") "inner")
  m_Line_steps_here : Meth K (He.ga K "Line") "steps_here" (He.ma K (He.ga K "Line") "steps_here")
  m_Line_step : Meth K (He.ga K "Line") "step" (He.ma K (He.ga K "Line") "step")
  hg_BadProgram : PySem.W.findIn K (.ref (He.ga K "BadProgram")) "__getattribute__" = some (some (.builtin "BaseException.__getattribute__"))
  hk_BadProgram : PySem.W.findIn K (.ref (He.ga K "BadProgram")) "__getattr__" = some none
  hd_BadProgram : PySem.W.hasDictIn K (He.ga K "BadProgram") = true
  ha_BadProgram : PySem.W.findIn K (.ref (He.ga K "BadProgram")) "__class__" = some (some (.builtin "object.__class__"))
  hn_BadProgram : PySem.W.specialIn K (.builtin "object.__class__") "__get__" = some (some (.builtin "getset_descriptor.__get__"))
  ht_BadProgram : PySem.W.takesIn K (.builtin "object.__class__") = some true
  hm_BadProgram : PySem.W.mroIn K (He.ga K "BadProgram") (.type "object") = some true
  iv_BadProgram : PySem.W.kitOne K (.ref (He.ga K "BadProgram")) (.type "ValueError") = some true
  hg_BadText : PySem.W.findIn K (.ref (He.ga K "BadText")) "__getattribute__" = some (some (.builtin "BaseException.__getattribute__"))
  hk_BadText : PySem.W.findIn K (.ref (He.ga K "BadText")) "__getattr__" = some none
  hd_BadText : PySem.W.hasDictIn K (He.ga K "BadText") = true
  ha_BadText : PySem.W.findIn K (.ref (He.ga K "BadText")) "__class__" = some (some (.builtin "object.__class__"))
  hn_BadText : PySem.W.specialIn K (.builtin "object.__class__") "__get__" = some (some (.builtin "getset_descriptor.__get__"))
  ht_BadText : PySem.W.takesIn K (.builtin "object.__class__") = some true
  hm_BadText : PySem.W.mroIn K (He.ga K "BadText") (.type "object") = some true
  iv_BadText : PySem.W.kitOne K (.ref (He.ga K "BadText")) (.type "ValueError") = some true
  hs0_HandError : PySem.W.specialIn K (.ref (He.ga K "HandError")) "__getattribute__" = some (some (.builtin "type.__getattribute__"))
  hr0_HandError : PySem.W.readsIn K (He.ga K "HandError") (.type "type") = true
  hv0_HandError : L2.fcB K (He.ga K "HandError") = true
  ki_BadProgram_BadProgram : PySem.W.kitOne K (.ref (He.ga K "BadProgram")) (.ref (He.ga K "BadProgram")) = some true
  ki_BadProgram_BadWays : PySem.W.kitOne K (.ref (He.ga K "BadProgram")) (.ref (He.ga K "BadWays")) = some false
  ki_BadProgram_BadCells : PySem.W.kitOne K (.ref (He.ga K "BadProgram")) (.ref (He.ga K "BadCells")) = some false
  ki_BadProgram_BadText : PySem.W.kitOne K (.ref (He.ga K "BadProgram")) (.ref (He.ga K "BadText")) = some false
  ox_BadText : L2.oexB K (He.ga K "BadText") = true
  xf_BadText : L2.xfB K (He.ga K "BadText") = true
  oi_BadText : PySem.W.findIn K (.ref (He.ga K "BadText")) "__init__" = some (some (.ref (He.ma K (He.ga K "BadText") "__init__")))
  of_BadText : PySem.W.typeIn K (.ref (He.ma K (He.ga K "BadText") "__init__")) = some (.type "function")
  on_BadText_row : PySem.W.findIn K (.ref (He.ga K "BadText")) "row" = some none
  ki_BadText_BadProgram : PySem.W.kitOne K (.ref (He.ga K "BadText")) (.ref (He.ga K "BadProgram")) = some false
  ki_BadText_BadWays : PySem.W.kitOne K (.ref (He.ga K "BadText")) (.ref (He.ga K "BadWays")) = some false
  ki_BadText_BadCells : PySem.W.kitOne K (.ref (He.ga K "BadText")) (.ref (He.ga K "BadCells")) = some false
  ki_BadText_BadText : PySem.W.kitOne K (.ref (He.ga K "BadText")) (.ref (He.ga K "BadText")) = some true
  b_ValueError : mg "ValueError" = none
  b_bool : mg "bool" = none
  b_int : mg "int" = none
  b_isinstance : mg "isinstance" = none
  b_len : mg "len" = none
  b_list : mg "list" = none
  b_range : mg "range" = none
  b_str : mg "str" = none
  b_sum : mg "sum" = none
  b_tuple : mg "tuple" = none
  g_NUMBERS : ∃ t, mg "NUMBERS" = some (.int 3 t)
  g_MOST_WORKS : ∃ t, mg "MOST_WORKS" = some (.int 4 t)
  g_MOST_PARAMS : ∃ t, mg "MOST_PARAMS" = some (.int 3 t)
  g_MOST_OWNS : ∃ t, mg "MOST_OWNS" = some (.int 99 t)
  g_MOST_STEPS : ∃ t, mg "MOST_STEPS" = some (.int 100 t)
  g_MOST_WITHIN : ∃ t, mg "MOST_WITHIN" = some (.int 4 t)
  g_PLACES : mg "PLACES" = some (.ref (He.ga K "PLACES"))
  t_PLACES : ∀ H : Hp, SqT K H (He.ga K "PLACES") [V.str "cell", V.str "own", V.str "par"]
  g_FIGURES : ∃ t, mg "FIGURES" = some (.str "0123456789" t)
  g_MOST_FIGURES : ∃ t, mg "MOST_FIGURES" = some (.int 2 t)
  d_BadText___init__ : ∃ fd, FunD K "__init__" "BadText.__init__" (defArgs s_BadText___init__) (defBody s_BadText___init__) (defScope s_BadText___init__) [] [] (He.ma K (He.ga K "BadText") "__init__") fd
  d_is_number : ∃ fd, FunD K "is_number" "is_number" (defArgs s_is_number) (defBody s_is_number) (defScope s_is_number) [] [] (He.ga K "is_number") fd
  d_is_thing : ∃ fd, FunD K "is_thing" "is_thing" (defArgs s_is_thing) (defBody s_is_thing) (defScope s_is_thing) [] [] (He.ga K "is_thing") fd
  d_is_call : ∃ fd, FunD K "is_call" "is_call" (defArgs s_is_call) (defBody s_is_call) (defScope s_is_call) [] [] (He.ga K "is_call") fd
  d_is_step : ∃ fd, FunD K "is_step" "is_step" (defArgs s_is_step) (defBody s_is_step) (defScope s_is_step) [] [] (He.ga K "is_step") fd
  d_is_body : ∃ fd, FunD K "is_body" "is_body" (defArgs s_is_body) (defBody s_is_body) (defScope s_is_body) [] [] (He.ga K "is_body") fd
  d_bodies_of : ∃ fd, FunD K "bodies_of" "bodies_of" (defArgs s_bodies_of) (defBody s_bodies_of) (defScope s_bodies_of) [] [] (He.ga K "bodies_of") fd
  d_count : ∃ fd, FunD K "count" "count" (defArgs s_count) (defBody s_count) (defScope s_count) [] [] (He.ga K "count") fd
  d_is_work : ∃ fd, FunD K "is_work" "is_work" (defArgs s_is_work) (defBody s_is_work) (defScope s_is_work) [] [] (He.ga K "is_work") fd
  d_need_program : ∃ fd, FunD K "need_program" "need_program" (defArgs s_need_program) (defBody s_need_program) (defScope s_need_program) [] [] (He.ga K "need_program") fd
  d_Line___init__ : ∃ fd, FunD K "__init__" "Line.__init__" (defArgs s_Line___init__) (defBody s_Line___init__) (defScope s_Line___init__) [] [] (He.ma K (He.ga K "Line") "__init__") fd
  d_Line_here : ∃ fd, FunD K "here" "Line.here" (defArgs s_Line_here) (defBody s_Line_here) (defScope s_Line_here) [] [] (He.ma K (He.ga K "Line") "here") fd
  d_Line_must : ∃ fd, FunD K "must" "Line.must" (defArgs s_Line_must) (defBody s_Line_must) (defScope s_Line_must) [] [] (He.ma K (He.ga K "Line") "must") fd
  d_Line_word : ∃ fd, FunD K "word" "Line.word" (defArgs s_Line_word) (defBody s_Line_word) (defScope s_Line_word) [] [] (He.ma K (He.ga K "Line") "word") fd
  d_Line_number : ∃ fd, FunD K "number" "Line.number" (defArgs s_Line_number) (defBody s_Line_number) (defScope s_Line_number) [] [] (He.ma K (He.ga K "Line") "number") fd
  d_Line_thing_here : ∃ fd, FunD K "thing_here" "Line.thing_here" (defArgs s_Line_thing_here) (defBody s_Line_thing_here) (defScope s_Line_thing_here) [] [] (He.ma K (He.ga K "Line") "thing_here") fd
  d_Line_inner : ∃ fd, FunD K "inner" "Line.inner" (defArgs s_Line_inner) (defBody s_Line_inner) (defScope s_Line_inner) [] [] (He.ma K (He.ga K "Line") "inner") fd
  d_Line_steps_here : ∃ fd, FunD K "steps_here" "Line.steps_here" (defArgs s_Line_steps_here) (defBody s_Line_steps_here) (defScope s_Line_steps_here) [] [] (He.ma K (He.ga K "Line") "steps_here") fd
  d_Line_step : ∃ fd, FunD K "step" "Line.step" (defArgs s_Line_step) (defBody s_Line_step) (defScope s_Line_step) [] [] (He.ma K (He.ga K "Line") "step") fd
  d_read : ∃ fd, FunD K "read" "read" (defArgs s_read) (defBody s_read) (defScope s_read) [] [] (He.ga K "read") fd
  d__law_taken : ∃ fd, FunD K "_law_taken" "_law_taken" (defArgs s__law_taken) (defBody s__law_taken) (defScope s__law_taken) [] [] (He.ga K "_law_taken") fd
  d__law_alike : ∃ fd, FunD K "_law_alike" "_law_alike" (defArgs s__law_alike) (defBody s__law_alike) (defScope s__law_alike) [] [] (He.ga K "_law_alike") fd
  d__law_thing : ∃ fd, FunD K "_law_thing" "_law_thing" (defArgs s__law_thing) (defBody s__law_thing) (defScope s__law_thing) [] [] (He.ga K "_law_thing") fd
  d__law_place : ∃ fd, FunD K "_law_place" "_law_place" (defArgs s__law_place) (defBody s__law_place) (defScope s__law_place) [] [] (He.ga K "_law_place") fd
  d__law_step : ∃ fd, FunD K "_law_step" "_law_step" (defArgs s__law_step) (defBody s__law_step) (defScope s__law_step) [] [] (He.ga K "_law_step") fd
  d__law_body : ∃ fd, FunD K "_law_body" "_law_body" (defArgs s__law_body) (defBody s__law_body) (defScope s__law_body) [] [] (He.ga K "_law_body") fd
  d__law_program : ∃ fd, FunD K "_law_program" "_law_program" (defArgs s__law_program) (defBody s__law_program) (defScope s__law_program) [] [] (He.ga K "_law_program") fd
  d__law_ways : ∃ fd, FunD K "_law_ways" "_law_ways" (defArgs s__law_ways) (defBody s__law_ways) (defScope s__law_ways) [] [] (He.ga K "_law_ways") fd
  d__law_cells : ∃ fd, FunD K "_law_cells" "_law_cells" (defArgs s__law_cells) (defBody s__law_cells) (defScope s__law_cells) [] [] (He.ga K "_law_cells") fd
  d__law_words : ∃ fd, FunD K "_law_words" "_law_words" (defArgs s__law_words) (defBody s__law_words) (defScope s__law_words) [] [] (He.ga K "_law_words") fd
  d__law_text : ∃ fd, FunD K "_law_text" "_law_text" (defArgs s__law_text) (defBody s__law_text) (defScope s__law_text) [] [] (He.ga K "_law_text") fd
  d__law_is_number : ∃ fd, FunD K "_law_is_number" "_law_is_number" (defArgs s__law_is_number) (defBody s__law_is_number) (defScope s__law_is_number) [] [] (He.ga K "_law_is_number") fd
  d__law_is_thing : ∃ fd, FunD K "_law_is_thing" "_law_is_thing" (defArgs s__law_is_thing) (defBody s__law_is_thing) (defScope s__law_is_thing) [] [] (He.ga K "_law_is_thing") fd
  d__law_is_step : ∃ fd, FunD K "_law_is_step" "_law_is_step" (defArgs s__law_is_step) (defBody s__law_is_step) (defScope s__law_is_step) [] [] (He.ga K "_law_is_step") fd
  d__law_is_body : ∃ fd, FunD K "_law_is_body" "_law_is_body" (defArgs s__law_is_body) (defBody s__law_is_body) (defScope s__law_is_body) [] [] (He.ga K "_law_is_body") fd
  d__law_count : ∃ fd, FunD K "_law_count" "_law_count" (defArgs s__law_count) (defBody s__law_count) (defScope s__law_count) [] [] (He.ga K "_law_count") fd
  d__law_is_program : ∃ fd, FunD K "_law_is_program" "_law_is_program" (defArgs s__law_is_program) (defBody s__law_is_program) (defScope s__law_is_program) [] [] (He.ga K "_law_is_program") fd
  d__law_is_figures : ∃ fd, FunD K "_law_is_figures" "_law_is_figures" (defArgs s__law_is_figures) (defBody s__law_is_figures) (defScope s__law_is_figures) [] [] (He.ga K "_law_is_figures") fd
  d__law_thing_at : ∃ fd, FunD K "_law_thing_at" "_law_thing_at" (defArgs s__law_thing_at) (defBody s__law_thing_at) (defScope s__law_thing_at) [] [] (He.ga K "_law_thing_at") fd
  d__law_things_at : ∃ fd, FunD K "_law_things_at" "_law_things_at" (defArgs s__law_things_at) (defBody s__law_things_at) (defScope s__law_things_at) [] [] (He.ga K "_law_things_at") fd
  d__law_step_at : ∃ fd, FunD K "_law_step_at" "_law_step_at" (defArgs s__law_step_at) (defBody s__law_step_at) (defScope s__law_step_at) [] [] (He.ga K "_law_step_at") fd
  d__law_body_at : ∃ fd, FunD K "_law_body_at" "_law_body_at" (defArgs s__law_body_at) (defBody s__law_body_at) (defScope s__law_body_at) [] [] (He.ga K "_law_body_at") fd
  d__law_reading : ∃ fd, FunD K "_law_reading" "_law_reading" (defArgs s__law_reading) (defBody s__law_reading) (defScope s__law_reading) [] [] (He.ga K "_law_reading") fd
  d__law_told : ∃ fd, FunD K "_law_told" "_law_told" (defArgs s__law_told) (defBody s__law_told) (defScope s__law_told) [] [] (He.ga K "_law_told") fd
  d__law_changed : ∃ fd, FunD K "_law_changed" "_law_changed" (defArgs s__law_changed) (defBody s__law_changed) (defScope s__law_changed) [] [] (He.ga K "_law_changed") fd
  d_law : ∃ fd, FunD K "law" "law" (defArgs s_law) (defBody s_law) (defScope s_law) [] [] (He.ga K "law") fd
section
variable {K : PySem.W.Frag} {mg : Str → Option Value} (T : Tx K mg)
include T
noncomputable def Tx.fd_BadText___init__ : FuncData := Classical.choose T.d_BadText___init__
theorem Tx.F_BadText___init__ : FunD K "__init__" "BadText.__init__" (defArgs s_BadText___init__) (defBody s_BadText___init__) (defScope s_BadText___init__) [] [] (He.ma K (He.ga K "BadText") "__init__") T.fd_BadText___init__ := Classical.choose_spec T.d_BadText___init__
theorem Tx.k_BadText___init__ : PySem.W.keepIn K (.ref (He.ma K (He.ga K "BadText") "__init__")) = true := T.F_BadText___init__.kp
theorem Tx.bd_BadText___init__ : Binds K T.fd_BadText___init__ ["self", "row"] [] := T.F_BadText___init__.bindsN fun _ _ _ _ _ _ us hl => match us, hl with | [_, _], _ => rfl
abbrev Fn_BadText___init__ (P : Program) (w : World) (base : Heap) (CX : CXT) (k : Nat) (sp : Sp) : Prop := FnOk P w K mg base CX k (He.ma K (He.ga K "BadText") "__init__") T.fd_BadText___init__ ["self", "row"] sp
noncomputable def Tx.fd_is_number : FuncData := Classical.choose T.d_is_number
theorem Tx.F_is_number : FunD K "is_number" "is_number" (defArgs s_is_number) (defBody s_is_number) (defScope s_is_number) [] [] (He.ga K "is_number") T.fd_is_number := Classical.choose_spec T.d_is_number
theorem Tx.k_is_number : PySem.W.keepIn K (.ref (He.ga K "is_number")) = true := T.F_is_number.kp
theorem Tx.bd_is_number : Binds K T.fd_is_number ["part", "below"] [] := T.F_is_number.bindsN fun _ _ _ _ _ _ us hl => match us, hl with | [_, _], _ => rfl
abbrev Fn_is_number (P : Program) (w : World) (base : Heap) (CX : CXT) (k : Nat) (sp : Sp) : Prop := FnOk P w K mg base CX k (He.ga K "is_number") T.fd_is_number ["part", "below"] sp
noncomputable def Tx.fd_is_thing : FuncData := Classical.choose T.d_is_thing
theorem Tx.F_is_thing : FunD K "is_thing" "is_thing" (defArgs s_is_thing) (defBody s_is_thing) (defScope s_is_thing) [] [] (He.ga K "is_thing") T.fd_is_thing := Classical.choose_spec T.d_is_thing
theorem Tx.k_is_thing : PySem.W.keepIn K (.ref (He.ga K "is_thing")) = true := T.F_is_thing.kp
theorem Tx.bd_is_thing : Binds K T.fd_is_thing ["thing", "sizes", "within"] [] := T.F_is_thing.bindsN fun _ _ _ _ _ _ us hl => match us, hl with | [_, _, _], _ => rfl
abbrev Fn_is_thing (P : Program) (w : World) (base : Heap) (CX : CXT) (k : Nat) (sp : Sp) : Prop := FnOk P w K mg base CX k (He.ga K "is_thing") T.fd_is_thing ["thing", "sizes", "within"] sp
noncomputable def Tx.fd_is_call : FuncData := Classical.choose T.d_is_call
theorem Tx.F_is_call : FunD K "is_call" "is_call" (defArgs s_is_call) (defBody s_is_call) (defScope s_is_call) [] [] (He.ga K "is_call") T.fd_is_call := Classical.choose_spec T.d_is_call
theorem Tx.k_is_call : PySem.W.keepIn K (.ref (He.ga K "is_call")) = true := T.F_is_call.kp
theorem Tx.bd_is_call : Binds K T.fd_is_call ["program", "at", "step", "sizes"] [] := T.F_is_call.bindsN fun _ _ _ _ _ _ us hl => match us, hl with | [_, _, _, _], _ => rfl
abbrev Fn_is_call (P : Program) (w : World) (base : Heap) (CX : CXT) (k : Nat) (sp : Sp) : Prop := FnOk P w K mg base CX k (He.ga K "is_call") T.fd_is_call ["program", "at", "step", "sizes"] sp
noncomputable def Tx.fd_is_step : FuncData := Classical.choose T.d_is_step
theorem Tx.F_is_step : FunD K "is_step" "is_step" (defArgs s_is_step) (defBody s_is_step) (defScope s_is_step) [] [] (He.ga K "is_step") T.fd_is_step := Classical.choose_spec T.d_is_step
theorem Tx.k_is_step : PySem.W.keepIn K (.ref (He.ga K "is_step")) = true := T.F_is_step.kp
theorem Tx.bd_is_step : Binds K T.fd_is_step ["program", "at", "step", "within"] [] := T.F_is_step.bindsN fun _ _ _ _ _ _ us hl => match us, hl with | [_, _, _, _], _ => rfl
abbrev Fn_is_step (P : Program) (w : World) (base : Heap) (CX : CXT) (k : Nat) (sp : Sp) : Prop := FnOk P w K mg base CX k (He.ga K "is_step") T.fd_is_step ["program", "at", "step", "within"] sp
noncomputable def Tx.fd_is_body : FuncData := Classical.choose T.d_is_body
theorem Tx.F_is_body : FunD K "is_body" "is_body" (defArgs s_is_body) (defBody s_is_body) (defScope s_is_body) [] [] (He.ga K "is_body") T.fd_is_body := Classical.choose_spec T.d_is_body
theorem Tx.k_is_body : PySem.W.keepIn K (.ref (He.ga K "is_body")) = true := T.F_is_body.kp
theorem Tx.bd_is_body : Binds K T.fd_is_body ["program", "at", "body", "within"] [] := T.F_is_body.bindsN fun _ _ _ _ _ _ us hl => match us, hl with | [_, _, _, _], _ => rfl
abbrev Fn_is_body (P : Program) (w : World) (base : Heap) (CX : CXT) (k : Nat) (sp : Sp) : Prop := FnOk P w K mg base CX k (He.ga K "is_body") T.fd_is_body ["program", "at", "body", "within"] sp
noncomputable def Tx.fd_bodies_of : FuncData := Classical.choose T.d_bodies_of
theorem Tx.F_bodies_of : FunD K "bodies_of" "bodies_of" (defArgs s_bodies_of) (defBody s_bodies_of) (defScope s_bodies_of) [] [] (He.ga K "bodies_of") T.fd_bodies_of := Classical.choose_spec T.d_bodies_of
theorem Tx.k_bodies_of : PySem.W.keepIn K (.ref (He.ga K "bodies_of")) = true := T.F_bodies_of.kp
theorem Tx.bd_bodies_of : Binds K T.fd_bodies_of ["step"] [] := T.F_bodies_of.bindsN fun _ _ _ _ _ _ us hl => match us, hl with | [_], _ => rfl
abbrev Fn_bodies_of (P : Program) (w : World) (base : Heap) (CX : CXT) (k : Nat) (sp : Sp) : Prop := FnOk P w K mg base CX k (He.ga K "bodies_of") T.fd_bodies_of ["step"] sp
noncomputable def Tx.fd_count : FuncData := Classical.choose T.d_count
theorem Tx.F_count : FunD K "count" "count" (defArgs s_count) (defBody s_count) (defScope s_count) [] [] (He.ga K "count") T.fd_count := Classical.choose_spec T.d_count
theorem Tx.k_count : PySem.W.keepIn K (.ref (He.ga K "count")) = true := T.F_count.kp
theorem Tx.bd_count : Binds K T.fd_count ["body"] [] := T.F_count.bindsN fun _ _ _ _ _ _ us hl => match us, hl with | [_], _ => rfl
abbrev Fn_count (P : Program) (w : World) (base : Heap) (CX : CXT) (k : Nat) (sp : Sp) : Prop := FnOk P w K mg base CX k (He.ga K "count") T.fd_count ["body"] sp
noncomputable def Tx.fd_is_work : FuncData := Classical.choose T.d_is_work
theorem Tx.F_is_work : FunD K "is_work" "is_work" (defArgs s_is_work) (defBody s_is_work) (defScope s_is_work) [] [] (He.ga K "is_work") T.fd_is_work := Classical.choose_spec T.d_is_work
theorem Tx.k_is_work : PySem.W.keepIn K (.ref (He.ga K "is_work")) = true := T.F_is_work.kp
theorem Tx.bd_is_work : Binds K T.fd_is_work ["program", "at"] [] := T.F_is_work.bindsN fun _ _ _ _ _ _ us hl => match us, hl with | [_, _], _ => rfl
abbrev Fn_is_work (P : Program) (w : World) (base : Heap) (CX : CXT) (k : Nat) (sp : Sp) : Prop := FnOk P w K mg base CX k (He.ga K "is_work") T.fd_is_work ["program", "at"] sp
noncomputable def Tx.fd_need_program : FuncData := Classical.choose T.d_need_program
theorem Tx.F_need_program : FunD K "need_program" "need_program" (defArgs s_need_program) (defBody s_need_program) (defScope s_need_program) [] [] (He.ga K "need_program") T.fd_need_program := Classical.choose_spec T.d_need_program
theorem Tx.k_need_program : PySem.W.keepIn K (.ref (He.ga K "need_program")) = true := T.F_need_program.kp
theorem Tx.bd_need_program : Binds K T.fd_need_program ["program"] [] := T.F_need_program.bindsN fun _ _ _ _ _ _ us hl => match us, hl with | [_], _ => rfl
abbrev Fn_need_program (P : Program) (w : World) (base : Heap) (CX : CXT) (k : Nat) (sp : Sp) : Prop := FnOk P w K mg base CX k (He.ga K "need_program") T.fd_need_program ["program"] sp
noncomputable def Tx.fd_Line___init__ : FuncData := Classical.choose T.d_Line___init__
theorem Tx.F_Line___init__ : FunD K "__init__" "Line.__init__" (defArgs s_Line___init__) (defBody s_Line___init__) (defScope s_Line___init__) [] [] (He.ma K (He.ga K "Line") "__init__") T.fd_Line___init__ := Classical.choose_spec T.d_Line___init__
theorem Tx.k_Line___init__ : PySem.W.keepIn K (.ref (He.ma K (He.ga K "Line") "__init__")) = true := T.F_Line___init__.kp
theorem Tx.bd_Line___init__ : Binds K T.fd_Line___init__ ["self", "text", "row"] [] := T.F_Line___init__.bindsN fun _ _ _ _ _ _ us hl => match us, hl with | [_, _, _], _ => rfl
abbrev Fn_Line___init__ (P : Program) (w : World) (base : Heap) (CX : CXT) (k : Nat) (sp : Sp) : Prop := FnOk P w K mg base CX k (He.ma K (He.ga K "Line") "__init__") T.fd_Line___init__ ["self", "text", "row"] sp
noncomputable def Tx.fd_Line_here : FuncData := Classical.choose T.d_Line_here
theorem Tx.F_Line_here : FunD K "here" "Line.here" (defArgs s_Line_here) (defBody s_Line_here) (defScope s_Line_here) [] [] (He.ma K (He.ga K "Line") "here") T.fd_Line_here := Classical.choose_spec T.d_Line_here
theorem Tx.k_Line_here : PySem.W.keepIn K (.ref (He.ma K (He.ga K "Line") "here")) = true := T.F_Line_here.kp
theorem Tx.bd_Line_here : Binds K T.fd_Line_here ["self"] [] := T.F_Line_here.bindsN fun _ _ _ _ _ _ us hl => match us, hl with | [_], _ => rfl
abbrev Fn_Line_here (P : Program) (w : World) (base : Heap) (CX : CXT) (k : Nat) (sp : Sp) : Prop := FnOk P w K mg base CX k (He.ma K (He.ga K "Line") "here") T.fd_Line_here ["self"] sp
noncomputable def Tx.fd_Line_must : FuncData := Classical.choose T.d_Line_must
theorem Tx.F_Line_must : FunD K "must" "Line.must" (defArgs s_Line_must) (defBody s_Line_must) (defScope s_Line_must) [] [] (He.ma K (He.ga K "Line") "must") T.fd_Line_must := Classical.choose_spec T.d_Line_must
theorem Tx.k_Line_must : PySem.W.keepIn K (.ref (He.ma K (He.ga K "Line") "must")) = true := T.F_Line_must.kp
theorem Tx.bd_Line_must : Binds K T.fd_Line_must ["self", "good"] [] := T.F_Line_must.bindsN fun _ _ _ _ _ _ us hl => match us, hl with | [_, _], _ => rfl
abbrev Fn_Line_must (P : Program) (w : World) (base : Heap) (CX : CXT) (k : Nat) (sp : Sp) : Prop := FnOk P w K mg base CX k (He.ma K (He.ga K "Line") "must") T.fd_Line_must ["self", "good"] sp
noncomputable def Tx.fd_Line_word : FuncData := Classical.choose T.d_Line_word
theorem Tx.F_Line_word : FunD K "word" "Line.word" (defArgs s_Line_word) (defBody s_Line_word) (defScope s_Line_word) [] [] (He.ma K (He.ga K "Line") "word") T.fd_Line_word := Classical.choose_spec T.d_Line_word
theorem Tx.k_Line_word : PySem.W.keepIn K (.ref (He.ma K (He.ga K "Line") "word")) = true := T.F_Line_word.kp
theorem Tx.bd_Line_word : Binds K T.fd_Line_word ["self"] [] := T.F_Line_word.bindsN fun _ _ _ _ _ _ us hl => match us, hl with | [_], _ => rfl
abbrev Fn_Line_word (P : Program) (w : World) (base : Heap) (CX : CXT) (k : Nat) (sp : Sp) : Prop := FnOk P w K mg base CX k (He.ma K (He.ga K "Line") "word") T.fd_Line_word ["self"] sp
noncomputable def Tx.fd_Line_number : FuncData := Classical.choose T.d_Line_number
theorem Tx.F_Line_number : FunD K "number" "Line.number" (defArgs s_Line_number) (defBody s_Line_number) (defScope s_Line_number) [] [] (He.ma K (He.ga K "Line") "number") T.fd_Line_number := Classical.choose_spec T.d_Line_number
theorem Tx.k_Line_number : PySem.W.keepIn K (.ref (He.ma K (He.ga K "Line") "number")) = true := T.F_Line_number.kp
theorem Tx.bd_Line_number : Binds K T.fd_Line_number ["self"] [] := T.F_Line_number.bindsN fun _ _ _ _ _ _ us hl => match us, hl with | [_], _ => rfl
abbrev Fn_Line_number (P : Program) (w : World) (base : Heap) (CX : CXT) (k : Nat) (sp : Sp) : Prop := FnOk P w K mg base CX k (He.ma K (He.ga K "Line") "number") T.fd_Line_number ["self"] sp
noncomputable def Tx.fd_Line_thing_here : FuncData := Classical.choose T.d_Line_thing_here
theorem Tx.F_Line_thing_here : FunD K "thing_here" "Line.thing_here" (defArgs s_Line_thing_here) (defBody s_Line_thing_here) (defScope s_Line_thing_here) [] [] (He.ma K (He.ga K "Line") "thing_here") T.fd_Line_thing_here := Classical.choose_spec T.d_Line_thing_here
theorem Tx.k_Line_thing_here : PySem.W.keepIn K (.ref (He.ma K (He.ga K "Line") "thing_here")) = true := T.F_Line_thing_here.kp
theorem Tx.bd_Line_thing_here : Binds K T.fd_Line_thing_here ["self"] [] := T.F_Line_thing_here.bindsN fun _ _ _ _ _ _ us hl => match us, hl with | [_], _ => rfl
abbrev Fn_Line_thing_here (P : Program) (w : World) (base : Heap) (CX : CXT) (k : Nat) (sp : Sp) : Prop := FnOk P w K mg base CX k (He.ma K (He.ga K "Line") "thing_here") T.fd_Line_thing_here ["self"] sp
noncomputable def Tx.fd_Line_inner : FuncData := Classical.choose T.d_Line_inner
theorem Tx.F_Line_inner : FunD K "inner" "Line.inner" (defArgs s_Line_inner) (defBody s_Line_inner) (defScope s_Line_inner) [] [] (He.ma K (He.ga K "Line") "inner") T.fd_Line_inner := Classical.choose_spec T.d_Line_inner
theorem Tx.k_Line_inner : PySem.W.keepIn K (.ref (He.ma K (He.ga K "Line") "inner")) = true := T.F_Line_inner.kp
theorem Tx.bd_Line_inner : Binds K T.fd_Line_inner ["self"] [] := T.F_Line_inner.bindsN fun _ _ _ _ _ _ us hl => match us, hl with | [_], _ => rfl
abbrev Fn_Line_inner (P : Program) (w : World) (base : Heap) (CX : CXT) (k : Nat) (sp : Sp) : Prop := FnOk P w K mg base CX k (He.ma K (He.ga K "Line") "inner") T.fd_Line_inner ["self"] sp
noncomputable def Tx.fd_Line_steps_here : FuncData := Classical.choose T.d_Line_steps_here
theorem Tx.F_Line_steps_here : FunD K "steps_here" "Line.steps_here" (defArgs s_Line_steps_here) (defBody s_Line_steps_here) (defScope s_Line_steps_here) [] [] (He.ma K (He.ga K "Line") "steps_here") T.fd_Line_steps_here := Classical.choose_spec T.d_Line_steps_here
theorem Tx.k_Line_steps_here : PySem.W.keepIn K (.ref (He.ma K (He.ga K "Line") "steps_here")) = true := T.F_Line_steps_here.kp
theorem Tx.bd_Line_steps_here : Binds K T.fd_Line_steps_here ["self"] [] := T.F_Line_steps_here.bindsN fun _ _ _ _ _ _ us hl => match us, hl with | [_], _ => rfl
abbrev Fn_Line_steps_here (P : Program) (w : World) (base : Heap) (CX : CXT) (k : Nat) (sp : Sp) : Prop := FnOk P w K mg base CX k (He.ma K (He.ga K "Line") "steps_here") T.fd_Line_steps_here ["self"] sp
noncomputable def Tx.fd_Line_step : FuncData := Classical.choose T.d_Line_step
theorem Tx.F_Line_step : FunD K "step" "Line.step" (defArgs s_Line_step) (defBody s_Line_step) (defScope s_Line_step) [] [] (He.ma K (He.ga K "Line") "step") T.fd_Line_step := Classical.choose_spec T.d_Line_step
theorem Tx.k_Line_step : PySem.W.keepIn K (.ref (He.ma K (He.ga K "Line") "step")) = true := T.F_Line_step.kp
theorem Tx.bd_Line_step : Binds K T.fd_Line_step ["self"] [] := T.F_Line_step.bindsN fun _ _ _ _ _ _ us hl => match us, hl with | [_], _ => rfl
abbrev Fn_Line_step (P : Program) (w : World) (base : Heap) (CX : CXT) (k : Nat) (sp : Sp) : Prop := FnOk P w K mg base CX k (He.ma K (He.ga K "Line") "step") T.fd_Line_step ["self"] sp
noncomputable def Tx.fd_read : FuncData := Classical.choose T.d_read
theorem Tx.F_read : FunD K "read" "read" (defArgs s_read) (defBody s_read) (defScope s_read) [] [] (He.ga K "read") T.fd_read := Classical.choose_spec T.d_read
theorem Tx.k_read : PySem.W.keepIn K (.ref (He.ga K "read")) = true := T.F_read.kp
theorem Tx.bd_read : Binds K T.fd_read ["text"] [] := T.F_read.bindsN fun _ _ _ _ _ _ us hl => match us, hl with | [_], _ => rfl
abbrev Fn_read (P : Program) (w : World) (base : Heap) (CX : CXT) (k : Nat) (sp : Sp) : Prop := FnOk P w K mg base CX k (He.ga K "read") T.fd_read ["text"] sp
noncomputable def Tx.fd__law_taken : FuncData := Classical.choose T.d__law_taken
theorem Tx.F__law_taken : FunD K "_law_taken" "_law_taken" (defArgs s__law_taken) (defBody s__law_taken) (defScope s__law_taken) [] [] (He.ga K "_law_taken") T.fd__law_taken := Classical.choose_spec T.d__law_taken
theorem Tx.k__law_taken : PySem.W.keepIn K (.ref (He.ga K "_law_taken")) = true := T.F__law_taken.kp
theorem Tx.bd__law_taken : Binds K T.fd__law_taken ["_law_row", "_law_many"] [] := T.F__law_taken.bindsN fun _ _ _ _ _ _ us hl => match us, hl with | [_, _], _ => rfl
abbrev Fn__law_taken (P : Program) (w : World) (base : Heap) (CX : CXT) (k : Nat) (sp : Sp) : Prop := FnOk P w K mg base CX k (He.ga K "_law_taken") T.fd__law_taken ["_law_row", "_law_many"] sp
noncomputable def Tx.fd__law_alike : FuncData := Classical.choose T.d__law_alike
theorem Tx.F__law_alike : FunD K "_law_alike" "_law_alike" (defArgs s__law_alike) (defBody s__law_alike) (defScope s__law_alike) [] [] (He.ga K "_law_alike") T.fd__law_alike := Classical.choose_spec T.d__law_alike
theorem Tx.k__law_alike : PySem.W.keepIn K (.ref (He.ga K "_law_alike")) = true := T.F__law_alike.kp
theorem Tx.bd__law_alike : Binds K T.fd__law_alike ["_law_found", "_law_due"] [] := T.F__law_alike.bindsN fun _ _ _ _ _ _ us hl => match us, hl with | [_, _], _ => rfl
abbrev Fn__law_alike (P : Program) (w : World) (base : Heap) (CX : CXT) (k : Nat) (sp : Sp) : Prop := FnOk P w K mg base CX k (He.ga K "_law_alike") T.fd__law_alike ["_law_found", "_law_due"] sp
noncomputable def Tx.fd__law_thing : FuncData := Classical.choose T.d__law_thing
theorem Tx.F__law_thing : FunD K "_law_thing" "_law_thing" (defArgs s__law_thing) (defBody s__law_thing) (defScope s__law_thing) [] [] (He.ga K "_law_thing") T.fd__law_thing := Classical.choose_spec T.d__law_thing
theorem Tx.k__law_thing : PySem.W.keepIn K (.ref (He.ga K "_law_thing")) = true := T.F__law_thing.kp
theorem Tx.bd__law_thing : Binds K T.fd__law_thing ["_law_row", "_law_sizes", "_law_within"] [] := T.F__law_thing.bindsN fun _ _ _ _ _ _ us hl => match us, hl with | [_, _, _], _ => rfl
abbrev Fn__law_thing (P : Program) (w : World) (base : Heap) (CX : CXT) (k : Nat) (sp : Sp) : Prop := FnOk P w K mg base CX k (He.ga K "_law_thing") T.fd__law_thing ["_law_row", "_law_sizes", "_law_within"] sp
noncomputable def Tx.fd__law_place : FuncData := Classical.choose T.d__law_place
theorem Tx.F__law_place : FunD K "_law_place" "_law_place" (defArgs s__law_place) (defBody s__law_place) (defScope s__law_place) [] [] (He.ga K "_law_place") T.fd__law_place := Classical.choose_spec T.d__law_place
theorem Tx.k__law_place : PySem.W.keepIn K (.ref (He.ga K "_law_place")) = true := T.F__law_place.kp
theorem Tx.bd__law_place : Binds K T.fd__law_place ["_law_row", "_law_sizes", "_law_within"] [] := T.F__law_place.bindsN fun _ _ _ _ _ _ us hl => match us, hl with | [_, _, _], _ => rfl
abbrev Fn__law_place (P : Program) (w : World) (base : Heap) (CX : CXT) (k : Nat) (sp : Sp) : Prop := FnOk P w K mg base CX k (He.ga K "_law_place") T.fd__law_place ["_law_row", "_law_sizes", "_law_within"] sp
noncomputable def Tx.fd__law_step : FuncData := Classical.choose T.d__law_step
theorem Tx.F__law_step : FunD K "_law_step" "_law_step" (defArgs s__law_step) (defBody s__law_step) (defScope s__law_step) [] [] (He.ga K "_law_step") T.fd__law_step := Classical.choose_spec T.d__law_step
theorem Tx.k__law_step : PySem.W.keepIn K (.ref (He.ga K "_law_step")) = true := T.F__law_step.kp
theorem Tx.bd__law_step : Binds K T.fd__law_step ["_law_row", "_law_shapes", "_law_at", "_law_left", "_law_within"] [] := T.F__law_step.bindsN fun _ _ _ _ _ _ us hl => match us, hl with | [_, _, _, _, _], _ => rfl
abbrev Fn__law_step (P : Program) (w : World) (base : Heap) (CX : CXT) (k : Nat) (sp : Sp) : Prop := FnOk P w K mg base CX k (He.ga K "_law_step") T.fd__law_step ["_law_row", "_law_shapes", "_law_at", "_law_left", "_law_within"] sp
noncomputable def Tx.fd__law_body : FuncData := Classical.choose T.d__law_body
theorem Tx.F__law_body : FunD K "_law_body" "_law_body" (defArgs s__law_body) (defBody s__law_body) (defScope s__law_body) [] [] (He.ga K "_law_body") T.fd__law_body := Classical.choose_spec T.d__law_body
theorem Tx.k__law_body : PySem.W.keepIn K (.ref (He.ga K "_law_body")) = true := T.F__law_body.kp
theorem Tx.bd__law_body : Binds K T.fd__law_body ["_law_row", "_law_shapes", "_law_at", "_law_left", "_law_within"] [] := T.F__law_body.bindsN fun _ _ _ _ _ _ us hl => match us, hl with | [_, _, _, _, _], _ => rfl
abbrev Fn__law_body (P : Program) (w : World) (base : Heap) (CX : CXT) (k : Nat) (sp : Sp) : Prop := FnOk P w K mg base CX k (He.ga K "_law_body") T.fd__law_body ["_law_row", "_law_shapes", "_law_at", "_law_left", "_law_within"] sp
noncomputable def Tx.fd__law_program : FuncData := Classical.choose T.d__law_program
theorem Tx.F__law_program : FunD K "_law_program" "_law_program" (defArgs s__law_program) (defBody s__law_program) (defScope s__law_program) [] [] (He.ga K "_law_program") T.fd__law_program := Classical.choose_spec T.d__law_program
theorem Tx.k__law_program : PySem.W.keepIn K (.ref (He.ga K "_law_program")) = true := T.F__law_program.kp
theorem Tx.bd__law_program : Binds K T.fd__law_program ["_law_row", "_law_most"] [] := T.F__law_program.bindsN fun _ _ _ _ _ _ us hl => match us, hl with | [_, _], _ => rfl
abbrev Fn__law_program (P : Program) (w : World) (base : Heap) (CX : CXT) (k : Nat) (sp : Sp) : Prop := FnOk P w K mg base CX k (He.ga K "_law_program") T.fd__law_program ["_law_row", "_law_most"] sp
noncomputable def Tx.fd__law_ways : FuncData := Classical.choose T.d__law_ways
theorem Tx.F__law_ways : FunD K "_law_ways" "_law_ways" (defArgs s__law_ways) (defBody s__law_ways) (defScope s__law_ways) [] [] (He.ga K "_law_ways") T.fd__law_ways := Classical.choose_spec T.d__law_ways
theorem Tx.k__law_ways : PySem.W.keepIn K (.ref (He.ga K "_law_ways")) = true := T.F__law_ways.kp
theorem Tx.bd__law_ways : Binds K T.fd__law_ways ["_law_row", "_law_program_here", "_law_some"] [] := T.F__law_ways.bindsN fun _ _ _ _ _ _ us hl => match us, hl with | [_, _, _], _ => rfl
abbrev Fn__law_ways (P : Program) (w : World) (base : Heap) (CX : CXT) (k : Nat) (sp : Sp) : Prop := FnOk P w K mg base CX k (He.ga K "_law_ways") T.fd__law_ways ["_law_row", "_law_program_here", "_law_some"] sp
noncomputable def Tx.fd__law_cells : FuncData := Classical.choose T.d__law_cells
theorem Tx.F__law_cells : FunD K "_law_cells" "_law_cells" (defArgs s__law_cells) (defBody s__law_cells) (defScope s__law_cells) [] [] (He.ga K "_law_cells") T.fd__law_cells := Classical.choose_spec T.d__law_cells
theorem Tx.k__law_cells : PySem.W.keepIn K (.ref (He.ga K "_law_cells")) = true := T.F__law_cells.kp
theorem Tx.bd__law_cells : Binds K T.fd__law_cells [] [] := T.F__law_cells.bindsN fun _ _ _ _ _ _ us hl => match us, hl with | [], _ => rfl
abbrev Fn__law_cells (P : Program) (w : World) (base : Heap) (CX : CXT) (k : Nat) (sp : Sp) : Prop := FnOk P w K mg base CX k (He.ga K "_law_cells") T.fd__law_cells [] sp
noncomputable def Tx.fd__law_words : FuncData := Classical.choose T.d__law_words
theorem Tx.F__law_words : FunD K "_law_words" "_law_words" (defArgs s__law_words) (defBody s__law_words) (defScope s__law_words) [] [] (He.ga K "_law_words") T.fd__law_words := Classical.choose_spec T.d__law_words
theorem Tx.k__law_words : PySem.W.keepIn K (.ref (He.ga K "_law_words")) = true := T.F__law_words.kp
theorem Tx.bd__law_words : Binds K T.fd__law_words ["_law_part"] [] := T.F__law_words.bindsN fun _ _ _ _ _ _ us hl => match us, hl with | [_], _ => rfl
abbrev Fn__law_words (P : Program) (w : World) (base : Heap) (CX : CXT) (k : Nat) (sp : Sp) : Prop := FnOk P w K mg base CX k (He.ga K "_law_words") T.fd__law_words ["_law_part"] sp
noncomputable def Tx.fd__law_text : FuncData := Classical.choose T.d__law_text
theorem Tx.F__law_text : FunD K "_law_text" "_law_text" (defArgs s__law_text) (defBody s__law_text) (defScope s__law_text) [] [] (He.ga K "_law_text") T.fd__law_text := Classical.choose_spec T.d__law_text
theorem Tx.k__law_text : PySem.W.keepIn K (.ref (He.ga K "_law_text")) = true := T.F__law_text.kp
theorem Tx.bd__law_text : Binds K T.fd__law_text ["_law_program_here"] [] := T.F__law_text.bindsN fun _ _ _ _ _ _ us hl => match us, hl with | [_], _ => rfl
abbrev Fn__law_text (P : Program) (w : World) (base : Heap) (CX : CXT) (k : Nat) (sp : Sp) : Prop := FnOk P w K mg base CX k (He.ga K "_law_text") T.fd__law_text ["_law_program_here"] sp
noncomputable def Tx.fd__law_is_number : FuncData := Classical.choose T.d__law_is_number
theorem Tx.F__law_is_number : FunD K "_law_is_number" "_law_is_number" (defArgs s__law_is_number) (defBody s__law_is_number) (defScope s__law_is_number) [] [] (He.ga K "_law_is_number") T.fd__law_is_number := Classical.choose_spec T.d__law_is_number
theorem Tx.k__law_is_number : PySem.W.keepIn K (.ref (He.ga K "_law_is_number")) = true := T.F__law_is_number.kp
theorem Tx.bd__law_is_number : Binds K T.fd__law_is_number ["_law_part", "_law_below"] [] := T.F__law_is_number.bindsN fun _ _ _ _ _ _ us hl => match us, hl with | [_, _], _ => rfl
abbrev Fn__law_is_number (P : Program) (w : World) (base : Heap) (CX : CXT) (k : Nat) (sp : Sp) : Prop := FnOk P w K mg base CX k (He.ga K "_law_is_number") T.fd__law_is_number ["_law_part", "_law_below"] sp
noncomputable def Tx.fd__law_is_thing : FuncData := Classical.choose T.d__law_is_thing
theorem Tx.F__law_is_thing : FunD K "_law_is_thing" "_law_is_thing" (defArgs s__law_is_thing) (defBody s__law_is_thing) (defScope s__law_is_thing) [] [] (He.ga K "_law_is_thing") T.fd__law_is_thing := Classical.choose_spec T.d__law_is_thing
theorem Tx.k__law_is_thing : PySem.W.keepIn K (.ref (He.ga K "_law_is_thing")) = true := T.F__law_is_thing.kp
theorem Tx.bd__law_is_thing : Binds K T.fd__law_is_thing ["_law_thing_here", "_law_sizes", "_law_within"] [] := T.F__law_is_thing.bindsN fun _ _ _ _ _ _ us hl => match us, hl with | [_, _, _], _ => rfl
abbrev Fn__law_is_thing (P : Program) (w : World) (base : Heap) (CX : CXT) (k : Nat) (sp : Sp) : Prop := FnOk P w K mg base CX k (He.ga K "_law_is_thing") T.fd__law_is_thing ["_law_thing_here", "_law_sizes", "_law_within"] sp
noncomputable def Tx.fd__law_is_step : FuncData := Classical.choose T.d__law_is_step
theorem Tx.F__law_is_step : FunD K "_law_is_step" "_law_is_step" (defArgs s__law_is_step) (defBody s__law_is_step) (defScope s__law_is_step) [] [] (He.ga K "_law_is_step") T.fd__law_is_step := Classical.choose_spec T.d__law_is_step
theorem Tx.k__law_is_step : PySem.W.keepIn K (.ref (He.ga K "_law_is_step")) = true := T.F__law_is_step.kp
theorem Tx.bd__law_is_step : Binds K T.fd__law_is_step ["_law_shapes", "_law_at", "_law_step_here", "_law_within"] [] := T.F__law_is_step.bindsN fun _ _ _ _ _ _ us hl => match us, hl with | [_, _, _, _], _ => rfl
abbrev Fn__law_is_step (P : Program) (w : World) (base : Heap) (CX : CXT) (k : Nat) (sp : Sp) : Prop := FnOk P w K mg base CX k (He.ga K "_law_is_step") T.fd__law_is_step ["_law_shapes", "_law_at", "_law_step_here", "_law_within"] sp
noncomputable def Tx.fd__law_is_body : FuncData := Classical.choose T.d__law_is_body
theorem Tx.F__law_is_body : FunD K "_law_is_body" "_law_is_body" (defArgs s__law_is_body) (defBody s__law_is_body) (defScope s__law_is_body) [] [] (He.ga K "_law_is_body") T.fd__law_is_body := Classical.choose_spec T.d__law_is_body
theorem Tx.k__law_is_body : PySem.W.keepIn K (.ref (He.ga K "_law_is_body")) = true := T.F__law_is_body.kp
theorem Tx.bd__law_is_body : Binds K T.fd__law_is_body ["_law_shapes", "_law_at", "_law_body_here", "_law_within"] [] := T.F__law_is_body.bindsN fun _ _ _ _ _ _ us hl => match us, hl with | [_, _, _, _], _ => rfl
abbrev Fn__law_is_body (P : Program) (w : World) (base : Heap) (CX : CXT) (k : Nat) (sp : Sp) : Prop := FnOk P w K mg base CX k (He.ga K "_law_is_body") T.fd__law_is_body ["_law_shapes", "_law_at", "_law_body_here", "_law_within"] sp
noncomputable def Tx.fd__law_count : FuncData := Classical.choose T.d__law_count
theorem Tx.F__law_count : FunD K "_law_count" "_law_count" (defArgs s__law_count) (defBody s__law_count) (defScope s__law_count) [] [] (He.ga K "_law_count") T.fd__law_count := Classical.choose_spec T.d__law_count
theorem Tx.k__law_count : PySem.W.keepIn K (.ref (He.ga K "_law_count")) = true := T.F__law_count.kp
theorem Tx.bd__law_count : Binds K T.fd__law_count ["_law_body_here"] [] := T.F__law_count.bindsN fun _ _ _ _ _ _ us hl => match us, hl with | [_], _ => rfl
abbrev Fn__law_count (P : Program) (w : World) (base : Heap) (CX : CXT) (k : Nat) (sp : Sp) : Prop := FnOk P w K mg base CX k (He.ga K "_law_count") T.fd__law_count ["_law_body_here"] sp
noncomputable def Tx.fd__law_is_program : FuncData := Classical.choose T.d__law_is_program
theorem Tx.F__law_is_program : FunD K "_law_is_program" "_law_is_program" (defArgs s__law_is_program) (defBody s__law_is_program) (defScope s__law_is_program) [] [] (He.ga K "_law_is_program") T.fd__law_is_program := Classical.choose_spec T.d__law_is_program
theorem Tx.k__law_is_program : PySem.W.keepIn K (.ref (He.ga K "_law_is_program")) = true := T.F__law_is_program.kp
theorem Tx.bd__law_is_program : Binds K T.fd__law_is_program ["_law_program_here"] [] := T.F__law_is_program.bindsN fun _ _ _ _ _ _ us hl => match us, hl with | [_], _ => rfl
abbrev Fn__law_is_program (P : Program) (w : World) (base : Heap) (CX : CXT) (k : Nat) (sp : Sp) : Prop := FnOk P w K mg base CX k (He.ga K "_law_is_program") T.fd__law_is_program ["_law_program_here"] sp
noncomputable def Tx.fd__law_is_figures : FuncData := Classical.choose T.d__law_is_figures
theorem Tx.F__law_is_figures : FunD K "_law_is_figures" "_law_is_figures" (defArgs s__law_is_figures) (defBody s__law_is_figures) (defScope s__law_is_figures) [] [] (He.ga K "_law_is_figures") T.fd__law_is_figures := Classical.choose_spec T.d__law_is_figures
theorem Tx.k__law_is_figures : PySem.W.keepIn K (.ref (He.ga K "_law_is_figures")) = true := T.F__law_is_figures.kp
theorem Tx.bd__law_is_figures : Binds K T.fd__law_is_figures ["_law_word"] [] := T.F__law_is_figures.bindsN fun _ _ _ _ _ _ us hl => match us, hl with | [_], _ => rfl
abbrev Fn__law_is_figures (P : Program) (w : World) (base : Heap) (CX : CXT) (k : Nat) (sp : Sp) : Prop := FnOk P w K mg base CX k (He.ga K "_law_is_figures") T.fd__law_is_figures ["_law_word"] sp
noncomputable def Tx.fd__law_thing_at : FuncData := Classical.choose T.d__law_thing_at
theorem Tx.F__law_thing_at : FunD K "_law_thing_at" "_law_thing_at" (defArgs s__law_thing_at) (defBody s__law_thing_at) (defScope s__law_thing_at) [] [] (He.ga K "_law_thing_at") T.fd__law_thing_at := Classical.choose_spec T.d__law_thing_at
theorem Tx.k__law_thing_at : PySem.W.keepIn K (.ref (He.ga K "_law_thing_at")) = true := T.F__law_thing_at.kp
theorem Tx.bd__law_thing_at : Binds K T.fd__law_thing_at ["_law_words_here", "_law_at"] [] := T.F__law_thing_at.bindsN fun _ _ _ _ _ _ us hl => match us, hl with | [_, _], _ => rfl
abbrev Fn__law_thing_at (P : Program) (w : World) (base : Heap) (CX : CXT) (k : Nat) (sp : Sp) : Prop := FnOk P w K mg base CX k (He.ga K "_law_thing_at") T.fd__law_thing_at ["_law_words_here", "_law_at"] sp
noncomputable def Tx.fd__law_things_at : FuncData := Classical.choose T.d__law_things_at
theorem Tx.F__law_things_at : FunD K "_law_things_at" "_law_things_at" (defArgs s__law_things_at) (defBody s__law_things_at) (defScope s__law_things_at) [] [] (He.ga K "_law_things_at") T.fd__law_things_at := Classical.choose_spec T.d__law_things_at
theorem Tx.k__law_things_at : PySem.W.keepIn K (.ref (He.ga K "_law_things_at")) = true := T.F__law_things_at.kp
theorem Tx.bd__law_things_at : Binds K T.fd__law_things_at ["_law_words_here", "_law_at"] [] := T.F__law_things_at.bindsN fun _ _ _ _ _ _ us hl => match us, hl with | [_, _], _ => rfl
abbrev Fn__law_things_at (P : Program) (w : World) (base : Heap) (CX : CXT) (k : Nat) (sp : Sp) : Prop := FnOk P w K mg base CX k (He.ga K "_law_things_at") T.fd__law_things_at ["_law_words_here", "_law_at"] sp
noncomputable def Tx.fd__law_step_at : FuncData := Classical.choose T.d__law_step_at
theorem Tx.F__law_step_at : FunD K "_law_step_at" "_law_step_at" (defArgs s__law_step_at) (defBody s__law_step_at) (defScope s__law_step_at) [] [] (He.ga K "_law_step_at") T.fd__law_step_at := Classical.choose_spec T.d__law_step_at
theorem Tx.k__law_step_at : PySem.W.keepIn K (.ref (He.ga K "_law_step_at")) = true := T.F__law_step_at.kp
theorem Tx.bd__law_step_at : Binds K T.fd__law_step_at ["_law_words_here", "_law_at"] [] := T.F__law_step_at.bindsN fun _ _ _ _ _ _ us hl => match us, hl with | [_, _], _ => rfl
abbrev Fn__law_step_at (P : Program) (w : World) (base : Heap) (CX : CXT) (k : Nat) (sp : Sp) : Prop := FnOk P w K mg base CX k (He.ga K "_law_step_at") T.fd__law_step_at ["_law_words_here", "_law_at"] sp
noncomputable def Tx.fd__law_body_at : FuncData := Classical.choose T.d__law_body_at
theorem Tx.F__law_body_at : FunD K "_law_body_at" "_law_body_at" (defArgs s__law_body_at) (defBody s__law_body_at) (defScope s__law_body_at) [] [] (He.ga K "_law_body_at") T.fd__law_body_at := Classical.choose_spec T.d__law_body_at
theorem Tx.k__law_body_at : PySem.W.keepIn K (.ref (He.ga K "_law_body_at")) = true := T.F__law_body_at.kp
theorem Tx.bd__law_body_at : Binds K T.fd__law_body_at ["_law_words_here", "_law_at"] [] := T.F__law_body_at.bindsN fun _ _ _ _ _ _ us hl => match us, hl with | [_, _], _ => rfl
abbrev Fn__law_body_at (P : Program) (w : World) (base : Heap) (CX : CXT) (k : Nat) (sp : Sp) : Prop := FnOk P w K mg base CX k (He.ga K "_law_body_at") T.fd__law_body_at ["_law_words_here", "_law_at"] sp
noncomputable def Tx.fd__law_reading : FuncData := Classical.choose T.d__law_reading
theorem Tx.F__law_reading : FunD K "_law_reading" "_law_reading" (defArgs s__law_reading) (defBody s__law_reading) (defScope s__law_reading) [] [] (He.ga K "_law_reading") T.fd__law_reading := Classical.choose_spec T.d__law_reading
theorem Tx.k__law_reading : PySem.W.keepIn K (.ref (He.ga K "_law_reading")) = true := T.F__law_reading.kp
theorem Tx.bd__law_reading : Binds K T.fd__law_reading ["_law_text_here"] [] := T.F__law_reading.bindsN fun _ _ _ _ _ _ us hl => match us, hl with | [_], _ => rfl
abbrev Fn__law_reading (P : Program) (w : World) (base : Heap) (CX : CXT) (k : Nat) (sp : Sp) : Prop := FnOk P w K mg base CX k (He.ga K "_law_reading") T.fd__law_reading ["_law_text_here"] sp
noncomputable def Tx.fd__law_told : FuncData := Classical.choose T.d__law_told
theorem Tx.F__law_told : FunD K "_law_told" "_law_told" (defArgs s__law_told) (defBody s__law_told) (defScope s__law_told) [] [] (He.ga K "_law_told") T.fd__law_told := Classical.choose_spec T.d__law_told
theorem Tx.k__law_told : PySem.W.keepIn K (.ref (He.ga K "_law_told")) = true := T.F__law_told.kp
theorem Tx.bd__law_told : Binds K T.fd__law_told ["_law_text_here"] [] := T.F__law_told.bindsN fun _ _ _ _ _ _ us hl => match us, hl with | [_], _ => rfl
abbrev Fn__law_told (P : Program) (w : World) (base : Heap) (CX : CXT) (k : Nat) (sp : Sp) : Prop := FnOk P w K mg base CX k (He.ga K "_law_told") T.fd__law_told ["_law_text_here"] sp
noncomputable def Tx.fd__law_changed : FuncData := Classical.choose T.d__law_changed
theorem Tx.F__law_changed : FunD K "_law_changed" "_law_changed" (defArgs s__law_changed) (defBody s__law_changed) (defScope s__law_changed) [] [] (He.ga K "_law_changed") T.fd__law_changed := Classical.choose_spec T.d__law_changed
theorem Tx.k__law_changed : PySem.W.keepIn K (.ref (He.ga K "_law_changed")) = true := T.F__law_changed.kp
theorem Tx.bd__law_changed : Binds K T.fd__law_changed ["_law_row", "_law_text_here"] [] := T.F__law_changed.bindsN fun _ _ _ _ _ _ us hl => match us, hl with | [_, _], _ => rfl
abbrev Fn__law_changed (P : Program) (w : World) (base : Heap) (CX : CXT) (k : Nat) (sp : Sp) : Prop := FnOk P w K mg base CX k (He.ga K "_law_changed") T.fd__law_changed ["_law_row", "_law_text_here"] sp
noncomputable def Tx.fd_law : FuncData := Classical.choose T.d_law
theorem Tx.F_law : FunD K "law" "law" (defArgs s_law) (defBody s_law) (defScope s_law) [] [] (He.ga K "law") T.fd_law := Classical.choose_spec T.d_law
theorem Tx.k_law : PySem.W.keepIn K (.ref (He.ga K "law")) = true := T.F_law.kp
theorem Tx.bd_law : Binds K T.fd_law ["_law_script"] [] := T.F_law.bindsN fun _ _ _ _ _ _ us hl => match us, hl with | [_], _ => rfl
abbrev Fn_law (P : Program) (w : World) (base : Heap) (CX : CXT) (k : Nat) (sp : Sp) : Prop := FnOk P w K mg base CX k (He.ga K "law") T.fd_law ["_law_script"] sp
end
end Hw
set_option maxRecDepth 100000
set_option maxHeartbeats 4000000
/-! PC1: the program's own look at numbers and things -/
namespace Hw
open PySem PySem.Spec PyProof.Rows L2 Evl
local macro_rules | `(tactic| walk_at "dd") => `(tactic| first | rfl | decide | (simp; done) | omega)
local macro_rules | `(tactic| walk_at "td") => `(tactic| first | assumption | exact Td.int _ | exact Td.bl _ | exact Td.str _ | exact Td.non | exact Td.tup (by assumption) (by assumption))
local macro_rules | `(tactic| walk_at "ev") => `(tactic| first
  | exact ed_ci | exact ed_cs | exact ed_cb | exact ed_cn
  | (apply ed_cg; assumption)
  | (apply ed_var; (rfl); (walk_at "td"))
  | (apply ed_ixT; (walk_at "ev"); (walk_at "ev"); (first | rfl | assumption))
  | (apply ed_rowI; (rfl); (assumption); (walk_at "ev"); (rfl))
  | (apply ed_ixL; (apply EvDL.rd; walk_at "edl"); (walk_at "ev"); (rfl))
  | (apply ed_intb; (walk_at "ev"))
  | (apply ed_len; walk_at "ev")
  | (apply ed_lenV; (apply ev_rowR; (rfl); (assumption); (walk_at "ev"); (rfl)); (assumption))
  | (apply ed_Ii; (walk_at "ev"); (walk_at "ev"); (walk_at "cc"))
  | (apply ed_isi; (walk_at "ev"); (rfl))
  | (apply ed_I0i; (walk_at "ev"); (walk_at "ev"))
  | (apply ed_I0b; (walk_at "ev"); (walk_at "ev"))
  | (apply ed_eqi; (walk_at "ev"); (walk_at "ev"))
  | (apply ed_nei; (walk_at "ev"); (walk_at "ev"))
  | (apply ed_andF; walk_at "ev")
  | (apply ed_andV; (walk_at "ev"); (intro _; walk_at "ev"))
  | (apply ed_orT; walk_at "ev")
  | (apply ed_orV; (walk_at "ev"); (intro _; walk_at "ev"))
  | (apply ed_notT; walk_at "ev")
  | (apply ed_notF; walk_at "ev")
  | (apply ed_notV; walk_at "ev")
  | (apply ed_chain; (walk_at "ev"); (walk_at "ev"); (intro _; walk_at "ev"))
  | (apply ed_eqS; (walk_at "ev"); (walk_at "ev"); (walk_at "bb"); (walk_at "bb"))
  | (apply ed_neS; (walk_at "ev"); (walk_at "ev"); (walk_at "bb"); (walk_at "bb"))
  | (apply ed_inT; (walk_at "ev"); (walk_at "ev"); (rfl); (rfl))
  | (apply ed_niT; (walk_at "ev"); (walk_at "ev"); (rfl); (rfl))
  | (apply ed_tup; (walk_at "eva"); (walk_at "bb"))
  | (apply ed_sl; (walk_at "ev"); (walk_at "evo"); (walk_at "evo"))
  | (apply ed_eqN; (apply EvDL.rd; walk_at "edl"); (walk_at "edl"); (walk_at "bb"))
  | (apply ed_neN; (apply EvDL.rd; walk_at "edl"); (walk_at "edl"); (walk_at "bb"))
  | (apply ed_ixL; (apply edr_var; (rfl); (assumption); (assumption)); (walk_at "ev"); (first | rfl | assumption))
  | (apply ed_lenL; (apply edr_var; (rfl); (assumption); (assumption)))
  | (apply ed_call; (walk_at "eva"); (walk_at "post")))
local macro_rules | `(tactic| walk_at "edl") => `(tactic| first
  | assumption
  | (apply edl_lst; (walk_at "eva"); (walk_at "bb")))
local macro_rules | `(tactic| walk_at "eva") => `(tactic| first
  | exact eda_nil
  | (apply eda_cons; (walk_at "ev"); (walk_at "eva")))
local macro_rules | `(tactic| walk_at "evo") => `(tactic| first
  | exact eok_none
  | (apply eok_some; walk_at "ev"))
local macro_rules | `(tactic| walk_at "bb") => `(tactic| first | rfl | assumption | (simp; done) | (simp; omega) | decide +kernel)
local macro_rules | `(tactic| walk_at "et") => `(tactic| first
  | exact tk_yes
  | (apply tk_andF; walk_at "et")
  | (apply tk_and; (walk_at "et"); (intro _; walk_at "et"))
  | (apply tk_orT; walk_at "et")
  | (apply tk_or; (walk_at "et"); (intro _; walk_at "et"))
  | (apply tk_notT; walk_at "et")
  | (apply tk_notF; walk_at "et")
  | (apply tk_not; walk_at "et")
  | (apply tk_v; walk_at "ev")
  | (apply tk_vB; walk_at "ev"))
local macro_rules | `(tactic| walk_at "if") => `(tactic| first
  | (apply pst_whenF; (walk_at "et"); (walk_at "bb"))
  | (apply pst_whenT; (walk_at "et"); (walk_at "bb")))
local macro_rules | `(tactic| walk_at "post") => `(tactic| first | assumption | exact ⟨_, _, rfl, rfl⟩ | exact ⟨_, _, _, _, rfl, by omega, by omega, rfl⟩ | exact ⟨_, _, _, 0, rfl, by omega, by omega, rfl⟩)
local macro_rules | `(tactic| walk_at "cc") => `(tactic| first | assumption | decide | omega | (refine ⟨?_, ?_⟩ <;> first | decide | omega) | (exact Or.inl (by constructor <;> omega)))

section
variable {P : Program} {w : World} {K : PySem.W.Frag} {mg : Str → Option Value} {base : Heap} (T : Tx K mg)
include T
def isNumD : PyData → Int → Bool
  | .int i, b => decide (0 ≤ i) && decide (i < b)
  | _, _ => false
def pNumber (ds : List PyData) (d : PyData) : Prop := ∃ x b, ds = [x, .int b] ∧ d = .bool (isNumD x b)
theorem ok_is_number : Fn_is_number T P w base CX0 1 (spF K pNumber) := by
  refine T.F_is_number.ok sc_is_number (spF_len fun ds d h => by obtain ⟨x, b, rfl, _⟩ := h; rfl) fun cdv A outer s H vs Q E hr h => ?_
  obtain ⟨ds, d, ht, ⟨x, b, rfl, rfl⟩, k⟩ := h
  obtain _ | ⟨t1, _ | ⟨t2, _ | _⟩⟩ := ht
  refine ⟨_, (pss_one (ps_ret (pe_and (pe_callB (kc_isi K) rfl T.b_isinstance (by decide +kernel) (pa_cons (pv 0) (pa_cons (pe_bltn (v := .ty "int") rfl T.b_int (by decide +kernel) rfl) pa_nil))) (pe_and (pe_not (pe_callB (kc_isi K) rfl T.b_isinstance (by decide +kernel) (pa_cons (pv 0) (pa_cons (pe_bltn (v := .ty "bool") rfl T.b_bool (by decide +kernel) rfl) pa_nil)))) (pe_one (pe_chain op_le op_lt pe_int (pv 0) (pv 1))))))), ?_⟩
  cases t2
  cases x with
  | list _ => cases t1
  | dict _ => cases t1
  | _ =>
    (try cases t1)
    refine sd_ret ?_ k
    apply ed_is
    · walk_at "ev"
    · first | rfl | simp [isNumD]
/-- is_thing: 6 - n within at most -/
def pThing (n : Nat) (ds : List PyData) (d : PyData) : Prop := ∃ (t : Th) (ps os w : Nat), ds = [encT t, .tuple [.int (ps : Int), .int (os : Int)], .int (w : Int)] ∧ w ≤ 5 ∧ 6 ≤ w + n ∧ d = .bool (okT ps os t w)
theorem ok_is_thing (GN : Fn_is_number T P w base CX0 1 (spF K pNumber)) : ∀ n : Nat, Fn_is_thing T P w base CX0 (n + 2) (spF K (pThing n)) := by
  intro n
  induction n with
  | zero => exact fn_vac fun vs H Q E ⟨ds, d, _, ⟨t, ps, os, w, _, h1, h2, _⟩, _⟩ => by omega
  | succ n ih =>
    have G_is_number := GN
    have G_is_thing := ih
    refine T.F_is_thing.ok sc_is_thing (spF_len fun ds d h => by obtain ⟨t, ps, os, w, rfl, _⟩ := h; rfl) fun cdv A outer s H vs Q E hr h => ?_
    obtain ⟨ds, d, ht, ⟨t, ps, os, w, rfl, hw5, hw, rfl⟩, k⟩ := h
    obtain _ | ⟨t1, _ | ⟨t2, _ | ⟨t3, _ | _⟩⟩⟩ := ht
    refine ⟨_, (pss_cons (ps_if (PW.pt (pw_or (pt_not (pt_val (pe_callB (kc_isi K) rfl T.b_isinstance (by decide +kernel) (pa_cons (pv 0) (pa_cons (pe_bltn (v := .ty "tuple") rfl T.b_tuple (by decide +kernel) rfl) pa_nil))))) (pw_or (pt_cmpR op_lt (pe_callB (kc_len K) rfl T.b_len PySem.boot_len (pa_cons (pv 0) pa_nil)) pe_int (nomark _)) (pw_or1 (pt_cmpR op_gt (pv 2) (pe_gint rfl T.g_MOST_WITHIN) (nomark _))))))
    (pss_one (ps_ret pe_bl))
    pss_nil)
  (pss_cons (ps_set (i := 3) sc_is_thing.nd rfl (Or.inl rfl) (pe_ix (kix_tup K) (pv 0) pe_int (fun _ _ => rfl)))
  (pss_cons (ps_if (pt_cmpR (kop_eq K hr.units) (pv 3) pe_str (nomark _))
    (pss_one (ps_ret (pe_and (pe_cmpR op_eq (pe_callB (kc_len K) rfl T.b_len PySem.boot_len (pa_cons (pv 0) pa_nil)) pe_int (nomark _)) (pe_and (pe_call G_is_thing (hr.mono (by omega)) (by rfl) T.g_is_thing T.k_is_thing T.bd_is_thing .nil pass0 (pa_cons (pe_ix (kix_tup K) (pv 0) pe_int (fun _ _ => rfl)) (pa_cons (pv 1) (pa_cons (pe_op op_add (pv 2) pe_int) pa_nil)))) (pe_one (pe_call G_is_thing (hr.mono (by omega)) (by rfl) T.g_is_thing T.k_is_thing T.bd_is_thing .nil pass0 (pa_cons (pe_ix (kix_tup K) (pv 0) pe_int (fun _ _ => rfl)) (pa_cons (pv 1) (pa_cons (pe_op op_add (pv 2) pe_int) pa_nil)))))))))
    pss_nil)
  (pss_cons (ps_if (pt_cmpR (kop_eq K hr.units) (pv 3) pe_str (nomark _))
    (pss_one (ps_ret (pe_and (pe_cmpR op_eq (pe_callB (kc_len K) rfl T.b_len PySem.boot_len (pa_cons (pv 0) pa_nil)) pe_int (nomark _)) (pe_one (pe_call G_is_thing (hr.mono (by omega)) (by rfl) T.g_is_thing T.k_is_thing T.bd_is_thing .nil pass0 (pa_cons (pe_ix (kix_tup K) (pv 0) pe_int (fun _ _ => rfl)) (pa_cons (pv 1) (pa_cons (pe_op op_add (pv 2) pe_int) pa_nil))))))))
    pss_nil)
  (pss_cons (ps_set (i := 4) sc_is_thing.nd rfl (Or.inl rfl) (pe_disp (pps_cons pe_str (pe_gint rfl T.g_NUMBERS) (pps_cons pe_str (pe_ix (kix_tup K) (pv 1) pe_int (fun _ _ => rfl)) (pps_cons pe_str (pe_ix (kix_tup K) (pv 1) pe_int (fun _ _ => rfl)) pps_nil))) (by rfl) (by rfl) (fun z => by cases z) (by decide)))
  (pss_one (ps_ret (pe_and (pe_cmpR (kop_in K) (pv 3) (pe_tup (pa_cons pe_str (pa_cons pe_str (pa_cons pe_str pa_nil)))) rfl) (pe_and (pe_cmpR op_eq (pe_callB (kc_len K) rfl T.b_len PySem.boot_len (pa_cons (pv 0) pa_nil)) pe_int (nomark _)) (pe_one (pe_call G_is_number (hr.mono (by omega)) (by rfl) T.g_is_number T.k_is_number T.bd_is_number .nil pass0 (pa_cons (pe_ix (kix_tup K) (pv 0) pe_int (fun _ _ => rfl)) (pa_cons (pe_dget (hu_of hr) (pv 4) (pv 3) (fun _ _ => rfl)) pa_nil))))))))))))), ?_⟩
    cases t3
    refine Pst.go (K := K) ?_
    by_cases h4 : w ≤ 4
    · cases t with
      | num m =>
        walk_at "if"
        apply pst_asg
        · walk_at "ev"
        intro v3 H1 e1 t5
        cases t5
        replace t1 := t1.ex e1
        replace t2 := t2.ex e1
        replace k := fun v H' (e : Ex H1 H') => k v H' (e1.trans e)
        clear e1
        walk_at "if"
        walk_at "if"
        apply pst_disp [(Sum.inr "num", .int 3), (Sum.inr "par", .int (ps : Int)), (Sum.inr "own", .int (os : Int))]
        · apply eps_cons
          · exact ev_c
          · exact ev_c
          · apply eps_cons
            · exact ev_c
            · refine EvD.iv (K := K) (i := _) ?_
              walk_at "ev"
            · apply eps_cons
              · exact ev_c
              · refine EvD.iv (K := K) (i := _) ?_
                walk_at "ev"
              · exact eps_nil
        · exact (by decide : 3 ≤ 15)
        intro p H2 hp e2 hD
        replace t1 := t1.ex e2
        replace t2 := t2.ex e2
        replace k := fun v H' (e : Ex H2 H') => k v H' (e2.trans e)
        apply pst_ret _ k
        apply ed_is
        · apply ed_andV
          · walk_at "ev"
          intro _
          apply ed_andV
          · walk_at "ev"
          intro _
          apply ed_call
          · apply eda_cons
            · walk_at "ev"
            · apply eda_cons
              · apply ed_i
                apply ev_dget (p := p) (s := "num")
                · rfl
                · exact hD
                · refine EvD.sv (K := K) ?_
                  walk_at "ev"
                · rfl
              · exact eda_nil
          · exact ⟨_, _, rfl, rfl⟩
        · simp [okT, isNumD, h4] <;> omega
      | own m =>
        walk_at "if"
        apply pst_asg
        · walk_at "ev"
        intro v3 H1 e1 t5
        cases t5
        replace t1 := t1.ex e1
        replace t2 := t2.ex e1
        replace k := fun v H' (e : Ex H1 H') => k v H' (e1.trans e)
        clear e1
        walk_at "if"
        walk_at "if"
        apply pst_disp [(Sum.inr "num", .int 3), (Sum.inr "par", .int (ps : Int)), (Sum.inr "own", .int (os : Int))]
        · apply eps_cons
          · exact ev_c
          · exact ev_c
          · apply eps_cons
            · exact ev_c
            · refine EvD.iv (K := K) (i := _) ?_
              walk_at "ev"
            · apply eps_cons
              · exact ev_c
              · refine EvD.iv (K := K) (i := _) ?_
                walk_at "ev"
              · exact eps_nil
        · exact (by decide : 3 ≤ 15)
        intro p H2 hp e2 hD
        replace t1 := t1.ex e2
        replace t2 := t2.ex e2
        replace k := fun v H' (e : Ex H2 H') => k v H' (e2.trans e)
        apply pst_ret _ k
        apply ed_is
        · apply ed_andV
          · walk_at "ev"
          intro _
          apply ed_andV
          · walk_at "ev"
          intro _
          apply ed_call
          · apply eda_cons
            · walk_at "ev"
            · apply eda_cons
              · apply ed_i
                apply ev_dget (p := p) (s := "own")
                · rfl
                · exact hD
                · refine EvD.sv (K := K) ?_
                  walk_at "ev"
                · rfl
              · exact eda_nil
          · exact ⟨_, _, rfl, rfl⟩
        · simp [okT, isNumD, h4] <;> omega
      | par m =>
        walk_at "if"
        apply pst_asg
        · walk_at "ev"
        intro v3 H1 e1 t5
        cases t5
        replace t1 := t1.ex e1
        replace t2 := t2.ex e1
        replace k := fun v H' (e : Ex H1 H') => k v H' (e1.trans e)
        clear e1
        walk_at "if"
        walk_at "if"
        apply pst_disp [(Sum.inr "num", .int 3), (Sum.inr "par", .int (ps : Int)), (Sum.inr "own", .int (os : Int))]
        · apply eps_cons
          · exact ev_c
          · exact ev_c
          · apply eps_cons
            · exact ev_c
            · refine EvD.iv (K := K) (i := _) ?_
              walk_at "ev"
            · apply eps_cons
              · exact ev_c
              · refine EvD.iv (K := K) (i := _) ?_
                walk_at "ev"
              · exact eps_nil
        · exact (by decide : 3 ≤ 15)
        intro p H2 hp e2 hD
        replace t1 := t1.ex e2
        replace t2 := t2.ex e2
        replace k := fun v H' (e : Ex H2 H') => k v H' (e2.trans e)
        apply pst_ret _ k
        apply ed_is
        · apply ed_andV
          · walk_at "ev"
          intro _
          apply ed_andV
          · walk_at "ev"
          intro _
          apply ed_call
          · apply eda_cons
            · walk_at "ev"
            · apply eda_cons
              · apply ed_i
                apply ev_dget (p := p) (s := "par")
                · rfl
                · exact hD
                · refine EvD.sv (K := K) ?_
                  walk_at "ev"
                · rfl
              · exact eda_nil
          · exact ⟨_, _, rfl, rfl⟩
        · simp [okT, isNumD, h4] <;> omega
      | cell t' => 
        walk_at "if"
        apply pst_asg
        · walk_at "ev"
        intro v3 H1 e1 t5
        cases t5
        replace t1 := t1.ex e1
        replace t2 := t2.ex e1
        replace k := fun v H' (e : Ex H1 H') => k v H' (e1.trans e)
        clear e1
        walk_at "if"
        walk_at "if"
        apply pst_ret _ k
        apply ed_is
        · apply ed_andV
          · walk_at "ev"
          intro _
          apply ed_call
          · walk_at "eva"
          · exact ⟨t', ps, os, w + 1, rfl, by omega, by omega, rfl⟩
        · simp [okT, h4]
      | sum ta tb =>
        walk_at "if"
        apply pst_asg
        · walk_at "ev"
        intro v3 H1 e1 t5
        cases t5
        replace t1 := t1.ex e1
        replace t2 := t2.ex e1
        replace k := fun v H' (e : Ex H1 H') => k v H' (e1.trans e)
        clear e1
        walk_at "if"
        apply pst_ret _ k
        apply ed_is
        · apply ed_andV
          · walk_at "ev"
          intro _
          apply ed_andV
          · apply ed_call
            · walk_at "eva"
            · exact ⟨ta, ps, os, w + 1, rfl, by omega, by omega, rfl⟩
          · intro _
            apply ed_call
            · walk_at "eva"
            · exact ⟨tb, ps, os, w + 1, rfl, by omega, by omega, rfl⟩
        · simp [okT, h4]
    · have h5 : okT ps os t w = false := by cases t <;> simp [okT, h4]
      obtain ⟨x, xs, e⟩ : ∃ x xs, encT t = .tuple (x :: xs) := by cases t <;> exact ⟨_, _, rfl⟩
      have t1' := t1
      rw [e] at t1'
      walk_at "if"
      apply pst_ret _ k
      rw [h5]
      exact ed_cb
end
end Hw

set_option maxRecDepth 100000
set_option maxHeartbeats 4000000
/-! PC2: calls, steps, bodies -/
namespace Hw
open PySem PySem.Spec PyProof.Rows L2 Evl
local macro_rules | `(tactic| walk_at "dd") => `(tactic| first | rfl | decide | (simp; done) | omega)
local macro_rules | `(tactic| walk_at "td") => `(tactic| first | assumption | exact Td.int _ | exact Td.bl _ | exact Td.str _ | exact Td.non | exact Td.tup (by assumption) (by assumption))
local macro_rules | `(tactic| walk_at "ev") => `(tactic| first
  | exact ed_ci | exact ed_cs | exact ed_cb | exact ed_cn
  | (apply ed_cg; assumption)
  | (apply ed_var; (rfl); (walk_at "td"))
  | (apply ed_ixT; (walk_at "ev"); (walk_at "ev"); (first | rfl | assumption))
  | (apply ed_rowI; (rfl); (assumption); (walk_at "ev"); (rfl))
  | (apply ed_ixL; (apply EvDL.rd; walk_at "edl"); (walk_at "ev"); (rfl))
  | (apply ed_intb; (walk_at "ev"))
  | (apply ed_len; walk_at "ev")
  | (apply ed_lenV; (apply ev_rowR; (rfl); (assumption); (walk_at "ev"); (rfl)); (assumption))
  | (apply ed_Ii; (walk_at "ev"); (walk_at "ev"); (walk_at "cc"))
  | (apply ed_isi; (walk_at "ev"); (rfl))
  | (apply ed_I0i; (walk_at "ev"); (walk_at "ev"))
  | (apply ed_I0b; (walk_at "ev"); (walk_at "ev"))
  | (apply ed_eqi; (walk_at "ev"); (walk_at "ev"))
  | (apply ed_nei; (walk_at "ev"); (walk_at "ev"))
  | (apply ed_andF; walk_at "ev")
  | (apply ed_andV; (walk_at "ev"); (intro _; walk_at "ev"))
  | (apply ed_orT; walk_at "ev")
  | (apply ed_orV; (walk_at "ev"); (intro _; walk_at "ev"))
  | (apply ed_notT; walk_at "ev")
  | (apply ed_notF; walk_at "ev")
  | (apply ed_notV; walk_at "ev")
  | (apply ed_chain; (walk_at "ev"); (walk_at "ev"); (intro _; walk_at "ev"))
  | (apply ed_eqS; (walk_at "ev"); (walk_at "ev"); (walk_at "bb"); (walk_at "bb"))
  | (apply ed_neS; (walk_at "ev"); (walk_at "ev"); (walk_at "bb"); (walk_at "bb"))
  | (apply ed_inT; (walk_at "ev"); (walk_at "ev"); (rfl); (rfl))
  | (apply ed_niT; (walk_at "ev"); (walk_at "ev"); (rfl); (rfl))
  | (apply ed_tup; (walk_at "eva"); (walk_at "bb"))
  | (apply ed_sl; (walk_at "ev"); (walk_at "evo"); (walk_at "evo"))
  | (apply ed_eqN; (apply EvDL.rd; walk_at "edl"); (walk_at "edl"); (walk_at "bb"))
  | (apply ed_neN; (apply EvDL.rd; walk_at "edl"); (walk_at "edl"); (walk_at "bb"))
  | (apply ed_ixL; (apply edr_var; (rfl); (assumption); (assumption)); (walk_at "ev"); (first | rfl | assumption))
  | (apply ed_lenL; (apply edr_var; (rfl); (assumption); (assumption)))
  | (apply ed_call; (walk_at "eva"); (walk_at "post")))
local macro_rules | `(tactic| walk_at "edl") => `(tactic| first
  | assumption
  | (apply edl_lst; (walk_at "eva"); (walk_at "bb")))
local macro_rules | `(tactic| walk_at "eva") => `(tactic| first
  | exact eda_nil
  | (apply eda_cons; (walk_at "ev"); (walk_at "eva")))
local macro_rules | `(tactic| walk_at "evo") => `(tactic| first
  | exact eok_none
  | (apply eok_some; walk_at "ev"))
local macro_rules | `(tactic| walk_at "bb") => `(tactic| first | rfl | assumption | (simp; done) | (simp; omega) | decide +kernel)
local macro_rules | `(tactic| walk_at "et") => `(tactic| first
  | exact tk_yes
  | (apply tk_andF; walk_at "et")
  | (apply tk_and; (walk_at "et"); (intro _; walk_at "et"))
  | (apply tk_orT; walk_at "et")
  | (apply tk_or; (walk_at "et"); (intro _; walk_at "et"))
  | (apply tk_notT; walk_at "et")
  | (apply tk_notF; walk_at "et")
  | (apply tk_not; walk_at "et")
  | (apply tk_v; walk_at "ev")
  | (apply tk_vB; walk_at "ev"))
local macro_rules | `(tactic| walk_at "if") => `(tactic| first
  | (apply pst_whenF; (walk_at "et"); (walk_at "bb"))
  | (apply pst_whenT; (walk_at "et"); (walk_at "bb")))
local macro_rules | `(tactic| walk_at "post") => `(tactic| first | assumption | exact ⟨_, _, rfl, rfl⟩ | exact ⟨_, _, _, _, rfl, by omega, by omega, rfl⟩ | exact ⟨_, _, _, 0, rfl, by omega, by omega, rfl⟩)
local macro_rules | `(tactic| walk_at "cc") => `(tactic| first | assumption | decide | omega | (refine ⟨?_, ?_⟩ <;> first | decide | omega) | (exact Or.inl (by constructor <;> omega)))

theorem atI_enc {α : Type} {xs : List α} {f : α → PyData} {i : Nat} {x : α} (h : xs[i]? = some x) : atI (xs.map f) (i : Int) = some (f x) := atI_nat (by rw [List.getElem?_map, h] <;> rfl)
theorem shP_get {p : List Wk} {i : Nat} {x : Wk} (h : p[i]? = some x) : shP (shapes p) i = x.params := by simp [shP, shapes, h]
theorem shO_get {p : List Wk} {i : Nat} {x : Wk} (h : p[i]? = some x) : shO (shapes p) i = x.owns := by simp [shO, shapes, h]
section
variable {P : Program} {w : World} {K : PySem.W.Frag} {mg : Str → Option Value} {base : Heap} (T : Tx K mg)
include T
def pCall (ds : List PyData) (d : PyData) : Prop := ∃ (p : List Wk) (at_ c : Nat) (ts : List Th) (ps os : Nat), ds = [encP p, .int (at_ : Int), encS (.call c ts), .tuple [.int (ps : Int), .int (os : Int)]] ∧ ts.length ≤ 40000 ∧
  d = .bool (decide (c < p.length) && (decide (at_ < c) && (decide (ts.length = shP (shapes p) c) && ts.all fun t => okT ps os t 0)))
theorem ok_is_call {k : Nat} (hk : 8 ≤ k) (G_is_number : Fn_is_number T P w base CX0 1 (spF K pNumber)) (G_is_thing : Fn_is_thing T P w base CX0 8 (spF K (pThing 6))) : Fn_is_call T P w base CX0 (k + 1) (spF K pCall) := by
  refine T.F_is_call.ok sc_is_call (spF_len fun ds d h => by obtain ⟨p, at_, c, ts, ps, os, rfl, _⟩ := h; rfl) fun cdv A outer s H vs Q E hr h => ?_
  obtain ⟨ds, d, ht, ⟨p, at_, c, ts, ps, os, rfl, hz, rfl⟩, k⟩ := h
  obtain _ | ⟨t1, _ | ⟨t2, _ | ⟨t3, _ | ⟨t4, _ | _⟩⟩⟩⟩ := ht
  refine ⟨_, (pss_cons (ps_if (PW.pt (pw_or (pt_cmpR op_ne (pe_callB (kc_len K) rfl T.b_len PySem.boot_len (pa_cons (pv 2) pa_nil)) pe_int (nomark _)) (pw_or (pt_not (pt_val (pe_call G_is_number (hr.mono (by omega)) (by rfl) T.g_is_number T.k_is_number T.bd_is_number .nil pass0 (pa_cons (pe_ix (kix_tup K) (pv 2) pe_int (fun _ _ => rfl)) (pa_cons (pe_callB (kc_len K) rfl T.b_len PySem.boot_len (pa_cons (pv 0) pa_nil)) pa_nil))))) (pw_or (pt_cmpR op_le (pe_ix (kix_tup K) (pv 2) pe_int (fun _ _ => rfl)) (pv 1) (nomark _)) (pw_or1 (pt_not (pt_val (pe_callB (kc_isi K) rfl T.b_isinstance (by decide +kernel) (pa_cons (pe_ix (kix_tup K) (pv 2) pe_int (fun _ _ => rfl)) (pa_cons (pe_bltn (v := .ty "tuple") rfl T.b_tuple (by decide +kernel) rfl) pa_nil))))))))))
    (pss_one (ps_ret pe_bl))
    pss_nil)
  (pss_cons (ps_if (pt_cmpR op_ne (pe_callB (kc_len K) rfl T.b_len PySem.boot_len (pa_cons (pe_ix (kix_tup K) (pv 2) pe_int (fun _ _ => rfl)) pa_nil)) (pe_ix (kix_tup K) (pe_ix (kix_tup K) (pv 0) (pe_ix (kix_tup K) (pv 2) pe_int (fun _ _ => rfl)) (fun _ _ => rfl)) pe_int (fun _ _ => rfl)) (nomark _))
    (pss_one (ps_ret pe_bl))
    pss_nil)
  (pss_one (ps_ret (pe_cmpR (kop_eq K hr.units) (pe_lc (own := [("thing", 4)]) (g := gName 4) (tt := _) rfl sc_is_call.nd (kpi_tup K (pe_ix (kix_tup K) (pv 2) pe_int (fun _ _ => rfl))) (blkOk_by (N := ["program", "at", "step", "sizes", "thing"]) (sc := defScope s_is_call) (by decide +kernel)) (fun _ _ _ _ _ => (pg_name (i := 4) sc_is_call.nd rfl (Or.inl rfl))) (fun _ _ _ _ _ => (pts_one (pt_not (pt_val (pe_call G_is_thing (hr.mono (by omega)) (by rfl) T.g_is_thing T.k_is_thing T.bd_is_thing .nil pass0 (pa_cons (pv 4) (pa_cons (pv 3) (pa_cons pe_int pa_nil)))))))) (fun _ _ _ _ _ => (pv 4))) (pe_lst pa_nil) (nomark _)))))), ?_⟩
  cases t2
  refine Pst.go (K := K) ?_
  by_cases h12 : c < p.length ∧ at_ < c
  · obtain ⟨h1, h2⟩ := h12
    have hwk : p[c]? = some p[c] := List.getElem?_eq_getElem h1
    have hat : atI (p.map encW) (c : Int) = some (encW p[c]) := atI_enc hwk
    have hsh : shP (shapes p) c = p[c].params := shP_get hwk
    apply pst_whenF
    · walk_at "et"
    · simp [isNumD]
      omega
    apply pst_when
    · apply tk_v
      apply ed_nei
      · walk_at "ev"
      · apply ed_ixT
        · apply ed_ixT
          · walk_at "ev"
          · walk_at "ev"
          · exact hat
        · walk_at "ev"
        · rfl
    · intro hb
      have e : ¬ ts.length = p[c].params := by
        simp at hb
        omega
      apply pst_ret _ k
      apply ed_is
      · walk_at "ev"
      · simp [hsh, e]
    · intro hb
      have e : ts.length = p[c].params := by
        simp at hb
        omega
      apply pst_ret _ k
      apply ed_is
      · apply ed_eqN
        · apply EvDL.rd
          apply edl_lcM (xs := ts) (f := encT) (p := fun t => !okT ps os t 0) (g := encT)
          · walk_at "ev"
          · rfl
          · exact hz
          · intro x
            rfl
          · intro x v H1 e1 hx tx
            replace t4 := t4.ex e1
            walk_at "et"
          · intro x v H1 e1 hx _ tx
            walk_at "ev"
        · walk_at "edl"
        · exact encTs_lay _
      · simp [hsh, e, h1, h2]
        exact filter_not_isEmpty _
  · apply pst_whenT
    · walk_at "et"
    · simp [isNumD]
      omega
    apply pst_ret _ k
    apply ed_is
    · walk_at "ev"
    · simp
      omega
end
end Hw

set_option maxRecDepth 100000
set_option maxHeartbeats 4000000
/-! PC3: steps and bodies -/
namespace Hw
open PySem PySem.Spec PyProof.Rows L2 Evl
local macro_rules | `(tactic| walk_at "dd") => `(tactic| first | rfl | decide | (simp; done) | omega)
local macro_rules | `(tactic| walk_at "td") => `(tactic| first | assumption | exact Td.int _ | exact Td.bl _ | exact Td.str _ | exact Td.non | exact Td.tup (by assumption) (by assumption))
local macro_rules | `(tactic| walk_at "ev") => `(tactic| first
  | exact ed_ci | exact ed_cs | exact ed_cb | exact ed_cn
  | (apply ed_cg; assumption)
  | (apply ed_var; (rfl); (walk_at "td"))
  | (apply ed_ixT; (walk_at "ev"); (walk_at "ev"); (first | rfl | assumption))
  | (apply ed_rowI; (rfl); (assumption); (walk_at "ev"); (rfl))
  | (apply ed_ixL; (apply EvDL.rd; walk_at "edl"); (walk_at "ev"); (rfl))
  | (apply ed_intb; (walk_at "ev"))
  | (apply ed_len; walk_at "ev")
  | (apply ed_lenV; (apply ev_rowR; (rfl); (assumption); (walk_at "ev"); (rfl)); (assumption))
  | (apply ed_Ii; (walk_at "ev"); (walk_at "ev"); (walk_at "cc"))
  | (apply ed_isi; (walk_at "ev"); (rfl))
  | (apply ed_I0i; (walk_at "ev"); (walk_at "ev"))
  | (apply ed_I0b; (walk_at "ev"); (walk_at "ev"))
  | (apply ed_eqi; (walk_at "ev"); (walk_at "ev"))
  | (apply ed_nei; (walk_at "ev"); (walk_at "ev"))
  | (apply ed_andF; walk_at "ev")
  | (apply ed_andV; (walk_at "ev"); (intro _; walk_at "ev"))
  | (apply ed_orT; walk_at "ev")
  | (apply ed_orV; (walk_at "ev"); (intro _; walk_at "ev"))
  | (apply ed_notT; walk_at "ev")
  | (apply ed_notF; walk_at "ev")
  | (apply ed_notV; walk_at "ev")
  | (apply ed_chain; (walk_at "ev"); (walk_at "ev"); (intro _; walk_at "ev"))
  | (apply ed_eqS; (walk_at "ev"); (walk_at "ev"); (walk_at "bb"); (walk_at "bb"))
  | (apply ed_neS; (walk_at "ev"); (walk_at "ev"); (walk_at "bb"); (walk_at "bb"))
  | (apply ed_inT; (walk_at "ev"); (walk_at "ev"); (rfl); (rfl))
  | (apply ed_niT; (walk_at "ev"); (walk_at "ev"); (rfl); (rfl))
  | (apply ed_tup; (walk_at "eva"); (walk_at "bb"))
  | (apply ed_sl; (walk_at "ev"); (walk_at "evo"); (walk_at "evo"))
  | (apply ed_eqN; (apply EvDL.rd; walk_at "edl"); (walk_at "edl"); (walk_at "bb"))
  | (apply ed_neN; (apply EvDL.rd; walk_at "edl"); (walk_at "edl"); (walk_at "bb"))
  | (apply ed_ixL; (apply edr_var; (rfl); (assumption); (assumption)); (walk_at "ev"); (first | rfl | assumption))
  | (apply ed_lenL; (apply edr_var; (rfl); (assumption); (assumption)))
  | (apply ed_call; (walk_at "eva"); (walk_at "post")))
local macro_rules | `(tactic| walk_at "edl") => `(tactic| first
  | assumption
  | (apply edl_lst; (walk_at "eva"); (walk_at "bb")))
local macro_rules | `(tactic| walk_at "eva") => `(tactic| first
  | exact eda_nil
  | (apply eda_cons; (walk_at "ev"); (walk_at "eva")))
local macro_rules | `(tactic| walk_at "evo") => `(tactic| first
  | exact eok_none
  | (apply eok_some; walk_at "ev"))
local macro_rules | `(tactic| walk_at "bb") => `(tactic| first | rfl | assumption | (simp; done) | (simp; omega) | decide +kernel)
local macro_rules | `(tactic| walk_at "et") => `(tactic| first
  | exact tk_yes
  | (apply tk_andF; walk_at "et")
  | (apply tk_and; (walk_at "et"); (intro _; walk_at "et"))
  | (apply tk_orT; walk_at "et")
  | (apply tk_or; (walk_at "et"); (intro _; walk_at "et"))
  | (apply tk_notT; walk_at "et")
  | (apply tk_notF; walk_at "et")
  | (apply tk_not; walk_at "et")
  | (apply tk_v; walk_at "ev")
  | (apply tk_vB; walk_at "ev"))
local macro_rules | `(tactic| walk_at "if") => `(tactic| first
  | (apply pst_whenF; (walk_at "et"); (walk_at "bb"))
  | (apply pst_whenT; (walk_at "et"); (walk_at "bb")))
local macro_rules | `(tactic| walk_at "post") => `(tactic| first | assumption | exact ⟨_, _, rfl, rfl⟩ | exact ⟨_, _, _, _, rfl, by omega, by omega, rfl⟩ | exact ⟨_, _, _, 0, rfl, by omega, by omega, rfl⟩)
local macro_rules | `(tactic| walk_at "cc") => `(tactic| first | assumption | decide | omega | (refine ⟨?_, ?_⟩ <;> first | decide | omega) | (exact Or.inl (by constructor <;> omega)))

def pStep (n : Nat) (ds : List PyData) (d : PyData) : Prop := ∃ (p : List Wk) (at_ : Nat) (s : Stm) (w : Nat), ds = [encP p, .int (at_ : Int), encS s, .int (w : Int)] ∧ at_ < p.length ∧ smS s = true ∧ w ≤ 5 ∧ 6 ≤ w + n ∧ d = .bool (okS (shapes p) at_ s w)
def pBody (n : Nat) (ds : List PyData) (d : PyData) : Prop := ∃ (p : List Wk) (at_ : Nat) (b : List Stm) (w : Nat), ds = [encP p, .int (at_ : Int), .tuple (encB b), .int (w : Int)] ∧ at_ < p.length ∧ b.length ≤ 20000 ∧ smB b = true ∧ w ≤ 5 ∧ 6 ≤ w + n ∧ d = .bool (okB (shapes p) at_ b w)
section
variable {P : Program} {w : World} {K : PySem.W.Frag} {mg : Str → Option Value} {base : Heap} (T : Tx K mg)
include T
theorem ok_is_body {k n : Nat} (G_is_step : Fn_is_step T P w base CX0 k (spF K (pStep n))) : Fn_is_body T P w base CX0 (k + 1) (spF K (pBody n)) := by
  refine T.F_is_body.ok sc_is_body (spF_len fun ds d h => by obtain ⟨p, at_, s, w, rfl, _⟩ := h; rfl) fun cdv A outer s H vs Q E hr h => ?_
  obtain ⟨ds, d, ht, ⟨p, at_, b, w, rfl, hat, hl, hs, hw5, hw, rfl⟩, k⟩ := h
  obtain _ | ⟨t1, _ | ⟨t2, _ | ⟨t3, _ | ⟨t4, _ | _⟩⟩⟩⟩ := ht
  refine ⟨_, (pss_one (ps_ret (pe_and (pe_callB (kc_isi K) rfl T.b_isinstance (by decide +kernel) (pa_cons (pv 2) (pa_cons (pe_bltn (v := .ty "tuple") rfl T.b_tuple (by decide +kernel) rfl) pa_nil))) (pe_one (pe_cmpR (kop_eq K hr.units) (pe_lc (own := [("step", 4)]) (g := gName 4) (tt := _) rfl sc_is_body.nd (kpi_tup K (pv 2)) (blkOk_by (N := ["program", "at", "body", "within", "step"]) (sc := defScope s_is_body) (by decide +kernel)) (fun _ _ _ _ _ => (pg_name (i := 4) sc_is_body.nd rfl (Or.inl rfl))) (fun _ _ _ _ _ => (pts_one (pt_not (pt_val (pe_call G_is_step (hr.mono (by omega)) (by rfl) T.g_is_step T.k_is_step T.bd_is_step .nil pass0 (pa_cons (pv 0) (pa_cons (pv 1) (pa_cons (pv 4) (pa_cons (pv 3) pa_nil))))))))) (fun _ _ _ _ _ => (pv 4))) (pe_lst pa_nil) (nomark _)))))), ?_⟩
  cases t2
  cases t4
  refine Pst.go (K := K) ?_
  apply pst_ret _ k
  apply ed_is
  · apply ed_andV
    · walk_at "ev"
    intro _
    apply ed_eqN
    · apply EvDL.rd
      apply edl_lcM (xs := b) (f := encS) (p := fun s => !okS (shapes p) at_ s w) (g := encS)
      · walk_at "ev"
      · exact encB_map b
      · omega
      · intro x
        rfl
      · intro x v H1 e1 hx tx
        replace t1 := t1.ex e1
        apply tk_not
        apply tk_vB
        apply ed_call
        · walk_at "eva"
        · exact ⟨p, at_, x, w, rfl, hat, smB_mem hs hx, hw5, hw, rfl⟩
      · intro x v H1 e1 hx _ tx
        walk_at "ev"
    · walk_at "edl"
    · rw [← encB_map]
      exact encB_lay _
  · rw [okB_all]
    simp
    exact filter_not_isEmpty _
theorem ok_is_step {k n : Nat} (hk : 9 ≤ k) (G_is_thing : Fn_is_thing T P w base CX0 8 (spF K (pThing 6))) (G_is_call : Fn_is_call T P w base CX0 9 (spF K pCall)) (G_is_body : Fn_is_body T P w base CX0 k (spF K (pBody n))) : Fn_is_step T P w base CX0 (k + 1) (spF K (pStep (n + 1))) := by
  refine T.F_is_step.ok sc_is_step (spF_len fun ds d h => by obtain ⟨p, at_, s, w, rfl, _⟩ := h; rfl) fun cdv A outer s H vs Q E hr h => ?_
  obtain ⟨ds, d, ht, ⟨p, at_, st, w, rfl, hat, hs, hw5, hw, rfl⟩, k⟩ := h
  obtain _ | ⟨t1, _ | ⟨t2, _ | ⟨t3, _ | ⟨t4, _ | _⟩⟩⟩⟩ := ht
  refine ⟨_, (pss_cons (ps_if (PW.pt (pw_or (pt_not (pt_val (pe_callB (kc_isi K) rfl T.b_isinstance (by decide +kernel) (pa_cons (pv 2) (pa_cons (pe_bltn (v := .ty "tuple") rfl T.b_tuple (by decide +kernel) rfl) pa_nil))))) (pw_or (pt_cmpR op_lt (pe_callB (kc_len K) rfl T.b_len PySem.boot_len (pa_cons (pv 2) pa_nil)) pe_int (nomark _)) (pw_or1 (pt_cmpR op_gt (pv 3) (pe_gint rfl T.g_MOST_WITHIN) (nomark _))))))
    (pss_one (ps_ret pe_bl))
    pss_nil)
  (pss_cons (ps_set (i := 4) sc_is_step.nd rfl (Or.inl rfl) (pe_slice (ksl_tup K) (pe_ix (kix_tup K) (pv 0) (pv 1) (fun _ _ => rfl)) po_none (po_some pe_int)))
  (pss_cons (ps_if (pt_cmpR (kop_eq K hr.units) (pe_ix (kix_tup K) (pv 2) pe_int (fun _ _ => rfl)) pe_str (nomark _))
    (pss_one (ps_ret (pe_call G_is_call (hr.mono (by omega)) (by rfl) T.g_is_call T.k_is_call T.bd_is_call .nil pass0 (pa_cons (pv 0) (pa_cons (pv 1) (pa_cons (pv 2) (pa_cons (pv 4) pa_nil)))))))
    pss_nil)
  (pss_cons (ps_if (pt_not (pt_val (pe_call G_is_thing (hr.mono (by omega)) (by rfl) T.g_is_thing T.k_is_thing T.bd_is_thing .nil pass0 (pa_cons (pe_ix (kix_tup K) (pv 2) pe_int (fun _ _ => rfl)) (pa_cons (pv 4) (pa_cons pe_int pa_nil))))))
    (pss_one (ps_ret pe_bl))
    pss_nil)
  (pss_cons (ps_if (pt_cmpR (kop_eq K hr.units) (pe_ix (kix_tup K) (pv 2) pe_int (fun _ _ => rfl)) pe_str (nomark _))
    (pss_one (ps_ret (pe_and (pe_cmpR op_eq (pe_callB (kc_len K) rfl T.b_len PySem.boot_len (pa_cons (pv 2) pa_nil)) pe_int (nomark _)) (pe_and (pe_cmpR (kop_in K) (pe_ix (kix_tup K) (pe_ix (kix_tup K) (pv 2) pe_int (fun _ _ => rfl)) pe_int (fun _ _ => rfl)) (pe_glob (v := .ref _) rfl T.g_PLACES rfl) rfl) (pe_one (pe_call G_is_thing (hr.mono (by omega)) (by rfl) T.g_is_thing T.k_is_thing T.bd_is_thing .nil pass0 (pa_cons (pe_ix (kix_tup K) (pv 2) pe_int (fun _ _ => rfl)) (pa_cons (pv 4) (pa_cons pe_int pa_nil)))))))))
    pss_nil)
  (pss_cons (ps_if (pt_cmpR (kop_eq K hr.units) (pe_ix (kix_tup K) (pv 2) pe_int (fun _ _ => rfl)) pe_str (nomark _))
    (pss_one (ps_ret (pe_and (pe_cmpR op_eq (pe_callB (kc_len K) rfl T.b_len PySem.boot_len (pa_cons (pv 2) pa_nil)) pe_int (nomark _)) (pe_one (pe_cmpR (kop_eq K hr.units) (pe_lc (own := [("body", 5)]) (g := gName 5) (tt := _) rfl sc_is_step.nd (kpi_tup K (pe_slice (ksl_tup K) (pv 2) (po_some pe_int) po_none)) (blkOk_by (N := ["program", "at", "step", "within", "sizes", "body"]) (sc := defScope s_is_step) (by decide +kernel)) (fun _ _ _ _ _ => (pg_name (i := 5) sc_is_step.nd rfl (Or.inl rfl))) (fun _ _ _ _ _ => (pts_one (pt_not (pt_val (pe_call G_is_body (hr.mono (by omega)) (by rfl) T.g_is_body T.k_is_body T.bd_is_body .nil pass0 (pa_cons (pv 0) (pa_cons (pv 1) (pa_cons (pv 5) (pa_cons (pe_op op_add (pv 3) pe_int) pa_nil))))))))) (fun _ _ _ _ _ => (pv 5))) (pe_lst pa_nil) (nomark _))))))
    pss_nil)
  (pss_one (ps_ret (pe_and (pe_cmpR (kop_eq K hr.units) (pe_ix (kix_tup K) (pv 2) pe_int (fun _ _ => rfl)) pe_str (nomark _)) (pe_one (pe_cmpR op_eq (pe_callB (kc_len K) rfl T.b_len PySem.boot_len (pa_cons (pv 2) pa_nil)) pe_int (nomark _)))))))))))), ?_⟩
  cases t2
  cases t4
  refine Pst.go (K := K) ?_
  have hwk : p[at_]? = some p[at_] := List.getElem?_eq_getElem hat
  have hix : atI (p.map encW) (at_ : Int) = some (encW p[at_]) := atI_enc hwk
  have hp : shP (shapes p) at_ = p[at_].params := shP_get hwk
  have ho : shO (shapes p) at_ = p[at_].owns := shO_get hwk
  have hPl : ∀ H, Td K H (.ref (He.ga K "PLACES")) (.tuple [.str "cell", .str "own", .str "par"]) := fun H => .tup (T.t_PLACES H) (.cons (.str _) (.cons (.str _) (.cons (.str _) .nil)))
  by_cases h4 : w ≤ 4
  · cases st with
    | set pl t =>
      walk_at "if"
      refine pst_asg (d := .tuple [.int (p[at_].params : Int), .int (p[at_].owns : Int)]) ?_ ?_
      · apply ed_is
        · walk_at "ev"
        · rfl
      intro v5 H1 e1 t5
      replace t1 := t1.ex e1
      replace t3 := t3.ex e1
      replace k := fun v H' (e : Ex H1 H') => k v H' (e1.trans e)
      clear e1
      walk_at "if"
      apply pst_when
      · walk_at "et"
      · intro hb
        apply pst_ret _ k
        apply ed_is
        · walk_at "ev"
        · simp at hb
          simp [okS, hp, ho, hb]
      intro hb
      simp at hb
      walk_at "if"
      apply pst_ret _ k
      apply ed_is
      · apply ed_andV
        · walk_at "ev"
        intro _
        refine ed_andV (a := isPlace pl) (b := okT p[at_].params p[at_].owns t 0) ?_ ?_
        · cases pl <;> (apply ed_is; (walk_at "ev"); (simp [isPlace]))
        intro _
        walk_at "ev"
      · simp [okS, hp, ho, hb, h4]
    | say t =>
      walk_at "if"
      refine pst_asg (d := .tuple [.int (p[at_].params : Int), .int (p[at_].owns : Int)]) ?_ ?_
      · apply ed_is
        · walk_at "ev"
        · rfl
      intro v5 H1 e1 t5
      replace t1 := t1.ex e1
      replace t3 := t3.ex e1
      replace k := fun v H' (e : Ex H1 H') => k v H' (e1.trans e)
      clear e1
      walk_at "if"
      apply pst_when
      · walk_at "et"
      · intro hb
        apply pst_ret _ k
        apply ed_is
        · walk_at "ev"
        · simp at hb
          simp [okS, hp, ho, hb]
      intro hb
      simp at hb
      walk_at "if"
      walk_at "if"
      apply pst_ret _ k
      apply ed_is
      · walk_at "ev"
      · simp [okS, hp, ho, hb, h4]
    | ite t a b =>
      walk_at "if"
      refine pst_asg (d := .tuple [.int (p[at_].params : Int), .int (p[at_].owns : Int)]) ?_ ?_
      · apply ed_is
        · walk_at "ev"
        · rfl
      intro v5 H1 e1 t5
      replace t1 := t1.ex e1
      replace t3 := t3.ex e1
      replace k := fun v H' (e : Ex H1 H') => k v H' (e1.trans e)
      clear e1
      walk_at "if"
      apply pst_when
      · walk_at "et"
      · intro hb
        apply pst_ret _ k
        apply ed_is
        · walk_at "ev"
        · simp at hb
          simp [okS, hp, ho, hb]
      intro hb
      simp at hb
      walk_at "if"
      walk_at "if"
      simp only [smS, Bool.and_eq_true, decide_eq_true_eq] at hs
      apply pst_ret _ k
      apply ed_is
      · apply ed_andV
        · walk_at "ev"
        intro _
        apply ed_eqN
        · apply EvDL.rd
          apply edl_lcM (xs := [a, b]) (f := fun b => .tuple (encB b)) (p := fun b => !okB (shapes p) at_ b (w + 1)) (g := fun b => .tuple (encB b))
          · walk_at "ev"
          · rfl
          · exact (by decide : 2 ≤ 40000)
          · intro x
            rfl
          · intro x v H2 e2 hx tx
            replace t1 := t1.ex e2
            have hx2 : x.length ≤ 20000 ∧ smB x = true := by
              simp at hx
              rcases hx with e | e <;> subst e <;> simp [hs]
            apply tk_not
            apply tk_vB
            apply ed_call
            · walk_at "eva"
            · exact ⟨p, at_, x, w + 1, rfl, hat, hx2.1, hx2.2, by omega, by omega, rfl⟩
          · intro x v H2 e2 hx _ tx
            walk_at "ev"
        · walk_at "edl"
        · simp only [List.filter_cons, List.filter_nil]
          split <;> split <;> simp [PyData.canLayAll0, PyData.canLay0, encB_lay]
      · simp only [okS, hp, ho, hb, h4]
        have := filter_not_isEmpty (f := fun b => okB (shapes p) at_ b (w + 1)) [a, b]
        simp at this
        simp [this]
    | call c ts =>
      walk_at "if"
      refine pst_asg (d := .tuple [.int (p[at_].params : Int), .int (p[at_].owns : Int)]) ?_ ?_
      · apply ed_is
        · walk_at "ev"
        · rfl
      intro v5 H1 e1 t5
      replace t1 := t1.ex e1
      replace t3 := t3.ex e1
      replace k := fun v H' (e : Ex H1 H') => k v H' (e1.trans e)
      clear e1
      walk_at "if"
      simp only [smS, decide_eq_true_eq] at hs
      apply pst_ret _ k
      apply ed_is
      · apply ed_call
        · walk_at "eva"
        · exact ⟨p, at_, c, ts, _, _, rfl, by omega, rfl⟩
      · have hl : (shapes p).length = p.length := by simp [shapes]
        simp [okS, hp, ho, h4, hl]
  · have h5 : okS (shapes p) at_ st w = false := by cases st <;> simp [okS, h4]
    obtain ⟨x, y, xs, e⟩ : ∃ x y xs, encS st = .tuple (x :: y :: xs) := by cases st <;> exact ⟨_, _, _, rfl⟩
    rw [e] at t3
    walk_at "if"
    apply pst_ret _ k
    rw [h5]
    exact ed_cb
end
end Hw

set_option maxRecDepth 100000
set_option maxHeartbeats 4000000
/-! PC4: bodies within, counts, works -/
namespace Hw
open PySem PySem.Spec PyProof.Rows L2 Evl
local macro_rules | `(tactic| walk_at "dd") => `(tactic| first | rfl | decide | (simp; done) | omega)
local macro_rules | `(tactic| walk_at "td") => `(tactic| first | assumption | exact Td.int _ | exact Td.bl _ | exact Td.str _ | exact Td.non | exact Td.tup (by assumption) (by assumption))
local macro_rules | `(tactic| walk_at "ev") => `(tactic| first
  | exact ed_ci | exact ed_cs | exact ed_cb | exact ed_cn
  | (apply ed_cg; assumption)
  | (apply ed_var; (rfl); (walk_at "td"))
  | (apply ed_ixT; (walk_at "ev"); (walk_at "ev"); (first | rfl | assumption))
  | (apply ed_rowI; (rfl); (assumption); (walk_at "ev"); (rfl))
  | (apply ed_ixL; (apply EvDL.rd; walk_at "edl"); (walk_at "ev"); (rfl))
  | (apply ed_intb; (walk_at "ev"))
  | (apply ed_len; walk_at "ev")
  | (apply ed_lenV; (apply ev_rowR; (rfl); (assumption); (walk_at "ev"); (rfl)); (assumption))
  | (apply ed_Ii; (walk_at "ev"); (walk_at "ev"); (walk_at "cc"))
  | (apply ed_isi; (walk_at "ev"); (rfl))
  | (apply ed_I0i; (walk_at "ev"); (walk_at "ev"))
  | (apply ed_I0b; (walk_at "ev"); (walk_at "ev"))
  | (apply ed_eqi; (walk_at "ev"); (walk_at "ev"))
  | (apply ed_nei; (walk_at "ev"); (walk_at "ev"))
  | (apply ed_andF; walk_at "ev")
  | (apply ed_andV; (walk_at "ev"); (intro _; walk_at "ev"))
  | (apply ed_orT; walk_at "ev")
  | (apply ed_orV; (walk_at "ev"); (intro _; walk_at "ev"))
  | (apply ed_notT; walk_at "ev")
  | (apply ed_notF; walk_at "ev")
  | (apply ed_notV; walk_at "ev")
  | (apply ed_chain; (walk_at "ev"); (walk_at "ev"); (intro _; walk_at "ev"))
  | (apply ed_eqS; (walk_at "ev"); (walk_at "ev"); (walk_at "bb"); (walk_at "bb"))
  | (apply ed_neS; (walk_at "ev"); (walk_at "ev"); (walk_at "bb"); (walk_at "bb"))
  | (apply ed_inT; (walk_at "ev"); (walk_at "ev"); (rfl); (rfl))
  | (apply ed_niT; (walk_at "ev"); (walk_at "ev"); (rfl); (rfl))
  | (apply ed_tup; (walk_at "eva"); (walk_at "bb"))
  | (apply ed_sl; (walk_at "ev"); (walk_at "evo"); (walk_at "evo"))
  | (apply ed_eqN; (apply EvDL.rd; walk_at "edl"); (walk_at "edl"); (walk_at "bb"))
  | (apply ed_neN; (apply EvDL.rd; walk_at "edl"); (walk_at "edl"); (walk_at "bb"))
  | (apply ed_ixL; (apply edr_var; (rfl); (assumption); (assumption)); (walk_at "ev"); (first | rfl | assumption))
  | (apply ed_lenL; (apply edr_var; (rfl); (assumption); (assumption)))
  | (apply ed_call; (walk_at "eva"); (walk_at "post")))
local macro_rules | `(tactic| walk_at "edl") => `(tactic| first
  | assumption
  | (apply edl_lst; (walk_at "eva"); (walk_at "bb")))
local macro_rules | `(tactic| walk_at "eva") => `(tactic| first
  | exact eda_nil
  | (apply eda_cons; (walk_at "ev"); (walk_at "eva")))
local macro_rules | `(tactic| walk_at "evo") => `(tactic| first
  | exact eok_none
  | (apply eok_some; walk_at "ev"))
local macro_rules | `(tactic| walk_at "bb") => `(tactic| first | rfl | assumption | (simp; done) | (simp; omega) | decide +kernel)
local macro_rules | `(tactic| walk_at "et") => `(tactic| first
  | exact tk_yes
  | (apply tk_andF; walk_at "et")
  | (apply tk_and; (walk_at "et"); (intro _; walk_at "et"))
  | (apply tk_orT; walk_at "et")
  | (apply tk_or; (walk_at "et"); (intro _; walk_at "et"))
  | (apply tk_notT; walk_at "et")
  | (apply tk_notF; walk_at "et")
  | (apply tk_not; walk_at "et")
  | (apply tk_v; walk_at "ev")
  | (apply tk_vB; walk_at "ev"))
local macro_rules | `(tactic| walk_at "if") => `(tactic| first
  | (apply pst_whenF; (walk_at "et"); (walk_at "bb"))
  | (apply pst_whenT; (walk_at "et"); (walk_at "bb")))
local macro_rules | `(tactic| walk_at "post") => `(tactic| first | assumption | exact ⟨_, _, rfl, rfl⟩ | exact ⟨_, _, _, _, rfl, by omega, by omega, rfl⟩ | exact ⟨_, _, _, 0, rfl, by omega, by omega, rfl⟩)
local macro_rules | `(tactic| walk_at "cc") => `(tactic| first | assumption | decide | omega | (refine ⟨?_, ?_⟩ <;> first | decide | omega) | (exact Or.inl (by constructor <;> omega)))

def pBods (ds : List PyData) (d : PyData) : Prop := ∃ s : Stm, ds = [encS s] ∧ d = .tuple ((bods s).map fun b => .tuple (encB b))
def pCount (n : Nat) (ds : List PyData) (d : PyData) : Prop := ∃ b : List Stm, ds = [.tuple (encB b)] ∧ b.length ≤ 20000 ∧ smB b = true ∧ dpB b + 1 ≤ n ∧ d = .int (cntB b : Int)
theorem filter_yes {α : Type} (xs : List α) : xs.filter (fun _ => true) = xs := List.filter_eq_self.mpr fun _ _ => rfl
theorem sum_cast : ∀ xs : List Nat, (xs.map fun n => ((n : Nat) : Int)).sum = ((xs.sum : Nat) : Int)
  | [] => rfl
  | x :: r => by simp [sum_cast r]
section
variable {P : Program} {w : World} {K : PySem.W.Frag} {mg : Str → Option Value} {base : Heap} (T : Tx K mg)
include T
theorem ok_bodyN (GT : Fn_is_thing T P w base CX0 8 (spF K (pThing 6))) (GC : Fn_is_call T P w base CX0 9 (spF K pCall)) : ∀ n : Nat, Fn_is_body T P w base CX0 (10 + 2 * n) (spF K (pBody n)) := by
  intro n
  induction n with
  | zero => exact fn_vac fun vs H Q E ⟨ds, d, _, ⟨_, _, _, w, _, _, _, _, h1, h2, _⟩, _⟩ => by omega
  | succ n ih => exact ok_is_body T (ok_is_step (k := 10 + 2 * n) T (by omega) GT GC ih)
theorem ok_bodies_of {k : Nat} : Fn_bodies_of T P w base CX0 (k + 1) (spF K pBods) := by
  refine T.F_bodies_of.ok sc_bodies_of (spF_len fun ds d h => by obtain ⟨s, rfl, _⟩ := h; rfl) fun cdv A outer s H vs Q E hr h => ?_
  obtain ⟨ds, d, ht, ⟨st, rfl, rfl⟩, k⟩ := h
  obtain _ | ⟨t1, _ | _⟩ := ht
  refine ⟨_, (pss_one (ps_ret (pe_ifExp (pt_cmpR (kop_eq K hr.units) (pe_ix (kix_tup K) (pv 0) pe_int (fun _ _ => rfl)) pe_str (nomark _)) (pe_slice (ksl_tup K) (pv 0) (po_some pe_int) po_none) (pe_tup pa_nil)))), ?_⟩
  refine Pst.go (K := K) ?_
  apply pst_ret _ k
  cases st with
  | ite t a b =>
    apply ed_ifT
    · apply tk_is
      · walk_at "et"
      · walk_at "bb"
    · apply ed_is
      · walk_at "ev"
      · rfl
  | _ =>
    apply ed_ifF
    · apply tk_is
      · walk_at "et"
      · walk_at "bb"
    · apply ed_is
      · walk_at "ev"
      · rfl
theorem ok_count (GB : Fn_bodies_of T P w base CX0 1 (spF K pBods)) : ∀ n : Nat, Fn_count T P w base CX0 (n + 1) (spF K (pCount n)) := by
  intro n
  induction n with
  | zero => exact fn_vac fun vs H Q E ⟨ds, d, _, ⟨_, _, _, _, h2, _⟩, _⟩ => by omega
  | succ n ih =>
    have G_bodies_of := GB
    have G_count := ih
    refine T.F_count.ok sc_count (spF_len fun ds d h => by obtain ⟨s, rfl, _⟩ := h; rfl) fun cdv A outer s H vs Q E hr h => ?_
    obtain ⟨ds, d, ht, ⟨b, rfl, hl, hs, hn, rfl⟩, k⟩ := h
    obtain _ | ⟨t1, _ | _⟩ := ht
    refine ⟨_, (pss_one (ps_ret (pe_callB (kc_sum K) rfl T.b_sum (by decide +kernel) (pa_cons (pe_lc (own := [("step", 1)]) (g := gName 1) (tt := tYes) rfl sc_count.nd (kpi_tup K (pv 0)) (blkOk_by (N := ["body", "step", "inner"]) (sc := defScope s_count) (by decide +kernel)) (fun _ _ _ _ _ => (pg_name (i := 1) sc_count.nd rfl (Or.inl rfl))) (fun _ _ _ _ _ => pts_nil) (fun _ _ _ _ _ => (pe_op op_add pe_int (pe_callB (kc_sum K) rfl T.b_sum (by decide +kernel) (pa_cons (pe_lc (own := [("inner", 2)]) (g := gName 2) (tt := tYes) rfl sc_count.nd (kpi_tup K (pe_call G_bodies_of (hr.mono (by omega)) (by rfl) T.g_bodies_of T.k_bodies_of T.bd_bodies_of .nil pass0 (pa_cons (pv 1) pa_nil))) (blkOk_by (N := ["body", "step", "inner"]) (sc := relS _ (defScope s_count)) (by decide +kernel)) (fun _ _ _ _ _ => (pg_name (i := 2) sc_count.nd rfl (Or.inl rfl))) (fun _ _ _ _ _ => pts_nil) (fun _ _ _ _ _ => (pe_call G_count (hr.mono (by omega)) (by rfl) T.g_count T.k_count T.bd_count .nil pass0 (pa_cons (pv 2) pa_nil)))) pa_nil))))) pa_nil)))), ?_⟩
    refine Pst.go (K := K) ?_
    apply pst_ret _ k
    apply ed_is
    · refine ed_sum (ns := b.map fun s => (cntS s : Int)) ?_
      apply EvDL.rd
      apply edl_is
      · apply edl_lcM (xs := b) (f := encS) (p := fun _ => true) (g := fun s => .int (cntS s : Int))
        · walk_at "ev"
        · exact encB_map b
        · omega
        · intro x
          rfl
        · intro x v H1 e1 hx tx
          exact tk_yes
        · intro x v H1 e1 hx _ tx
          apply ed_is
          · apply ed_I0i
            · exact ed_ci
            · refine ed_sum (ns := (bods x).map fun b => (cntB b : Int)) ?_
              apply EvDL.rd
              apply edl_is
              · apply edl_lcM (xs := bods x) (f := fun b => .tuple (encB b)) (p := fun _ => true) (g := fun b => .int (cntB b : Int))
                · apply ed_call
                  · walk_at "eva"
                  · exact ⟨x, rfl, rfl⟩
                · rfl
                · cases x <;> simp [bods]
                · intro x
                  rfl
                · intro x v H1 e1 hx tx
                  exact tk_yes
                · intro y v H1 e1 hy _ ty
                  have hy2 := bods_sm (smB_mem hs hx) hy
                  have hy3 := bods_dp hy
                  have hx3 := dpB_mem hx
                  apply ed_call
                  · walk_at "eva"
                  · exact ⟨y, rfl, hy2.1, hy2.2, by omega, rfl⟩
              · rw [filter_yes, List.map_map]
                rfl
          · rw [cntS_bods]
            have := sum_cast ((bods x).map cntB)
            rw [List.map_map] at this
            show PyData.int (1 + ((bods x).map fun b => (cntB b : Int)).sum) = _
            rw [show ((bods x).map fun b => (cntB b : Int)) = (bods x).map ((fun n : Nat => (n : Int)) ∘ cntB) from rfl, this]
            rfl
      · rw [filter_yes, List.map_map]
        rfl
    · have := sum_cast (b.map cntS)
      rw [List.map_map] at this
      rw [show (b.map fun s => (cntS s : Int)) = b.map ((fun n : Nat => (n : Int)) ∘ cntS) from rfl, this, cntB_sum]
end
end Hw

set_option maxRecDepth 100000
set_option maxHeartbeats 4000000
/-! PC5: works, programs, ways -/
namespace Hw
open PySem PySem.Spec PyProof.Rows L2 Evl
local macro_rules | `(tactic| walk_at "dd") => `(tactic| first | rfl | decide | (simp; done) | omega)
local macro_rules | `(tactic| walk_at "td") => `(tactic| first | assumption | exact Td.int _ | exact Td.bl _ | exact Td.str _ | exact Td.non | exact Td.tup (by assumption) (by assumption))
local macro_rules | `(tactic| walk_at "ev") => `(tactic| first
  | exact ed_ci | exact ed_cs | exact ed_cb | exact ed_cn
  | (apply ed_cg; assumption)
  | (apply ed_var; (rfl); (walk_at "td"))
  | (apply ed_ixT; (walk_at "ev"); (walk_at "ev"); (first | rfl | assumption))
  | (apply ed_rowI; (rfl); (assumption); (walk_at "ev"); (rfl))
  | (apply ed_ixL; (apply EvDL.rd; walk_at "edl"); (walk_at "ev"); (rfl))
  | (apply ed_intb; (walk_at "ev"))
  | (apply ed_len; walk_at "ev")
  | (apply ed_lenV; (apply ev_rowR; (rfl); (assumption); (walk_at "ev"); (rfl)); (assumption))
  | (apply ed_Ii; (walk_at "ev"); (walk_at "ev"); (walk_at "cc"))
  | (apply ed_isi; (walk_at "ev"); (rfl))
  | (apply ed_I0i; (walk_at "ev"); (walk_at "ev"))
  | (apply ed_I0b; (walk_at "ev"); (walk_at "ev"))
  | (apply ed_eqi; (walk_at "ev"); (walk_at "ev"))
  | (apply ed_nei; (walk_at "ev"); (walk_at "ev"))
  | (apply ed_andF; walk_at "ev")
  | (apply ed_andV; (walk_at "ev"); (intro _; walk_at "ev"))
  | (apply ed_orT; walk_at "ev")
  | (apply ed_orV; (walk_at "ev"); (intro _; walk_at "ev"))
  | (apply ed_notT; walk_at "ev")
  | (apply ed_notF; walk_at "ev")
  | (apply ed_notV; walk_at "ev")
  | (apply ed_chain; (walk_at "ev"); (walk_at "ev"); (intro _; walk_at "ev"))
  | (apply ed_eqS; (walk_at "ev"); (walk_at "ev"); (walk_at "bb"); (walk_at "bb"))
  | (apply ed_neS; (walk_at "ev"); (walk_at "ev"); (walk_at "bb"); (walk_at "bb"))
  | (apply ed_inT; (walk_at "ev"); (walk_at "ev"); (rfl); (rfl))
  | (apply ed_niT; (walk_at "ev"); (walk_at "ev"); (rfl); (rfl))
  | (apply ed_tup; (walk_at "eva"); (walk_at "bb"))
  | (apply ed_sl; (walk_at "ev"); (walk_at "evo"); (walk_at "evo"))
  | (apply ed_eqN; (apply EvDL.rd; walk_at "edl"); (walk_at "edl"); (walk_at "bb"))
  | (apply ed_neN; (apply EvDL.rd; walk_at "edl"); (walk_at "edl"); (walk_at "bb"))
  | (apply ed_ixL; (apply edr_var; (rfl); (assumption); (assumption)); (walk_at "ev"); (first | rfl | assumption))
  | (apply ed_lenL; (apply edr_var; (rfl); (assumption); (assumption)))
  | (apply ed_call; (walk_at "eva"); (walk_at "post")))
local macro_rules | `(tactic| walk_at "edl") => `(tactic| first
  | assumption
  | (apply edl_lst; (walk_at "eva"); (walk_at "bb")))
local macro_rules | `(tactic| walk_at "eva") => `(tactic| first
  | exact eda_nil
  | (apply eda_cons; (walk_at "ev"); (walk_at "eva")))
local macro_rules | `(tactic| walk_at "evo") => `(tactic| first
  | exact eok_none
  | (apply eok_some; walk_at "ev"))
local macro_rules | `(tactic| walk_at "bb") => `(tactic| first | rfl | assumption | (simp; done) | (simp; omega) | decide +kernel)
local macro_rules | `(tactic| walk_at "et") => `(tactic| first
  | exact tk_yes
  | (apply tk_andF; walk_at "et")
  | (apply tk_and; (walk_at "et"); (intro _; walk_at "et"))
  | (apply tk_orT; walk_at "et")
  | (apply tk_or; (walk_at "et"); (intro _; walk_at "et"))
  | (apply tk_notT; walk_at "et")
  | (apply tk_notF; walk_at "et")
  | (apply tk_not; walk_at "et")
  | (apply tk_v; walk_at "ev")
  | (apply tk_vB; walk_at "ev"))
local macro_rules | `(tactic| walk_at "if") => `(tactic| first
  | (apply pst_whenF; (walk_at "et"); (walk_at "bb"))
  | (apply pst_whenT; (walk_at "et"); (walk_at "bb")))
local macro_rules | `(tactic| walk_at "post") => `(tactic| first | assumption | exact ⟨_, _, rfl, rfl⟩ | exact ⟨_, _, _, _, rfl, by omega, by omega, rfl⟩ | exact ⟨_, _, _, 0, rfl, by omega, by omega, rfl⟩)
local macro_rules | `(tactic| walk_at "cc") => `(tactic| first | assumption | decide | omega | (refine ⟨?_, ?_⟩ <;> first | decide | omega) | (exact Or.inl (by constructor <;> omega)))

def smP (p : List Wk) : Prop := p.length ≤ 1000 ∧ ∀ w ∈ p, w.body.length ≤ 20000 ∧ smB w.body = true
theorem ints_lay (f : Nat → Int) : ∀ xs : List Nat, PyData.canLayAll0 (xs.map fun i => PyData.int (f i)) = true
  | [] => by simp [PyData.canLayAll0]
  | x :: r => by simp [PyData.canLayAll0, PyData.canLay0, ints_lay f r]
theorem strs_lay : ∀ xs : List Str, (∀ s ∈ xs, (PyData.str s).canLay0 = true) → PyData.canLayAll0 (xs.map PyData.str) = true
  | [], _ => by simp [PyData.canLayAll0]
  | x :: r, h => by
    simp only [List.map_cons, PyData.canLayAll0, Bool.and_eq_true]
    exact ⟨h x List.mem_cons_self, strs_lay r fun s hs => h s (List.mem_cons_of_mem _ hs)⟩
def pWork (ds : List PyData) (d : PyData) : Prop := ∃ (p : List Wk) (at_ : Nat), ds = [encP p, .int (at_ : Int)] ∧ smP p ∧ at_ < p.length ∧ d = .bool (okW p at_)
/-- need_program(program) as a statement -/
theorem pst_callNP {K : PySem.W.Frag} {σ : L2.St} {H : Hp} {D : Ends} {tz : TS} {E : XK} {n : Nat} {v : V} {spNP : Sp} (h : σ[n]? = some (some v)) (hsp : ∀ H1, Ex H H1 → ∀ Q : VK, (∀ H', Ex H1 H' → Q .non H') → spNP [v] H1 Q E)
    (k : Pst K tz D σ H) : Pst K (tSeq (tDrop (tCall spNP [] E (tCons (tVar n) tNil))) tz) D σ H := fun H1 a => ⟨v, h, hsp H1 a _ fun H' e => k H' (a.trans e)⟩
section
variable {P : Program} {w : World} {K : PySem.W.Frag} {mg : Str → Option Value} {base : Heap} (T : Tx K mg)
include T
theorem ok_is_work (G_is_body : Fn_is_body T P w base CX0 22 (spF K (pBody 6))) (G_count : Fn_count T P w base CX0 8 (spF K (pCount 7))) : Fn_is_work T P w base CX0 23 (spF K pWork) := by
  refine T.F_is_work.ok sc_is_work (spF_len fun ds d h => by obtain ⟨s, _, rfl, _⟩ := h; rfl) fun cdv A outer s H vs Q E hr h => ?_
  obtain ⟨ds, d, ht, ⟨p, at_, rfl, hs, hat, rfl⟩, k⟩ := h
  obtain _ | ⟨t1, _ | ⟨t2, _ | _⟩⟩ := ht
  refine ⟨_, (pss_cons (ps_asg (pe_ix (kix_tup K) (pv 0) (pv 1) (fun _ _ => rfl)) (kpg_tup K rfl (pgs_cons (pg_name (i := 2) sc_is_work.nd rfl (Or.inl rfl)) (pgs_cons (pg_name (i := 3) sc_is_work.nd rfl (Or.inl rfl)) (pgs_cons (pg_name (i := 4) sc_is_work.nd rfl (Or.inl rfl)) pgs_nil)))))
  (pss_cons (ps_if (PW.pt (pw_or (pt_not (pt_chain op_le op_le pe_int (pv 2) (pe_gint rfl T.g_MOST_PARAMS))) (pw_or (pt_not (pt_chain op_le op_le pe_int (pv 3) (pe_gint rfl T.g_MOST_OWNS))) (pw_or1 (PW.pt (pw_and (pt_cmpR op_eq (pv 1) pe_int (nomark _)) (pw_and1 (pt_cmpR op_gt (pv 2) pe_int (nomark _)))))))))
    (pss_one (ps_ret pe_bl))
    pss_nil)
  (pss_one (ps_ret (pe_and (pe_call G_is_body (hr.mono (by omega)) (by rfl) T.g_is_body T.k_is_body T.bd_is_body .nil pass0 (pa_cons (pv 0) (pa_cons (pv 1) (pa_cons (pv 4) (pa_cons pe_int pa_nil))))) (pe_one (pe_cmpR op_le (pe_call G_count (hr.mono (by omega)) (by rfl) T.g_count T.k_count T.bd_count .nil pass0 (pa_cons (pv 4) pa_nil)) (pe_gint rfl T.g_MOST_STEPS) (nomark _)))))))), ?_⟩
  cases t2
  have hwk : p[at_]? = some p[at_] := List.getElem?_eq_getElem hat
  have hix : atI (p.map encW) (at_ : Int) = some (encW p[at_]) := atI_enc hwk
  have hsm := hs.2 p[at_] (List.getElem_mem hat)
  refine Pst.go (K := K) ?_
  refine pst_unp3 (d1 := .int (p[at_].params : Int)) (d2 := .int (p[at_].owns : Int)) (d3 := .tuple (encB p[at_].body)) ?_ ?_
  · apply ed_is
    · walk_at "ev"
    · rfl
  intro v1 v2 v3 H1 e1 u1 u2 u3
  cases u1
  cases u2
  replace t1 := t1.ex e1
  replace k := fun v H' (e : Ex H1 H') => k v H' (e1.trans e)
  apply pst_when
  · walk_at "et"
  · intro hb
    apply pst_ret _ k
    apply ed_is
    · walk_at "ev"
    · simp only [okW, hwk]
      simp at hb ⊢
      intros
      exfalso
      omega
  · intro hb
    apply pst_ret _ k
    apply ed_is
    · apply ed_andV
      · apply ed_call
        · walk_at "eva"
        · exact ⟨p, at_, p[at_].body, 0, rfl, hat, hsm.1, hsm.2, by omega, by omega, rfl⟩
      · intro hok
        apply ed_I0b
        · apply ed_call
          · walk_at "eva"
          · exact ⟨p[at_].body, rfl, hsm.1, hsm.2, by have := okB_dp _ _ hok; omega, rfl⟩
        · walk_at "ev"
    · simp only [okW, hwk]
      simp at hb
      have h1 : p[at_].params ≤ 3 := by omega
      have h2 : p[at_].owns ≤ 99 := by omega
      have h3 : at_ = 0 → p[at_].params = 0 := by omega
      have h4 : (decide (at_ ≠ 0) || decide (p[at_].params = 0)) = true := by
        by_cases e : at_ = 0
        · simp [h3 e]
        · simp [e]
      rw [h4]
      simp [h1, h2]
      congr 1
      exact decide_eq_decide.mpr (by omega)
/-- refused, or let by -/
def spNP (K : PySem.W.Frag) : Sp := fun vs H Q E => ∃ p, TdAll K H vs [encP p] ∧ smP p ∧ (okP p = true → ∀ H', Ex H H' → Q .non H') ∧ (okP p = false → ∀ H', Ex H H' → E (.ref (He.ga K "BadProgram")) none H')
theorem ok_need_program (G_is_work : Fn_is_work T P w base CX0 23 (spF K pWork)) : Fn_need_program T P w base (L2.CX P w) 24 (spNP K) := by
  refine T.F_need_program.ok sc_need_program (fun vs H Q E h => by obtain ⟨p, ht, _⟩ := h; exact ht.length) fun cdv A outer s H vs Q E hr h => ?_
  obtain ⟨p, ht, hs, kq, ke⟩ := h
  obtain _ | ⟨t1, _ | _⟩ := ht
  refine ⟨_, (pss_cons (ps_if (pt_not (pt_chain op_le op_le pe_int (pe_callB (kc_len K) rfl T.b_len PySem.boot_len (pa_cons (pv 0) pa_nil)) (pe_gint rfl T.g_MOST_WORKS)))
    (pss_one (ps_raise rfl (takes_of rfl rfl rfl rfl) (pmk_own PySem.F.excBase_ValueError T.x_BadProgram T.g_BadProgram T.k_BadProgram (raises_own T.be_BadProgram T.ty_BadProgram) (by exact rfl))))
    pss_nil)
  (pss_one (ps_if (pt_cmpR (kop_ne K hr.units) (pe_lc (own := [("at", 1)]) (g := gName 1) (tt := _) rfl sc_need_program.nd (pi_range1 rfl T.b_range (pa_cons (pe_callB (kc_len K) rfl T.b_len PySem.boot_len (pa_cons (pv 0) pa_nil)) pa_nil)) (blkOk_by (N := ["program", "at"]) (sc := defScope s_need_program) (by decide +kernel)) (fun _ _ _ _ _ => (pg_name (i := 1) sc_need_program.nd rfl (Or.inl rfl))) (fun _ _ _ _ _ => (pts_one (pt_not (pt_val (pe_call G_is_work (hr.mono (by omega)) (by rfl) T.g_is_work T.k_is_work T.bd_is_work .nil pass0 (pa_cons (pv 0) (pa_cons (pv 1) pa_nil))))))) (fun _ _ _ _ _ => (pv 1))) (pe_lst pa_nil) (nomark _))
    (pss_one (ps_raise rfl (takes_of rfl rfl rfl rfl) (pmk_own PySem.F.excBase_ValueError T.x_BadProgram T.g_BadProgram T.k_BadProgram (raises_own T.be_BadProgram T.ty_BadProgram) (by exact rfl))))
    pss_nil))), ?_⟩
  refine Pst.go (K := K) ?_
  apply pst_when
  · walk_at "et"
  · intro hb H1 e1
    refine ke ?_ H1 e1
    simp [encP] at hb
    simp [okP]
    omega
  intro hb
  simp at hb
  apply pst_if (b := !((List.range p.length).all (okW p)))
  · apply tk_v
    apply ed_is
    · apply ed_neN
      · apply EvDL.rd
        apply edl_lcR (n := p.length) (p := fun i => !okW p i) (g := fun i => .int (i : Int))
        · apply eda_cons
          · apply ed_is
            · walk_at "ev"
            · simp
          · exact eda_nil
        · have := hs.1
          omega
        · intro x
          rfl
        · intro i H1 e1 hi
          replace t1 := t1.ex e1
          apply tk_not
          apply tk_vB
          apply ed_call
          · walk_at "eva"
          · exact ⟨p, i, rfl, hs, hi, rfl⟩
        · intro i H1 e1 hi _
          walk_at "ev"
      · walk_at "edl"
      · exact ints_lay _ _
    · rw [List.isEmpty_map, filter_not_isEmpty]
  · intro hb2 H1 e1
    refine ke ?_ H1 e1
    simp only [okP]
    simp at hb2
    simp
    intros
    obtain ⟨x, h1, h2⟩ := hb2
    exact ⟨x, h1, h2⟩
  · intro hb2 H1 e1
    refine kq ?_ H1 e1
    simp only [okP]
    simp at hb2
    simp
    refine ⟨by omega, by omega, hb2⟩
def spNY (K : PySem.W.Frag) : Sp := fun vs H Q E => ∃ p ys, TdAll K H vs [encP p, encY ys] ∧ smP p ∧ smY ys ∧ (okP p = true → okY p ys = true → ∀ H', Ex H H' → Q .non H') ∧ (okP p = false → ∀ H', Ex H H' → E (.ref (He.ga K "BadProgram")) none H') ∧
  (okP p = true → okY p ys = false → ∀ H', Ex H H' → E (.ref (He.ga K "BadWays")) none H')
end
end Hw

set_option maxRecDepth 100000
set_option maxHeartbeats 4000000
/-! W4: more rules: int(a truth), steps with effects -/
namespace Hw
open PySem PySem.Spec PyProof.Rows L2 Evl
section
variable {K : PySem.W.Frag} {σ : L2.St} {H H' : Hp} {D : Ends} {tu tz tw : TS} {ds es : List PyData} {ta tr : TA} {tb te tx : TE} {t : TT} {d : PyData} {v : V} {i j : Int} {Q : VK}
/-! one step at a time, whatever it does -/
theorem w_d (h : EvD K te σ H d) (k : ∀ v H1, Ex H H1 → Td K H1 v d → Q v H1) : te σ H Q := h H (Ex.refl H) Q k
theorem w_t {b : Bool} {Q : Bool → Hp → Prop} (h : EvTK K t σ H b) (k : ∀ H1, Ex H H1 → Q b H1) : t σ H Q := h H (Ex.refl H) Q k
theorem w_dl (h : EvDL K te σ H ds) (k : ∀ p xs H1, H p = none → Ex H H1 → H1 p = some (.lst xs) → TdAll K H1 xs ds → Q (.ref p) H1) : te σ H Q := h H (Ex.refl H) Q k
theorem w_ret (h : te σ H D.rt) : tRet te D σ H := h
theorem w_cons {Q : List V → Hp → Prop} (h : te σ H fun x H1 => tr σ H1 fun xs H2 => Q (x :: xs) H2) : tCons te tr σ H Q := h
theorem w_nil {Q : List V → Hp → Prop} (h : Q [] H) : tNil σ H Q := h
theorem w_c (h : Q v H) : tC v σ H Q := h
theorem w_v {n : Nat} (hs : σ[n]? = some (some v)) (h : Q v H) : tVar n σ H Q := ⟨v, hs, h⟩
theorem w_tup (h : ta σ H fun xs H1 => xs.length ≤ sizeLine ∧ ∀ p, H1 p = none → Q (.ref p) (upd H1 p (.tup xs))) : tTup ta σ H Q := h
theorem w_asg {n : Nat} (h : te σ H fun x H1 => D.nx (σ.set n (some x)) H1) : tAsg te (gName n) D σ H := h
theorem w_seq (h : tu { D with nx := tz D } σ H) : tSeq tu tz D σ H := h
theorem w_call {sp : Sp} {E : XK} (h : ta σ H fun vs H1 => sp (vs ++ []) H1 Q E) : tCall sp [] E ta σ H Q := h
theorem w_op {r : R2} (h : tb σ H fun x H1 => te σ H1 fun y H2 => r x y H2 Q) : tOp r tb te σ H Q := h
theorem w_if (h : t σ H fun c H1 => if c = true then tb σ H1 Q else te σ H1 Q) : tIf t tb te σ H Q := h
theorem w_ifs (h : t σ H fun b H1 => if b = true then tu D σ H1 else tw D σ H1) : tIfS t tu tw D σ H := h
theorem w_test {Q : Bool → Hp → Prop} (h : te σ H fun x H' => ∃ k, x = .bl k ∧ Q k H') : tTest te σ H Q := h
theorem w_and {u : TT} {Q : Bool → Hp → Prop} (h : t σ H fun c H1 => if c = true then u σ H1 Q else Q false H1) : tAnd t u σ H Q := h
theorem w_drop (h : te σ H fun _ H1 => D.nx σ H1) : tDrop te D σ H := h
/-- xs.append(e), by what e is worth -/
theorem w_app {l : Addr} {n : Nat} {ys : List V} (hs : σ[n]? = some (some (.ref l))) (hl : H l = some (.lst ys)) (h : te σ H fun x H1 => ∃ xs, H1 l = some (.lst xs) ∧ xs.length < sizeLine ∧ D.nx σ (upd H1 l (.lst (xs ++ [x])))) :
    tDrop (tBM K "list" rAppend (tVar n) (tCons te tNil)) D σ H := ⟨.ref l, hs, .inl ⟨rfl, ys, SqL.of hl⟩, by
    show te σ H fun x H1 => rAppend (.ref l) [x] H1 fun _ H2 => D.nx σ H2
    have e : (fun (x : V) (H1 : Hp) => rAppend (.ref l) [x] H1 fun _ H2 => D.nx σ H2) = fun x H1 => ∃ xs, H1 l = some (.lst xs) ∧ xs.length < sizeLine ∧ D.nx σ (upd H1 l (.lst (xs ++ [x]))) := by
      funext x H1
      refine propext ⟨fun ⟨l2, xs, y, e1, e2, e3, e4, e5⟩ => ?_, fun ⟨xs, e3, e4, e5⟩ => ⟨l, xs, x, rfl, rfl, e3, e4, e5⟩⟩
      cases e1
      cases e2
      exact ⟨xs, e3, e4, e5⟩
    rw [e]
    exact h⟩
theorem tdall2 {v1 v2 : V} {d1 d2 : PyData} (h1 : Td K H v1 d1) (h2 : Td K H v2 d2) : TdAll K H [v1, v2] [d1, d2] := .cons h1 (.cons h2 .nil)
theorem tdall3 {v1 v2 v3 : V} {d1 d2 d3 : PyData} (h1 : Td K H v1 d1) (h2 : Td K H v2 d2) (h3 : Td K H v3 d3) : TdAll K H [v1, v2, v3] [d1, d2, d3] := .cons h1 (.cons h2 (.cons h3 .nil))
/-- a new tuple -/
theorem td_new {p : Addr} {xs : List V} (hp : H p = none) (h : TdAll K H xs ds) : Td K (upd H p (.tup xs)) (.ref p) (.tuple ds) := .tup (SqT.of upd_same) (h.ex (Ex.new hp))
end
end Hw

set_option maxRecDepth 100000
set_option maxHeartbeats 4000000
/-! PG1: what the law takes of the script -/
namespace Hw
open PySem PySem.Spec PyProof.Rows L2 Evl
local macro_rules | `(tactic| walk_at "dd") => `(tactic| first | rfl | decide | (simp; done) | omega)
local macro_rules | `(tactic| walk_at "td") => `(tactic| first | assumption | exact Td.int _ | exact Td.bl _ | exact Td.str _ | exact Td.non | exact Td.tup (by assumption) (by assumption))
local macro_rules | `(tactic| walk_at "ev") => `(tactic| first
  | exact ed_ci | exact ed_cs | exact ed_cb | exact ed_cn
  | (apply ed_cg; assumption)
  | (apply ed_var; (rfl); (walk_at "td"))
  | (apply ed_ixT; (walk_at "ev"); (walk_at "ev"); (first | rfl | assumption))
  | (apply ed_rowI; (rfl); (assumption); (walk_at "ev"); (rfl))
  | (apply ed_ixL; (apply EvDL.rd; walk_at "edl"); (walk_at "ev"); (rfl))
  | (apply ed_intb; (walk_at "ev"))
  | (apply ed_len; walk_at "ev")
  | (apply ed_lenV; (apply ev_rowR; (rfl); (assumption); (walk_at "ev"); (rfl)); (assumption))
  | (apply ed_Ii; (walk_at "ev"); (walk_at "ev"); (walk_at "cc"))
  | (apply ed_isi; (walk_at "ev"); (rfl))
  | (apply ed_I0i; (walk_at "ev"); (walk_at "ev"))
  | (apply ed_I0b; (walk_at "ev"); (walk_at "ev"))
  | (apply ed_eqi; (walk_at "ev"); (walk_at "ev"))
  | (apply ed_nei; (walk_at "ev"); (walk_at "ev"))
  | (apply ed_andF; walk_at "ev")
  | (apply ed_andV; (walk_at "ev"); (intro _; walk_at "ev"))
  | (apply ed_orT; walk_at "ev")
  | (apply ed_orV; (walk_at "ev"); (intro _; walk_at "ev"))
  | (apply ed_notT; walk_at "ev")
  | (apply ed_notF; walk_at "ev")
  | (apply ed_notV; walk_at "ev")
  | (apply ed_chain; (walk_at "ev"); (walk_at "ev"); (intro _; walk_at "ev"))
  | (apply ed_eqS; (walk_at "ev"); (walk_at "ev"); (walk_at "bb"); (walk_at "bb"))
  | (apply ed_neS; (walk_at "ev"); (walk_at "ev"); (walk_at "bb"); (walk_at "bb"))
  | (apply ed_inT; (walk_at "ev"); (walk_at "ev"); (rfl); (rfl))
  | (apply ed_niT; (walk_at "ev"); (walk_at "ev"); (rfl); (rfl))
  | (apply ed_tup; (walk_at "eva"); (walk_at "bb"))
  | (apply ed_sl; (walk_at "ev"); (walk_at "evo"); (walk_at "evo"))
  | (apply ed_eqN; (apply EvDL.rd; walk_at "edl"); (walk_at "edl"); (walk_at "bb"))
  | (apply ed_neN; (apply EvDL.rd; walk_at "edl"); (walk_at "edl"); (walk_at "bb"))
  | (apply ed_ixL; (apply edr_var; (rfl); (assumption); (assumption)); (walk_at "ev"); (first | rfl | assumption))
  | (apply ed_lenL; (apply edr_var; (rfl); (assumption); (assumption)))
  | (apply ed_call; (walk_at "eva"); (walk_at "post")))
local macro_rules | `(tactic| walk_at "edl") => `(tactic| first
  | assumption
  | (apply edl_lst; (walk_at "eva"); (walk_at "bb")))
local macro_rules | `(tactic| walk_at "eva") => `(tactic| first
  | exact eda_nil
  | (apply eda_cons; (walk_at "ev"); (walk_at "eva")))
local macro_rules | `(tactic| walk_at "evo") => `(tactic| first
  | exact eok_none
  | (apply eok_some; walk_at "ev"))
local macro_rules | `(tactic| walk_at "bb") => `(tactic| first | rfl | assumption | (simp; done) | (simp; omega) | decide +kernel)
local macro_rules | `(tactic| walk_at "et") => `(tactic| first
  | exact tk_yes
  | (apply tk_andF; walk_at "et")
  | (apply tk_and; (walk_at "et"); (intro _; walk_at "et"))
  | (apply tk_orT; walk_at "et")
  | (apply tk_or; (walk_at "et"); (intro _; walk_at "et"))
  | (apply tk_notT; walk_at "et")
  | (apply tk_notF; walk_at "et")
  | (apply tk_not; walk_at "et")
  | (apply tk_v; walk_at "ev")
  | (apply tk_vB; walk_at "ev"))
local macro_rules | `(tactic| walk_at "if") => `(tactic| first
  | (apply pst_whenF; (walk_at "et"); (walk_at "bb"))
  | (apply pst_whenT; (walk_at "et"); (walk_at "bb")))
local macro_rules | `(tactic| walk_at "post") => `(tactic| first | assumption | exact ⟨_, _, rfl, rfl⟩ | exact ⟨_, _, _, _, rfl, by omega, by omega, rfl⟩ | exact ⟨_, _, _, 0, rfl, by omega, by omega, rfl⟩)
local macro_rules | `(tactic| walk_at "cc") => `(tactic| first | assumption | decide | omega | (refine ⟨?_, ?_⟩ <;> first | decide | omega) | (exact Or.inl (by constructor <;> omega)))

/-- the law's row stands at r, over the script at s -/
def RowAt (K : PySem.W.Frag) (s : Addr) (ns : List Int) (H : Hp) (r : Addr) : Prop := ∃ a b c : Int, H r = some (.lst [.ref s, .int a, .int b, .int c]) ∧ SqL K H s (ns.map V.int) ∧ 0 ≤ a ∧ 0 ≤ b ∧ b < 2147483647 ∧ 0 ≤ c
theorem seq_upd {K : PySem.W.Frag} {H : Hp} {s r a : Addr} {ns : List Int} {xs ys : List V} (hr : H r = some (.lst (.ref a :: xs))) (h : SqL K H s (ns.map V.int)) : SqL K (upd H r (.lst ys)) s (ns.map V.int) := by
  rcases h with (h | ⟨o, h⟩) | h
  · refine .inl (.inl ?_)
    rw [upd_ne]
    · exact h
    · intro e
      subst e
      rw [h] at hr
      cases ns <;> simp at hr
  · refine .inl (.inr ⟨o, ?_⟩)
    rw [upd_ne]
    · exact h
    · intro e
      subst e
      rw [h] at hr
      cases hr
  · exact .inr h
theorem RowAt.ex {K : PySem.W.Frag} {s : Addr} {ns : List Int} {H H' : Hp} {r : Addr} (h : RowAt K s ns H r) (e : Ex H H') : RowAt K s ns H' r := by
  obtain ⟨a, b, c, h1, h2, h3⟩ := h
  exact ⟨a, b, c, e _ _ h1, ex_l e h2, h3⟩
theorem RowAt.mu {K : PySem.W.Frag} {s : Addr} {ns : List Int} {H : Hp} {r : Addr} (h : RowAt K s ns H r) : ∃ u, H r = some u ∧ Mut (some u) := by
  obtain ⟨a, b, c, h1, _⟩ := h
  exact ⟨_, h1, True.intro⟩
theorem RowAt.upd {K : PySem.W.Frag} {s : Addr} {ns : List Int} {H : Hp} {r : Addr} {xs : List V} {a b c : Int} (hr : H r = some (.lst (.ref s :: xs))) (h : SqL K H s (ns.map V.int)) (h1 : 0 ≤ a) (h2 : 0 ≤ b) (h3 : b < 2147483647) (h4 : 0 ≤ c) : RowAt K s ns (upd H r (.lst [.ref s, .int a, .int b, .int c])) r :=
  ⟨a, b, c, upd_same, seq_upd hr h, h1, h2, h3, h4⟩
theorem fm_nat {m : Int} (hm : 0 < m) (x : Int) : ∃ k : Nat, x.fmod m = (k : Int) ∧ (k : Int) < m := by
  have h1 : x.fmod m = x % m := Int.fmod_eq_emod_of_nonneg x (by omega)
  have h2 := Int.emod_nonneg x (show m ≠ 0 by omega)
  have h3 := Int.emod_lt_of_pos x hm
  exact ⟨(x % m).toNat, by omega, by omega⟩
theorem fd_nn {m c : Int} (hm : 0 < m) (hc : 0 ≤ c) : 0 ≤ c.fdiv m := by
  rw [Int.fdiv_eq_ediv_of_nonneg c (by omega)]
  exact Int.ediv_nonneg hc (by omega)
/-- a number below many -/
def spTaken (K : PySem.W.Frag) : Sp := fun vs H Q _ => ∃ (r s : Addr) (ns : List Int) (m : Int), vs = [.ref r, .int m] ∧ RowAt K s ns H r ∧ ns.length ≤ 63 ∧ 0 < m ∧ m < 1000001 ∧ ∀ (k : Nat) H', (k : Int) < m → Fr [r] H H' → RowAt K s ns H' r → Q (.int (k : Int)) H'
section
variable {P : Program} {w : World} {K : PySem.W.Frag} {mg : Str → Option Value} {base : Heap} (T : Tx K mg)
include T
theorem ok_taken : Fn__law_taken T P w base CX0 1 (spTaken K) := by
  refine T.F__law_taken.ok sc__law_taken (fun vs H Q E h => by obtain ⟨r, s, ns, m, rfl, _⟩ := h; rfl) fun cdv A outer s0 H vs Q E hr h => ?_
  obtain ⟨r, s, ns, m, rfl, ⟨a, b, c, hrow, hscr, ha, hb, hb2, hc⟩, hn, hm, hm2, k⟩ := h
  refine ⟨_, (pss_cons (ps_if (pt_cmpR op_gt (pe_ix (kix_list K) (pv 0) pe_int (fun _ _ => rfl)) pe_int (nomark _))
    (pss_cons (ps_set (i := 2) sc__law_taken.nd rfl (Or.inl rfl) (pe_op op_modN (pe_ix (kix_list K) (pv 0) pe_int (fun _ _ => rfl)) (pv 1)))
    (pss_cons (ps_asg (pe_op op_fdivN (pe_ix (kix_list K) (pv 0) pe_int (fun _ _ => rfl)) (pv 1)) (pg_sub (pv 0) pe_int set_list))
    (pss_one (ps_ret (pv 2)))))
    pss_nil)
  (pss_cons (ps_asg (pe_op op_add (pe_ix (kix_list K) (pv 0) pe_int (fun _ _ => rfl)) pe_int) (pg_sub (pv 0) pe_int set_list))
  (pss_cons (ps_if (pt_cmpR op_gt (pe_ix (kix_list K) (pv 0) pe_int (fun _ _ => rfl)) (pe_callB (kc_len K) rfl T.b_len PySem.boot_len (pa_cons (pe_ix (kix_list K) (pv 0) pe_int (fun _ _ => rfl)) pa_nil)) (nomark _))
    (pss_cons (ps_asg (pe_op op_modN (pe_op op_add (pe_op op_mul (pe_ix (kix_list K) (pv 0) pe_int (fun _ _ => rfl)) pe_int) pe_int) pe_int) (pg_sub (pv 0) pe_int set_list))
    (pss_one (ps_ret (pe_op op_modN (pe_op op_fdivN (pe_ix (kix_list K) (pv 0) pe_int (fun _ _ => rfl)) pe_int) (pv 1)))))
    pss_nil)
  (pss_cons (ps_set (i := 3) sc__law_taken.nd rfl (Or.inl rfl) (pe_ix (kix_list K) (pe_ix (kix_list K) (pv 0) pe_int (fun _ _ => rfl)) (pe_op op_sub (pe_ix (kix_list K) (pv 0) pe_int (fun _ _ => rfl)) pe_int) (fun _ _ => rfl)))
  (pss_cons (ps_asg (pe_op op_modN (pe_op op_add (pe_op op_add (pe_op op_mul (pe_ix (kix_list K) (pv 0) pe_int (fun _ _ => rfl)) pe_int) (pv 3)) pe_int) pe_int) (pg_sub (pv 0) pe_int set_list))
  (pss_cons (ps_if (pt_cmpR op_ge (pv 3) (pe_op op_pow pe_int pe_int) (nomark _))
    (pss_one (ps_asg (pe_op op_fdivN (pv 3) (pv 1)) (pg_sub (pv 0) pe_int set_list)))
    pss_nil)
  (pss_one (ps_ret (pe_op op_modN (pv 3) (pv 1)))))))))), ?_⟩
  have hmn : m ≠ 0 := by omega
  have hdv : CDivN c m := ⟨hmn, by omega⟩
  have hrow2 : SqL K H r [.ref s, .int a, .int b, .int c] := SqL.of hrow
  refine Pst.go (K := K) ?_
  apply pst_when
  · walk_at "et"
  · intro hb1
    apply pst_asg
    · walk_at "ev"
    intro v H1 e1 t1
    cases t1
    have hrow3 : SqL K H1 r [.ref s, .int a, .int b, .int c] := ex_l e1 hrow2
    apply pst_setI
    · rfl
    · exact e1 _ _ hrow
    · walk_at "ev"
    · walk_at "ev"
    · rfl
    intro H2 e2
    obtain ⟨kk, ek, hk⟩ := fm_nat hm c
    have hd := fd_nn hm hc
    apply pst_ret
    · rw [ek]
      walk_at "ev"
    intro v H3 e3 t3
    cases t3
    have hr2 : H2 r = some (.lst [.ref s, .int a, .int b, .int c]) := e2 _ _ (e1 _ _ hrow)
    exact k kk H3 hk (((Fr.of (e1.trans e2)).trans (Fr.upd (List.mem_cons_self))).trans (Fr.of e3)) ((RowAt.upd hr2 (ex_l (e1.trans e2) hscr) ha hb hb2 hd).ex e3)
  · intro hb1
    apply pst_setI
    · rfl
    · exact hrow
    · walk_at "ev"
    · walk_at "ev"
    · rfl
    intro H1 e1
    have hr1 := e1 _ _ hrow
    have hs1 := seq_upd (ys := [.ref s, .int (a + 1), .int b, .int c]) hr1 (ex_l e1 hscr)
    have hR1 : RowAt K s ns (upd H1 r (.lst [.ref s, .int (a + 1), .int b, .int c])) r := RowAt.upd hr1 (ex_l e1 hscr) (by omega) hb hb2 hc
    have hF1 : Fr [r] H (upd H1 r (.lst [.ref s, .int (a + 1), .int b, .int c])) := (Fr.of e1).trans (Fr.upd (List.mem_cons_self))
    have hq1 : upd H1 r (.lst [.ref s, .int (a + 1), .int b, .int c]) r = some (.lst [.ref s, .int (a + 1), .int b, .int c]) := upd_same
    show Pst K _ _ _ (upd H1 r (.lst [.ref s, .int (a + 1), .int b, .int c]))
    generalize upd H1 r (.lst [.ref s, .int (a + 1), .int b, .int c]) = H2 at *
    have hl2 : SqL K H2 r [.ref s, .int (a + 1), .int b, .int c] := SqL.of hq1
    apply pst_when
    · walk_at "et"
    · intro hb3
      apply pst_setI
      · rfl
      · exact hq1
      · walk_at "ev"
      · walk_at "ev"
      · rfl
      intro H3 e3
      obtain ⟨bb, eb, hbb⟩ := fm_nat (m := 2147483647) (by decide) (b * 48271 + 11)
      have hr3 := e3 _ _ hq1
      have hR3 : RowAt K s ns (upd H3 r (.lst [.ref s, .int (a + 1), .int (bb : Int), .int c])) r := RowAt.upd hr3 (ex_l e3 hs1) (by omega) (by omega) hbb hc
      have hF3 : Fr [r] H (upd H3 r (.lst [.ref s, .int (a + 1), .int (bb : Int), .int c])) := (hF1.trans (Fr.of e3)).trans (Fr.upd (List.mem_cons_self))
      rw [eb]
      have hq3 : upd H3 r (.lst [.ref s, .int (a + 1), .int (bb : Int), .int c]) r = some (.lst [.ref s, .int (a + 1), .int (bb : Int), .int c]) := upd_same
      show Pst K _ _ _ (upd H3 r (.lst [.ref s, .int (a + 1), .int (bb : Int), .int c]))
      generalize upd H3 r (.lst [.ref s, .int (a + 1), .int (bb : Int), .int c]) = H4 at *
      have hl4 : SqL K H4 r [.ref s, .int (a + 1), .int (bb : Int), .int c] := SqL.of hq3
      have h7 : CDivN (bb : Int) 7 := ⟨by decide, by decide⟩
      obtain ⟨kk, ek, hk⟩ := fm_nat hm ((bb : Int).fdiv 7)
      apply pst_ret (d := .int (kk : Int))
      · rw [← ek]
        walk_at "ev"
      intro v H5 e5 t5
      cases t5
      exact k kk H5 hk (hF3.trans (Fr.of e5)) (hR3.ex e5)
    · intro hb3
      simp at hb3
      obtain ⟨x, hx⟩ : ∃ x, ns[a.toNat]? = some x := by
        have : a.toNat < ns.length := by omega
        exact ⟨ns[a.toNat], List.getElem?_eq_getElem this⟩
      have hat : atI (ns.map V.int) (a + 1 - 1) = some (.int x) := by
        have e : (a + 1 - 1 : Int) = ((a.toNat : Nat) : Int) := by omega
        rw [e]
        exact atI_nat (by rw [List.getElem?_map, hx] <;> rfl)
      apply pst_asg (d := .int x)
      · apply ed_i
        refine ev_op (ev_rowR (K := K) (i := 0) rfl hl2 ?_ rfl) (EvD.iv (K := K) (i := a + 1 - 1) ?_) (rv_ixL hs1 hat)
        · walk_at "ev"
        · walk_at "ev"
      intro v H3 e3 t3
      cases t3
      have hl3 : SqL K H3 r [.ref s, .int (a + 1), .int b, .int c] := ex_l e3 hl2
      apply pst_setI
      · rfl
      · exact e3 _ _ hq1
      · walk_at "ev"
      · walk_at "ev"
      · rfl
      intro H4 e4
      obtain ⟨bb, eb, hbb⟩ := fm_nat (m := 2147483647) (by decide) (b * 48271 + x + 11)
      have hr4 := e4 _ _ (e3 _ _ hq1)
      rw [eb]
      have hs4 := seq_upd (ys := [.ref s, .int (a + 1), .int (bb : Int), .int c]) hr4 (ex_l (e3.trans e4) hs1)
      have hR4 : RowAt K s ns (upd H4 r (.lst [.ref s, .int (a + 1), .int (bb : Int), .int c])) r := RowAt.upd hr4 (ex_l (e3.trans e4) hs1) (by omega) (by omega) hbb hc
      have hF4 : Fr [r] H (upd H4 r (.lst [.ref s, .int (a + 1), .int (bb : Int), .int c])) := (hF1.trans (Fr.of (e3.trans e4))).trans (Fr.upd (List.mem_cons_self))
      have hq4 : upd H4 r (.lst [.ref s, .int (a + 1), .int (bb : Int), .int c]) r = some (.lst [.ref s, .int (a + 1), .int (bb : Int), .int c]) := upd_same
      show Pst K _ _ _ (upd H4 r (.lst [.ref s, .int (a + 1), .int (bb : Int), .int c]))
      generalize upd H4 r (.lst [.ref s, .int (a + 1), .int (bb : Int), .int c]) = H5 at *
      have h18 : CPow 10 18 := ⟨by decide, by decide, by decide⟩
      have hdx : CDivN x m := ⟨hmn, by omega⟩
      obtain ⟨kk, ek, hk⟩ := fm_nat hm x
      apply pst_when
      · walk_at "et"
      · intro hb4
        simp at hb4
        apply pst_setI1
        · rfl
        · exact hq4
        · walk_at "ev"
        · walk_at "ev"
        · rfl
        intro H6 e6
        have hd := fd_nn (c := x) hm (by omega)
        dsimp only
        refine Pst.go (K := K) ?_
        have hR6 : RowAt K s ns (upd H6 r (.lst [.ref s, .int (a + 1), .int (bb : Int), .int (x.fdiv m)])) r := RowAt.upd (e6 _ _ hq4) (ex_l e6 hs4) (by omega) (by omega) hbb hd
        have hF6 : Fr [r] H (upd H6 r (.lst [.ref s, .int (a + 1), .int (bb : Int), .int (x.fdiv m)])) := (hF4.trans (Fr.of e6)).trans (Fr.upd (List.mem_cons_self))
        apply pst_ret (d := .int (kk : Int))
        · rw [← ek]
          walk_at "ev"
        intro v H7 e7 t7
        cases t7
        exact k kk H7 hk (hF6.trans (Fr.of e7)) (hR6.ex e7)
      · intro hb4
        apply pst_ret (d := .int (kk : Int))
        · rw [← ek]
          walk_at "ev"
        intro v H7 e7 t7
        cases t7
        exact k kk H7 hk (hF4.trans (Fr.of e7)) (hR4.ex e7)
end
end Hw

set_option maxRecDepth 100000
set_option maxHeartbeats 4000000
/-! PG2: drawn things and places -/
namespace Hw
open PySem PySem.Spec PyProof.Rows L2 Evl
local macro_rules | `(tactic| walk_at "dd") => `(tactic| first | rfl | decide | (simp; done) | omega)
local macro_rules | `(tactic| walk_at "td") => `(tactic| first | assumption | exact Td.int _ | exact Td.bl _ | exact Td.str _ | exact Td.non | exact Td.tup (by assumption) (by assumption))
local macro_rules | `(tactic| walk_at "ev") => `(tactic| first
  | exact ed_ci | exact ed_cs | exact ed_cb | exact ed_cn
  | (apply ed_cg; assumption)
  | (apply ed_var; (rfl); (walk_at "td"))
  | (apply ed_ixT; (walk_at "ev"); (walk_at "ev"); (first | rfl | assumption))
  | (apply ed_rowI; (rfl); (assumption); (walk_at "ev"); (rfl))
  | (apply ed_ixL; (apply EvDL.rd; walk_at "edl"); (walk_at "ev"); (rfl))
  | (apply ed_intb; (walk_at "ev"))
  | (apply ed_len; walk_at "ev")
  | (apply ed_lenV; (apply ev_rowR; (rfl); (assumption); (walk_at "ev"); (rfl)); (assumption))
  | (apply ed_Ii; (walk_at "ev"); (walk_at "ev"); (walk_at "cc"))
  | (apply ed_isi; (walk_at "ev"); (rfl))
  | (apply ed_I0i; (walk_at "ev"); (walk_at "ev"))
  | (apply ed_I0b; (walk_at "ev"); (walk_at "ev"))
  | (apply ed_eqi; (walk_at "ev"); (walk_at "ev"))
  | (apply ed_nei; (walk_at "ev"); (walk_at "ev"))
  | (apply ed_andF; walk_at "ev")
  | (apply ed_andV; (walk_at "ev"); (intro _; walk_at "ev"))
  | (apply ed_orT; walk_at "ev")
  | (apply ed_orV; (walk_at "ev"); (intro _; walk_at "ev"))
  | (apply ed_notT; walk_at "ev")
  | (apply ed_notF; walk_at "ev")
  | (apply ed_notV; walk_at "ev")
  | (apply ed_chain; (walk_at "ev"); (walk_at "ev"); (intro _; walk_at "ev"))
  | (apply ed_eqS; (walk_at "ev"); (walk_at "ev"); (walk_at "bb"); (walk_at "bb"))
  | (apply ed_neS; (walk_at "ev"); (walk_at "ev"); (walk_at "bb"); (walk_at "bb"))
  | (apply ed_inT; (walk_at "ev"); (walk_at "ev"); (rfl); (rfl))
  | (apply ed_niT; (walk_at "ev"); (walk_at "ev"); (rfl); (rfl))
  | (apply ed_tup; (walk_at "eva"); (walk_at "bb"))
  | (apply ed_sl; (walk_at "ev"); (walk_at "evo"); (walk_at "evo"))
  | (apply ed_eqN; (apply EvDL.rd; walk_at "edl"); (walk_at "edl"); (walk_at "bb"))
  | (apply ed_neN; (apply EvDL.rd; walk_at "edl"); (walk_at "edl"); (walk_at "bb"))
  | (apply ed_ixL; (apply edr_var; (rfl); (assumption); (assumption)); (walk_at "ev"); (first | rfl | assumption))
  | (apply ed_lenL; (apply edr_var; (rfl); (assumption); (assumption)))
  | (apply ed_call; (walk_at "eva"); (walk_at "post")))
local macro_rules | `(tactic| walk_at "edl") => `(tactic| first
  | assumption
  | (apply edl_lst; (walk_at "eva"); (walk_at "bb")))
local macro_rules | `(tactic| walk_at "eva") => `(tactic| first
  | exact eda_nil
  | (apply eda_cons; (walk_at "ev"); (walk_at "eva")))
local macro_rules | `(tactic| walk_at "evo") => `(tactic| first
  | exact eok_none
  | (apply eok_some; walk_at "ev"))
local macro_rules | `(tactic| walk_at "bb") => `(tactic| first | rfl | assumption | (simp; done) | (simp; omega) | decide +kernel)
local macro_rules | `(tactic| walk_at "et") => `(tactic| first
  | exact tk_yes
  | (apply tk_andF; walk_at "et")
  | (apply tk_and; (walk_at "et"); (intro _; walk_at "et"))
  | (apply tk_orT; walk_at "et")
  | (apply tk_or; (walk_at "et"); (intro _; walk_at "et"))
  | (apply tk_notT; walk_at "et")
  | (apply tk_notF; walk_at "et")
  | (apply tk_not; walk_at "et")
  | (apply tk_v; walk_at "ev")
  | (apply tk_vB; walk_at "ev"))
local macro_rules | `(tactic| walk_at "if") => `(tactic| first
  | (apply pst_whenF; (walk_at "et"); (walk_at "bb"))
  | (apply pst_whenT; (walk_at "et"); (walk_at "bb")))
local macro_rules | `(tactic| walk_at "post") => `(tactic| first | assumption | exact ⟨_, _, rfl, rfl⟩ | exact ⟨_, _, _, _, rfl, by omega, by omega, rfl⟩ | exact ⟨_, _, _, 0, rfl, by omega, by omega, rfl⟩)
local macro_rules | `(tactic| walk_at "cc") => `(tactic| first | assumption | decide | omega | (refine ⟨?_, ?_⟩ <;> first | decide | omega) | (exact Or.inl (by constructor <;> omega)))

def dpT : Th → Nat
  | .cell t => dpT t + 1
  | .sum a b => max (dpT a) (dpT b) + 1
  | _ => 0
def wfT (ps os : Nat) : Th → Bool
  | .num n => decide (n < 3)
  | .own k => decide (k < os)
  | .par k => decide (k < ps)
  | .cell t => wfT ps os t
  | .sum a b => wfT ps os a && wfT ps os b
theorem okT_of {ps os : Nat} : ∀ (t : Th) (j : Nat), wfT ps os t = true → dpT t + j ≤ 4 → okT ps os t j = true
  | .num n, j, h, hd => by simp [wfT] at h; simp [dpT] at hd; simp [okT]; omega
  | .own n, j, h, hd => by simp [wfT] at h; simp [dpT] at hd; simp [okT]; omega
  | .par n, j, h, hd => by simp [wfT] at h; simp [dpT] at hd; simp [okT]; omega
  | .cell t, j, h, hd => by
    simp only [wfT] at h
    simp only [dpT] at hd
    simp only [okT, okT_of t (j + 1) h (by omega), Bool.and_true, decide_eq_true_eq]
    omega
  | .sum a b, j, h, hd => by
    simp only [wfT, Bool.and_eq_true] at h
    simp only [dpT] at hd
    simp only [okT, okT_of a (j + 1) h.1 (by omega), okT_of b (j + 1) h.2 (by omega), Bool.and_true, decide_eq_true_eq]
    omega
def szD (ps os : Nat) : PyData := .tuple [.int (ps : Int), .int (os : Int)]
def spThing (K : PySem.W.Frag) (n : Nat) : Sp := fun vs H Q _ => ∃ (r s : Addr) (ns : List Int) (v : V) (ps os : Nat), vs = [.ref r, v, .int (n : Int)] ∧ RowAt K s ns H r ∧ ns.length ≤ 63 ∧ Td K H v (szD ps os) ∧ ps ≤ 99 ∧ os ≤ 99 ∧
  ∀ t x H', wfT ps os t = true → dpT t ≤ n + 1 → Fr [r] H H' → RowAt K s ns H' r → Td K H' x (encT t) → Q x H'
def spPlace (K : PySem.W.Frag) (n : Nat) : Sp := fun vs H Q _ => ∃ (r s : Addr) (ns : List Int) (v : V) (ps os : Nat), vs = [.ref r, v, .int (n : Int)] ∧ RowAt K s ns H r ∧ ns.length ≤ 63 ∧ Td K H v (szD ps os) ∧ ps ≤ 99 ∧ os ≤ 99 ∧
  ∀ t x H', wfT ps os t = true → isPlace t = true → dpT t ≤ n + 2 → Fr [r] H H' → RowAt K s ns H' r → Td K H' x (encT t) → Q x H'
section
variable {K : PySem.W.Frag} {σ : L2.St} {H H' : Hp} {te tx : TE} {Q : VK} {r s : Addr} {ns : List Int} {E : XK} {n i : Nat}
theorem RowAt.keep (h : RowAt K s ns H r) (f : Fr [r] H H') : Keep K H H' := f.keep fun a ha => by
  have e : a = r := by simpa using ha
  rw [e]
  exact h.mu
theorem w_taken {m : Int} (hs : σ[n]? = some (some (.ref r))) (hR : RowAt K s ns H r) (hn : ns.length ≤ 63) (hm : EvD K te σ H (.int m)) (h0 : 0 < m) (h1 : m < 1000001)
    (k : ∀ (k : Nat) H', (k : Int) < m → Fr [r] H H' → RowAt K s ns H' r → Q (.int (k : Int)) H') : tCall (spTaken K) [] E (tCons (tVar n) (tCons te tNil)) σ H Q :=
  ⟨.ref r, hs, hm.iv H (Ex.refl H) _ fun H1 e1 => ⟨r, s, ns, m, rfl, hR.ex e1, hn, h0, h1, fun j H' hj hf hR' => k j H' hj ((Fr.of e1).trans hf) hR'⟩⟩
theorem w_thing {m ps os : Nat} (hs : σ[n]? = some (some (.ref r))) (hR : RowAt K s ns H r) (hn : ns.length ≤ 63) (hz : EvD K tx σ H (szD ps os)) (hp : ps ≤ 99) (ho : os ≤ 99) (hm : EvD K te σ H (.int (m : Int)))
    (k : ∀ t x H', wfT ps os t = true → dpT t ≤ m + 1 → Fr [r] H H' → RowAt K s ns H' r → Td K H' x (encT t) → Q x H') : tCall (spThing K m) [] E (tCons (tVar n) (tCons tx (tCons te tNil))) σ H Q :=
  ⟨.ref r, hs, hz H (Ex.refl H) _ fun v H1 e1 tv => hm.iv H1 e1 _ fun H2 e2 => ⟨r, s, ns, v, ps, os, rfl, hR.ex (e1.trans e2), hn, tv.ex e2, hp, ho, fun t x H' h1 h2 hf hR' td => k t x H' h1 h2 ((Fr.of (e1.trans e2)).trans hf) hR' td⟩⟩
theorem w_place {m ps os : Nat} (hs : σ[n]? = some (some (.ref r))) (hR : RowAt K s ns H r) (hn : ns.length ≤ 63) (hz : EvD K tx σ H (szD ps os)) (hp : ps ≤ 99) (ho : os ≤ 99) (hm : EvD K te σ H (.int (m : Int)))
    (k : ∀ t x H', wfT ps os t = true → isPlace t = true → dpT t ≤ m + 2 → Fr [r] H H' → RowAt K s ns H' r → Td K H' x (encT t) → Q x H') : tCall (spPlace K m) [] E (tCons (tVar n) (tCons tx (tCons te tNil))) σ H Q :=
  ⟨.ref r, hs, hz H (Ex.refl H) _ fun v H1 e1 tv => hm.iv H1 e1 _ fun H2 e2 => ⟨r, s, ns, v, ps, os, rfl, hR.ex (e1.trans e2), hn, tv.ex e2, hp, ho, fun t x H' h1 h2 h3 hf hR' td => k t x H' h1 h2 h3 ((Fr.of (e1.trans e2)).trans hf) hR' td⟩⟩
end
theorem pick58 (n : Nat) : atI [PyData.int 5, PyData.int 8] (if decide (0 < (n : Int)) = true then 1 else 0) = some (.int (if n = 0 then 5 else 8)) := by
  cases n with
  | zero => rfl
  | succ n =>
    rw [if_pos (decide_eq_true (by omega)), if_neg (by omega)]
    rfl
section
variable {P : Program} {w : World} {K : PySem.W.Frag} {mg : Str → Option Value} {base : Heap} (T : Tx K mg)
include T
theorem ok_thing (GT : Fn__law_taken T P w base CX0 1 (spTaken K)) : ∀ n : Nat, Fn__law_thing T P w base CX0 (n + 2) (spThing K n) := by
  have all : ∀ (n : Nat) (spI : Sp) (hspI : 0 < n → spI = spThing K (n - 1)), Fn__law_thing T P w base CX0 (n + 1) spI → Fn__law_thing T P w base CX0 (n + 2) (spThing K n) := by
    intro n spI hspI G_I
    have G__law_taken := GT
    have G__law_thing := G_I
    refine T.F__law_thing.ok sc__law_thing (fun vs H Q E h => by obtain ⟨r, s, ns, v, ps, os, rfl, _⟩ := h; rfl) fun cdv A outer s0 H vs Q E hr h => ?_
    obtain ⟨r, s, ns, v, ps, os, rfl, hR, hn, tz, hps, hos, k⟩ := h
    refine ⟨_, (pss_cons (ps_set (i := 3) sc__law_thing.nd rfl (Or.inl rfl) (pe_call G__law_taken (hr.mono (by omega)) (by rfl) T.g__law_taken T.k__law_taken T.bd__law_taken .nil pass0 (pa_cons (pv 0) (pa_cons (pe_ix (kix_list K) (pe_lst (pa_cons pe_int (pa_cons pe_int pa_nil))) (pe_callTy kc_int rfl T.b_int (by decide +kernel) (pa_cons (pe_cmpR op_gt (pv 2) pe_int (nomark _)) pa_nil)) (fun _ _ => rfl)) pa_nil))))
  (pss_cons (ps_if (PW.pt (pw_and (pt_cmpR op_lt (pv 3) pe_int (nomark _)) (pw_and1 (pt_cmpR op_gt (pe_ix (kix_tup K) (pv 1) pe_int (fun _ _ => rfl)) pe_int (nomark _)))))
    (pss_one (ps_ret (pe_tup (pa_cons pe_str (pa_cons (pe_call G__law_taken (hr.mono (by omega)) (by rfl) T.g__law_taken T.k__law_taken T.bd__law_taken .nil pass0 (pa_cons (pv 0) (pa_cons (pe_ix (kix_tup K) (pv 1) pe_int (fun _ _ => rfl)) pa_nil))) pa_nil)))))
    pss_nil)
  (pss_cons (ps_if (PW.pt (pw_and (pt_cmpR op_eq (pv 3) pe_int (nomark _)) (pw_and1 (pt_cmpR op_gt (pe_ix (kix_tup K) (pv 1) pe_int (fun _ _ => rfl)) pe_int (nomark _)))))
    (pss_one (ps_ret (pe_tup (pa_cons pe_str (pa_cons (pe_call G__law_taken (hr.mono (by omega)) (by rfl) T.g__law_taken T.k__law_taken T.bd__law_taken .nil pass0 (pa_cons (pv 0) (pa_cons (pe_ix (kix_tup K) (pv 1) pe_int (fun _ _ => rfl)) pa_nil))) pa_nil)))))
    pss_nil)
  (pss_cons (ps_if (pt_cmpR op_gt (pv 3) pe_int (nomark _))
    (pss_one (ps_ret (pe_tup (pa_cons pe_str (pa_cons (pe_call G__law_thing (hr.mono (by omega)) (by rfl) T.g__law_thing T.k__law_thing T.bd__law_thing .nil pass0 (pa_cons (pv 0) (pa_cons (pv 1) (pa_cons (pe_op op_sub (pv 2) pe_int) pa_nil)))) (pa_cons (pe_call G__law_thing (hr.mono (by omega)) (by rfl) T.g__law_thing T.k__law_thing T.bd__law_thing .nil pass0 (pa_cons (pv 0) (pa_cons (pv 1) (pa_cons (pe_op op_sub (pv 2) pe_int) pa_nil)))) pa_nil))))))
    pss_nil)
  (pss_cons (ps_if (pt_cmpR op_gt (pv 3) pe_int (nomark _))
    (pss_one (ps_ret (pe_tup (pa_cons pe_str (pa_cons (pe_ifExp (pt_cmpR op_gt (pv 2) pe_int (nomark _)) (pe_call G__law_thing (hr.mono (by omega)) (by rfl) T.g__law_thing T.k__law_thing T.bd__law_thing .nil pass0 (pa_cons (pv 0) (pa_cons (pv 1) (pa_cons (pe_op op_sub (pv 2) pe_int) pa_nil)))) (pe_tup (pa_cons pe_str (pa_cons (pe_call G__law_taken (hr.mono (by omega)) (by rfl) T.g__law_taken T.k__law_taken T.bd__law_taken .nil pass0 (pa_cons (pv 0) (pa_cons pe_int pa_nil))) pa_nil)))) pa_nil)))))
    pss_nil)
  (pss_one (ps_ret (pe_tup (pa_cons pe_str (pa_cons (pe_call G__law_taken (hr.mono (by omega)) (by rfl) T.g__law_taken T.k__law_taken T.bd__law_taken .nil pass0 (pa_cons (pv 0) (pa_cons pe_int pa_nil))) pa_nil)))))))))), ?_⟩
    refine w_seq (w_asg (w_taken rfl hR hn (m := if n = 0 then 5 else 8) ?_ (by split <;> decide) (by split <;> decide) fun k1 H1 hk1 f1 R1 => ?_))
    · apply ed_ixL
      · apply EvDL.rd
        walk_at "edl"
      · walk_at "ev"
      · exact pick58 n
    have tz1 : Td K H1 v (.tuple [.int (ps : Int), .int (os : Int)]) := tz.kp (hR.keep f1)
    dsimp only
    refine Pst.go (K := K) ?_
    apply pst_when
    · walk_at "et"
    · intro hb H2 e2
      simp at hb
      have tz2 := tz1.ex e2
      refine w_ret (w_tup (w_cons (w_c (w_cons (w_taken rfl (R1.ex e2) hn (m := (ps : Int)) ?_ (by omega) (by omega) fun k2 H3 hk2 f3 R3 => w_nil ⟨by show 2 ≤ sizeLine; decide, fun p hp => ?_⟩)))))
      · walk_at "ev"
      exact k (.par k2) _ _ (by simp [wfT]; omega) (by simp [dpT]) (((f1.trans (Fr.of e2)).trans f3).trans (Fr.of (Ex.new hp))) (R3.ex (Ex.new hp)) (td_new hp (tdall2 (.str _) (.int _)))
    intro hb
    apply pst_when
    · walk_at "et"
    · intro hb H2 e2
      simp at hb
      have tz2 := tz1.ex e2
      refine w_ret (w_tup (w_cons (w_c (w_cons (w_taken rfl (R1.ex e2) hn (m := (os : Int)) ?_ (by omega) (by omega) fun k2 H3 hk2 f3 R3 => w_nil ⟨by show 2 ≤ sizeLine; decide, fun p hp => ?_⟩)))))
      · walk_at "ev"
      exact k (.own k2) _ _ (by simp [wfT]; omega) (by simp [dpT]) (((f1.trans (Fr.of e2)).trans f3).trans (Fr.of (Ex.new hp))) (R3.ex (Ex.new hp)) (td_new hp (tdall2 (.str _) (.int _)))
    intro hb
    apply pst_when
    · walk_at "et"
    · intro hb H2 e2
      simp at hb
      have tz2 := tz1.ex e2
      have hn0 : n ≠ 0 := by
        intro e
        rw [if_pos e] at hk1
        omega
      obtain ⟨m, rfl⟩ : ∃ m, n = m + 1 := ⟨n - 1, by omega⟩
      rw [hspI (by omega)]
      have em : m + 1 - 1 = m := by omega
      rw [em]
      have eI : ∀ H, EvD K (tOp (rI0 fun i j => .int (i - j)) (tVar 2) (tC (.int 1))) (List.set (L2.start ["_law_row", "_law_sizes", "_law_within", "_law_way"] [.ref r, v, .int ((m + 1 : Nat) : Int)]) 3 (some (.int (k1 : Int)))) H (.int (m : Int)) := by
        intro H
        apply ed_is
        · walk_at "ev"
        · simp
      refine w_ret (w_tup (w_cons (w_c (w_cons (w_thing (ps := ps) (os := os) rfl (R1.ex e2) hn ?_ hps hos (eI _) fun ta xa H3 wa da f3 R3 tda => ?_)))))
      · unfold szD
        walk_at "ev"
      have tz3 := tz2.kp ((R1.ex e2).keep f3)
      refine w_cons (w_thing (ps := ps) (os := os) rfl R3 hn ?_ hps hos (eI _) fun tb xb H4 wb db f4 R4 tdb => w_nil ⟨by show 3 ≤ sizeLine; decide, fun p hp => ?_⟩)
      · unfold szD
        walk_at "ev"
      have tda4 := tda.kp (R3.keep f4)
      exact k (.sum ta tb) _ _ (by simp [wfT, wa, wb]) (by simp only [dpT]; omega) ((((f1.trans (Fr.of e2)).trans f3).trans f4).trans (Fr.of (Ex.new hp))) (R4.ex (Ex.new hp)) (td_new hp (tdall3 (.str _) tda4 tdb))
    intro hb
    apply pst_when
    · walk_at "et"
    · intro hb H2 e2
      have tz2 := tz1.ex e2
      refine w_ret (w_tup (w_cons (w_c (w_cons (w_if (w_t (K := K) (b := decide (0 < (n : Int))) ?_ fun H3 e3 => ?_))))))
      · walk_at "et"
      have tz3 := tz2.ex e3
      have R3 := (R1.ex e2).ex e3
      have f3 : Fr [r] H H3 := (f1.trans (Fr.of e2)).trans (Fr.of e3)
      by_cases hn0 : n = 0
      · subst hn0
        refine iteF ?_
        refine w_tup (w_cons (w_c (w_cons (w_taken rfl R3 hn (m := 3) ?_ (by decide) (by decide) fun k2 H4 hk2 f4 R4 => w_nil ⟨by show 2 ≤ sizeLine; decide, fun p hp => ?_⟩))))
        · walk_at "ev"
        refine w_nil ⟨by show 2 ≤ sizeLine; decide, fun p2 hp2 => ?_⟩
        have t5 : Td K (upd H4 p (.tup [.str "num", .int (k2 : Int)])) (.ref p) (encT (.num k2)) := td_new hp (tdall2 (.str _) (.int _))
        exact k (.cell (.num k2)) _ _ (by simp [wfT]; omega) (by simp [dpT]) (((f3.trans f4).trans (Fr.of (Ex.new hp))).trans (Fr.of (Ex.new hp2))) ((R4.ex (Ex.new hp)).ex (Ex.new hp2)) (td_new hp2 (tdall2 (.str _) t5))
      · obtain ⟨m, rfl⟩ : ∃ m, n = m + 1 := ⟨n - 1, by omega⟩
        rw [hspI (by omega)]
        have em : m + 1 - 1 = m := by omega
        rw [em]
        rw [if_pos (decide_eq_true (by omega))]
        refine w_thing (ps := ps) (os := os) rfl R3 hn ?_ hps hos ?_ fun ta xa H4 wa da f4 R4 tda => ?_
        · unfold szD
          walk_at "ev"
        · apply ed_is
          · walk_at "ev"
          · simp
        refine w_nil ⟨by show 2 ≤ sizeLine; decide, fun p hp => ?_⟩
        exact k (.cell ta) _ _ (by simp [wfT, wa]) (by simp only [dpT]; omega) ((f3.trans f4).trans (Fr.of (Ex.new hp))) (R4.ex (Ex.new hp)) (td_new hp (tdall2 (.str _) tda))
    intro hb H2 e2
    refine w_ret (w_tup (w_cons (w_c (w_cons (w_taken rfl (R1.ex e2) hn (m := 3) ?_ (by omega) (by omega) fun k2 H3 hk2 f3 R3 => w_nil ⟨by show 2 ≤ sizeLine; decide, fun p hp => ?_⟩)))))
    · walk_at "ev"
    exact k (.num k2) _ _ (by simp [wfT]; omega) (by simp [dpT]) (((f1.trans (Fr.of e2)).trans f3).trans (Fr.of (Ex.new hp))) (R3.ex (Ex.new hp)) (td_new hp (tdall2 (.str _) (.int _)))
  intro n
  induction n with
  | zero => exact all 0 (fun _ _ _ _ => False) (fun h => absurd h (Nat.lt_irrefl _)) (fn_vac fun _ _ _ _ h => h)
  | succ n ih => exact all (n + 1) (spThing K n) (fun _ => rfl) ih
theorem ok_place {n : Nat} (GT : Fn__law_thing T P w base CX0 (n + 2) (spThing K n)) : Fn__law_place T P w base CX0 (n + 3) (spPlace K n) := by
  have G__law_thing := GT
  refine T.F__law_place.ok sc__law_place (fun vs H Q E h => by obtain ⟨r, s, ns, v, ps, os, rfl, _⟩ := h; rfl) fun cdv A outer s0 H vs Q E hr h => ?_
  obtain ⟨r, s, ns, v, ps, os, rfl, hR, hn, tz, hps, hos, k⟩ := h
  refine ⟨_, (pss_cons (ps_set (i := 3) sc__law_place.nd rfl (Or.inl rfl) (pe_call G__law_thing (hr.mono (by omega)) (by rfl) T.g__law_thing T.k__law_thing T.bd__law_thing .nil pass0 (pa_cons (pv 0) (pa_cons (pv 1) (pa_cons (pv 2) pa_nil)))))
  (pss_one (ps_ret (pe_ifExp (pt_cmpR (kop_in K) (pe_ix (kix_tup K) (pv 3) pe_int (fun _ _ => rfl)) (pe_tup (pa_cons pe_str (pa_cons pe_str (pa_cons pe_str pa_nil)))) rfl) (pv 3) (pe_tup (pa_cons pe_str (pa_cons (pv 3) pa_nil))))))), ?_⟩
  refine w_seq (w_asg (w_thing (ps := ps) (os := os) rfl hR hn ?_ hps hos ?_ fun t x H1 wt dt f1 R1 td => ?_))
  · walk_at "ev"
  · walk_at "ev"
  dsimp only
  refine w_ret (w_if (w_t (K := K) (b := isPlace t) ?_ fun H2 e2 => ?_))
  · cases t <;> (apply tk_is; (walk_at "et"); (simp [isPlace]))
  obtain hp | hp : isPlace t = true ∨ isPlace t = false := by cases isPlace t <;> simp
  · rw [hp]
    refine iteT (w_v rfl ?_)
    exact k t x H2 wt hp (by omega) (f1.trans (Fr.of e2)) (R1.ex e2) (td.ex e2)
  · rw [hp]
    refine iteF (w_tup (w_cons (w_c (w_cons (w_v rfl (w_nil ⟨by show 2 ≤ sizeLine; decide, fun p hp => ?_⟩))))))
    exact k (.cell t) _ _ (by simp [wfT, wt]) rfl (by simp only [dpT]; omega) ((f1.trans (Fr.of e2)).trans (Fr.of (Ex.new hp))) ((R1.ex e2).ex (Ex.new hp)) (td_new hp (tdall2 (.str _) (td.ex e2)))
end
end Hw

set_option maxRecDepth 100000
set_option maxHeartbeats 4000000
/-! PG3: drawn steps and bodies -/
namespace Hw
open PySem PySem.Spec PyProof.Rows L2 Evl
local macro_rules | `(tactic| walk_at "dd") => `(tactic| first | rfl | decide | (simp; done) | omega)
local macro_rules | `(tactic| walk_at "td") => `(tactic| first | assumption | exact Td.int _ | exact Td.bl _ | exact Td.str _ | exact Td.non | exact Td.tup (by assumption) (by assumption))
local macro_rules | `(tactic| walk_at "ev") => `(tactic| first
  | exact ed_ci | exact ed_cs | exact ed_cb | exact ed_cn
  | (apply ed_cg; assumption)
  | (apply ed_var; (rfl); (walk_at "td"))
  | (apply ed_ixT; (walk_at "ev"); (walk_at "ev"); (first | rfl | assumption))
  | (apply ed_rowI; (rfl); (assumption); (walk_at "ev"); (rfl))
  | (apply ed_ixL; (apply EvDL.rd; walk_at "edl"); (walk_at "ev"); (rfl))
  | (apply ed_intb; (walk_at "ev"))
  | (apply ed_len; walk_at "ev")
  | (apply ed_lenV; (apply ev_rowR; (rfl); (assumption); (walk_at "ev"); (rfl)); (assumption))
  | (apply ed_Ii; (walk_at "ev"); (walk_at "ev"); (walk_at "cc"))
  | (apply ed_isi; (walk_at "ev"); (rfl))
  | (apply ed_I0i; (walk_at "ev"); (walk_at "ev"))
  | (apply ed_I0b; (walk_at "ev"); (walk_at "ev"))
  | (apply ed_eqi; (walk_at "ev"); (walk_at "ev"))
  | (apply ed_nei; (walk_at "ev"); (walk_at "ev"))
  | (apply ed_andF; walk_at "ev")
  | (apply ed_andV; (walk_at "ev"); (intro _; walk_at "ev"))
  | (apply ed_orT; walk_at "ev")
  | (apply ed_orV; (walk_at "ev"); (intro _; walk_at "ev"))
  | (apply ed_notT; walk_at "ev")
  | (apply ed_notF; walk_at "ev")
  | (apply ed_notV; walk_at "ev")
  | (apply ed_chain; (walk_at "ev"); (walk_at "ev"); (intro _; walk_at "ev"))
  | (apply ed_eqS; (walk_at "ev"); (walk_at "ev"); (walk_at "bb"); (walk_at "bb"))
  | (apply ed_neS; (walk_at "ev"); (walk_at "ev"); (walk_at "bb"); (walk_at "bb"))
  | (apply ed_inT; (walk_at "ev"); (walk_at "ev"); (rfl); (rfl))
  | (apply ed_niT; (walk_at "ev"); (walk_at "ev"); (rfl); (rfl))
  | (apply ed_tup; (walk_at "eva"); (walk_at "bb"))
  | (apply ed_sl; (walk_at "ev"); (walk_at "evo"); (walk_at "evo"))
  | (apply ed_eqN; (apply EvDL.rd; walk_at "edl"); (walk_at "edl"); (walk_at "bb"))
  | (apply ed_neN; (apply EvDL.rd; walk_at "edl"); (walk_at "edl"); (walk_at "bb"))
  | (apply ed_ixL; (apply edr_var; (rfl); (assumption); (assumption)); (walk_at "ev"); (first | rfl | assumption))
  | (apply ed_lenL; (apply edr_var; (rfl); (assumption); (assumption)))
  | (apply ed_call; (walk_at "eva"); (walk_at "post")))
local macro_rules | `(tactic| walk_at "edl") => `(tactic| first
  | assumption
  | (apply edl_lst; (walk_at "eva"); (walk_at "bb")))
local macro_rules | `(tactic| walk_at "eva") => `(tactic| first
  | exact eda_nil
  | (apply eda_cons; (walk_at "ev"); (walk_at "eva")))
local macro_rules | `(tactic| walk_at "evo") => `(tactic| first
  | exact eok_none
  | (apply eok_some; walk_at "ev"))
local macro_rules | `(tactic| walk_at "bb") => `(tactic| first | rfl | assumption | (simp; done) | (simp; omega) | decide +kernel)
local macro_rules | `(tactic| walk_at "et") => `(tactic| first
  | exact tk_yes
  | (apply tk_andF; walk_at "et")
  | (apply tk_and; (walk_at "et"); (intro _; walk_at "et"))
  | (apply tk_orT; walk_at "et")
  | (apply tk_or; (walk_at "et"); (intro _; walk_at "et"))
  | (apply tk_notT; walk_at "et")
  | (apply tk_notF; walk_at "et")
  | (apply tk_not; walk_at "et")
  | (apply tk_v; walk_at "ev")
  | (apply tk_vB; walk_at "ev"))
local macro_rules | `(tactic| walk_at "if") => `(tactic| first
  | (apply pst_whenF; (walk_at "et"); (walk_at "bb"))
  | (apply pst_whenT; (walk_at "et"); (walk_at "bb")))
local macro_rules | `(tactic| walk_at "post") => `(tactic| first | assumption | exact ⟨_, _, rfl, rfl⟩ | exact ⟨_, _, _, _, rfl, by omega, by omega, rfl⟩ | exact ⟨_, _, _, 0, rfl, by omega, by omega, rfl⟩)
local macro_rules | `(tactic| walk_at "cc") => `(tactic| first | assumption | decide | omega | (refine ⟨?_, ?_⟩ <;> first | decide | omega) | (exact Or.inl (by constructor <;> omega)))

section
variable {K : PySem.W.Frag} {σ : L2.St} {H H' : Hp} {D : Ends} {tu : TS} {ta : TA} {ds : List PyData} {te tx tv tw ty : TE} {Q : VK} {r s sh l : Addr} {ns : List Int} {E : XK}
theorem Fr.fresh {p : Addr} {S : List Addr} (h : Fr (p :: S) H H') (hp : H p = none) : Fr S H H' := fun q o hq e => h q o (fun z => by
  rcases List.mem_cons.mp z with z | z
  · subst z
    rw [hp] at e
    cases e
  · exact hq z) e
/-- for i in range(n) -/
theorem w_forR {n j : Nat} (h : EvDA K ta σ H [.int (n : Int)]) (hn : n ≤ 100000) (Pv : Nat → L2.St → Hp → Prop) (h0 : ∀ H1, Ex H H1 → Pv 0 σ H1)
    (hs : ∀ i σ' H', i < n → Pv i σ' H' → tu { D with nx := Pv (i + 1), ct := Pv (i + 1), bk := D.nx } (σ'.set j (some (.int (i : Int)))) H') (hd : ∀ σ' H', Pv n σ' H' → D.nx σ' H') : tFor (iRng1 ta) (gName j) tu D σ H :=
  h H (Ex.refl H) _ fun ws H1 e tw => by
    obtain _ | ⟨w1, _ | _⟩ := tw
    cases w1
    refine ⟨(n : Int), rfl, by omega, by omega, ?_⟩
    have en : ((n : Int)).toNat = n := by simp
    rw [en]
    refine for_range (lo := 0) (n := n) Pv (h0 H1 e) (fun i σ' H' hi p => ?_) hd
    have e0 : (0 : Int) + (i : Int) = (i : Int) := Int.zero_add _
    show tu _ (σ'.set j (some (.int ((0 : Int) + (i : Int))))) H'
    rw [e0]
    exact hs i σ' H' hi p
def RngGo (g : TG) (tu : TS) (D : Ends) (σ : L2.St) (ws : List V) (H1 : Hp) : Prop := ∃ j : Int, ws = [.int j] ∧ -(2 ^ 62) ≤ j ∧ j < 2 ^ 62 ∧ ∃ W : Nat → Nat → L2.St → Hp → Prop, (∃ m, W 0 m σ H1) ∧ ∀ i m σ H, W i m σ H →
  ((Itr 0 j.toNat).stop i H ∧ D.nx σ H) ∨ ((Itr 0 j.toNat).go i H ∧ ∃ N : L2.St → Hp → Prop, (∀ σ' H', N σ' H' → ∃ m', m' < m ∧ W (i + 1) m' σ' H') ∧ ∀ x H', (Itr 0 j.toNat).yld i H x H' → g x σ H' fun σ2 H2 => tu { D with nx := N, ct := N, bk := D.nx } σ2 H2)
theorem w_forR0 {g : TG} (h : ta σ H (RngGo g tu D σ)) : tFor (iRng1 ta) g tu D σ H := h
theorem rng_go {n j : Nat} (hn : n ≤ 100000) (Pv : Nat → L2.St → Hp → Prop) (h0 : Pv 0 σ H) (hs : ∀ i σ' H', i < n → Pv i σ' H' → tu { D with nx := Pv (i + 1), ct := Pv (i + 1), bk := D.nx } (σ'.set j (some (.int (i : Int)))) H') (hd : ∀ σ' H', Pv n σ' H' → D.nx σ' H') : RngGo (gName j) tu D σ [.int (n : Int)] H := by
  refine ⟨(n : Int), rfl, by omega, by omega, ?_⟩
  have en : ((n : Int)).toNat = n := by simp
  rw [en]
  refine for_range (lo := 0) (n := n) Pv h0 (fun i σ' H' hi p => ?_) hd
  have e0 : (0 : Int) + (i : Int) = (i : Int) := Int.zero_add _
  show tu _ (σ'.set j (some (.int ((0 : Int) + (i : Int))))) H'
  rw [e0]
  exact hs i σ' H' hi p
theorem pst_of {t : TS} (h : ∀ H1, Ex H H1 → t D σ H1) : Pst K t D σ H := h
/-- what the law's drawing stands on: its row, the works' shapes, what is left -/
structure Gs (K : PySem.W.Frag) (s r sh l : Addr) (ns : List Int) (shs : List (Nat × Nat)) (a b : Nat) (H : Hp) : Prop where
  row : RowAt K s ns H r
  shp : ∃ xs, H sh = some (.lst xs) ∧ TdAll K H xs (shs.map fun x => szD x.1 x.2)
  lft : H l = some (.lst [.int (a : Int), .int (b : Int)])
  n1 : sh ≠ r
  n2 : sh ≠ l
  n3 : l ≠ r
  n4 : s ≠ l ∨ SqL K (fun _ => none) s (ns.map V.int)
variable {shs : List (Nat × Nat)} {a b c d : Nat}
theorem sql_none {xs : List V} (h : SqL K (fun _ => none) s xs) : SqL K H s xs := by
  rcases h with (h | ⟨o, h⟩) | h
  · cases h
  · cases h
  · exact .inr h
theorem sql_split {xs : List V} (h : SqL K H s xs) : (∃ u, H s = some u) ∨ SqL K (fun _ => none) s xs := by
  rcases h with (h | ⟨o, h⟩) | h
  · exact .inl ⟨_, h⟩
  · exact .inl ⟨_, h⟩
  · exact .inr (.inr h)
theorem sql_upd {xs : List V} {o : HO} (h : SqL K H s xs) (n : s ≠ l ∨ SqL K (fun _ => none) s xs) : SqL K (upd H l o) s xs := by
  rcases n with n | n
  · rcases h with (h | ⟨o2, h⟩) | h
    · exact .inl (.inl (by rw [upd_ne n]; exact h))
    · exact .inl (.inr ⟨o2, by rw [upd_ne n]; exact h⟩)
    · exact .inr h
  · exact sql_none n
theorem Gs.ex (g : Gs K s r sh l ns shs a b H) (e : Ex H H') : Gs K s r sh l ns shs a b H' := by
  obtain ⟨xs, h1, h2⟩ := g.shp
  exact ⟨g.row.ex e, ⟨xs, e _ _ h1, h2.ex e⟩, e _ _ g.lft, g.n1, g.n2, g.n3, g.n4⟩
theorem Gs.fr (g : Gs K s r sh l ns shs a b H) (f : Fr [r] H H') (R : RowAt K s ns H' r) : Gs K s r sh l ns shs a b H' := by
  obtain ⟨xs, h1, h2⟩ := g.shp
  exact ⟨R, ⟨xs, f _ _ (by simpa using g.n1) h1, h2.kp (g.row.keep f)⟩, f _ _ (by simpa using g.n3) g.lft, g.n1, g.n2, g.n3, g.n4⟩
theorem Gs.mu (g : Gs K s r sh l ns shs a b H) : ∀ a ∈ [r, l], ∃ u, H a = some u ∧ Mut (some u) := fun x hx => by
  rcases List.mem_cons.mp hx with e | hx
  · rw [e]; exact g.row.mu
  · have e : x = l := by simpa using hx
    rw [e]
    exact ⟨_, g.lft, True.intro⟩
theorem Gs.keep (g : Gs K s r sh l ns shs a b H) (f : Fr [r, l] H H') : Keep K H H' := f.keep g.mu
theorem Gs.setl (g : Gs K s r sh l ns shs a b H) {i j : Int} (hi : i = (c : Int)) (hj : j = (d : Int)) : Gs K s r sh l ns shs c d (upd H l (.lst [.int i, .int j])) := by
  subst hi hj
  obtain ⟨xs, h1, h2⟩ := g.shp
  obtain ⟨p, q, t, h3, h4, h5⟩ := g.row
  refine ⟨⟨p, q, t, ?_, sql_upd h4 g.n4, h5⟩, ⟨xs, ?_, h2.kp (Keep.upd g.lft True.intro)⟩, upd_same, g.n1, g.n2, g.n3, g.n4⟩
  · rw [upd_ne (Ne.symm g.n3)]
    exact h3
  · rw [upd_ne g.n2]
    exact h1
/-- a list beside what the drawing stands on -/
structure Off (K : PySem.W.Frag) (s r sh l : Addr) (ns : List Int) (p : Addr) : Prop where
  o1 : p ≠ r
  o2 : p ≠ l
  o3 : p ≠ sh
  o4 : s ≠ p ∨ SqL K (fun _ => none) s (ns.map V.int)
theorem Gs.off {p : Addr} (g : Gs K s r sh l ns shs a b H) (hp : H p = none) : Off K s r sh l ns p := by
  obtain ⟨xs, h1, h2⟩ := g.shp
  obtain ⟨p0, q, t, h3, h4, h5⟩ := g.row
  refine ⟨fun e => ?_, fun e => ?_, fun e => ?_, ?_⟩
  · subst e; rw [hp] at h3; cases h3
  · subst e; have := g.lft; rw [hp] at this; cases this
  · subst e; rw [hp] at h1; cases h1
  · rcases sql_split h4 with ⟨u, h⟩ | h
    · refine .inl fun e => ?_
      subst e; rw [hp] at h; cases h
    · exact .inr h
theorem Gs.updo {p : Addr} {xs ys : List V} (g : Gs K s r sh l ns shs a b H) (o : Off K s r sh l ns p) (hp : H p = some (.lst xs)) : Gs K s r sh l ns shs a b (upd H p (.lst ys)) := by
  obtain ⟨zs, h1, h2⟩ := g.shp
  obtain ⟨p0, q, t, h3, h4, h5⟩ := g.row
  refine ⟨⟨p0, q, t, ?_, sql_upd h4 o.o4, h5⟩, ⟨zs, ?_, h2.kp (Keep.upd hp True.intro)⟩, ?_, g.n1, g.n2, g.n3, g.n4⟩
  · rw [upd_ne (Ne.symm o.o1)]; exact h3
  · rw [upd_ne (Ne.symm o.o3)]; exact h1
  · rw [upd_ne (Ne.symm o.o2)]; exact g.lft
theorem Fr.rl (f : Fr [r] H H') : Fr [r, l] H H' := f.sub (by simp)
end
/-! what is drawn -/
def goT (shs : List (Nat × Nat)) (at_ : Nat) (t : Th) : Bool := wfT (shP shs at_) (shO shs at_) t && decide (dpT t ≤ 3)
/-- what is handed: a place, or not deep -/
def goC (shs : List (Nat × Nat)) (at_ : Nat) (t : Th) : Bool := goT shs at_ t && (isPlace t || decide (dpT t ≤ 2))
mutual
def goS (shs : List (Nat × Nat)) (at_ : Nat) : Nat → Stm → Bool
  | _, .set p t => goT shs at_ p && (isPlace p && goT shs at_ t)
  | _, .say t => goT shs at_ t
  | 0, .ite _ _ _ => false
  | n + 1, .ite t a b => goT shs at_ t && ((decide (a.length ≤ 13) && goB shs at_ n a) && (decide (b.length ≤ 13) && goB shs at_ n b))
  | _, .call c ts => decide (at_ < c) && (decide (c < shs.length) && (decide (ts.length = shP shs c) && ts.all (goC shs at_)))
def goB (shs : List (Nat × Nat)) (at_ : Nat) : Nat → List Stm → Bool
  | _, [] => true
  | n, s :: r => goS shs at_ n s && goB shs at_ n r
end
mutual
def clS : Stm → Nat
  | .ite _ a b => clB a + clB b
  | .call _ _ => 1
  | _ => 0
def clB : List Stm → Nat
  | [] => 0
  | s :: r => clS s + clB r
end
theorem goB_app {shs : List (Nat × Nat)} {at_ n : Nat} : ∀ {xs ys : List Stm}, goB shs at_ n xs = true → goB shs at_ n ys = true → goB shs at_ n (xs ++ ys) = true
  | [], ys, _, h => by simpa using h
  | x :: xs, ys, h1, h2 => by
    simp only [goB, Bool.and_eq_true] at h1
    simp only [List.cons_append, goB, h1.1, goB_app h1.2 h2, Bool.and_self]
theorem cntB_app : ∀ xs ys : List Stm, cntB (xs ++ ys) = cntB xs + cntB ys
  | [], ys => by simp [cntB]
  | x :: xs, ys => by simp only [List.cons_append, cntB, cntB_app xs ys]; omega
theorem clB_app : ∀ xs ys : List Stm, clB (xs ++ ys) = clB xs + clB ys
  | [], ys => by simp [clB]
  | x :: xs, ys => by simp only [List.cons_append, clB, clB_app xs ys]; omega
def shOk (shs : List (Nat × Nat)) : Prop := shs.length ≤ 4 ∧ ∀ x ∈ shs, x.1 ≤ 3 ∧ x.2 ≤ 10
def spStep (K : PySem.W.Frag) (n : Nat) : Sp := fun vs H Q _ => ∃ (r s sh l : Addr) (ns : List Int) (shs : List (Nat × Nat)) (at_ a b : Nat), vs = [.ref r, .ref sh, .int (at_ : Int), .ref l, .int (n : Int)] ∧ Gs K s r sh l ns shs a b H ∧ ns.length ≤ 63 ∧ shOk shs ∧ at_ < shs.length ∧
  ∀ st x H' a' b', goS shs at_ n st = true → cntS st + a' ≤ a + 1 → clS st + b' ≤ b → Fr [r, l] H H' → Gs K s r sh l ns shs a' b' H' → Td K H' x (encS st) → Q x H'
def spBody (K : PySem.W.Frag) (n : Nat) : Sp := fun vs H Q _ => ∃ (r s sh l : Addr) (ns : List Int) (shs : List (Nat × Nat)) (at_ a b : Nat), vs = [.ref r, .ref sh, .int (at_ : Int), .ref l, .int (n : Int)] ∧ Gs K s r sh l ns shs a b H ∧ ns.length ≤ 63 ∧ shOk shs ∧ at_ < shs.length ∧
  ∀ bd x H' a' b', bd.length ≤ 13 → goB shs at_ n bd = true → cntB bd + a' ≤ a → clB bd + b' ≤ b → Fr [r, l] H H' → Gs K s r sh l ns shs a' b' H' → Td K H' x (.tuple (encB bd)) → Q x H'
section
variable {K : PySem.W.Frag} {σ : L2.St} {H H' : Hp} {te t1 t2 t3 t4 : TE} {Q : VK} {r s sh l : Addr} {ns : List Int} {E : XK} {shs : List (Nat × Nat)} {at_ a b m n0 n1 n2 n3 : Nat}
theorem w_step (g : Gs K s r sh l ns shs a b H) (hn : ns.length ≤ 63) (ho : shOk shs) (ha : at_ < shs.length) (h0 : σ[n0]? = some (some (.ref r))) (h1 : σ[n1]? = some (some (.ref sh))) (h2 : EvD K te σ H (.int (at_ : Int))) (h3 : σ[n3]? = some (some (.ref l))) (h4 : EvD K t4 σ H (.int (m : Int)))
    (k : ∀ st x H' a' b', goS shs at_ m st = true → cntS st + a' ≤ a + 1 → clS st + b' ≤ b → Fr [r, l] H H' → Gs K s r sh l ns shs a' b' H' → Td K H' x (encS st) → Q x H') :
    tCall (spStep K m) [] E (tCons (tVar n0) (tCons (tVar n1) (tCons te (tCons (tVar n3) (tCons t4 tNil))))) σ H Q :=
  ⟨_, h0, _, h1, h2.iv H (Ex.refl H) _ fun H1 e1 => ⟨_, h3, h4.iv H1 e1 _ fun H2 e2 => ⟨r, s, sh, l, ns, shs, at_, a, b, rfl, g.ex (e1.trans e2), hn, ho, ha, fun st x H' a' b' q1 q2 q3 f g' td => k st x H' a' b' q1 q2 q3 ((Fr.of (e1.trans e2)).trans f) g' td⟩⟩⟩
theorem w_body (g : Gs K s r sh l ns shs a b H) (hn : ns.length ≤ 63) (ho : shOk shs) (ha : at_ < shs.length) (h0 : σ[n0]? = some (some (.ref r))) (h1 : σ[n1]? = some (some (.ref sh))) (h2 : EvD K te σ H (.int (at_ : Int))) (h3 : σ[n3]? = some (some (.ref l))) (h4 : EvD K t4 σ H (.int (m : Int)))
    (k : ∀ bd x H' a' b', bd.length ≤ 13 → goB shs at_ m bd = true → cntB bd + a' ≤ a → clB bd + b' ≤ b → Fr [r, l] H H' → Gs K s r sh l ns shs a' b' H' → Td K H' x (.tuple (encB bd)) → Q x H') :
    tCall (spBody K m) [] E (tCons (tVar n0) (tCons (tVar n1) (tCons te (tCons (tVar n3) (tCons t4 tNil))))) σ H Q :=
  ⟨_, h0, _, h1, h2.iv H (Ex.refl H) _ fun H1 e1 => ⟨_, h3, h4.iv H1 e1 _ fun H2 e2 => ⟨r, s, sh, l, ns, shs, at_, a, b, rfl, g.ex (e1.trans e2), hn, ho, ha, fun st x H' a' b' q0 q1 q2 q3 f g' td => k st x H' a' b' q0 q1 q2 q3 ((Fr.of (e1.trans e2)).trans f) g' td⟩⟩⟩
end
section
variable {P : Program} {w : World} {K : PySem.W.Frag} {mg : Str → Option Value} {base : Heap} (T : Tx K mg)
include T
theorem ok_body {n lv : Nat} (hl : 1 ≤ lv) (GS : Fn__law_step T P w base CX0 lv (spStep K n)) (GT : Fn__law_taken T P w base CX0 1 (spTaken K)) : Fn__law_body T P w base CX0 (lv + 1) (spBody K n) := by
  have G__law_step := GS
  have G__law_taken := GT
  refine T.F__law_body.ok sc__law_body (fun vs H Q E h => by obtain ⟨r, s, sh, l, ns, shs, at_, a, b, rfl, _⟩ := h; rfl) fun cdv A outer s0 H vs Q E hr h => ?_
  obtain ⟨r, s, sh, l, ns, shs, at_, a, b, rfl, g, hn, ho, hat, k⟩ := h
  refine ⟨_, (pss_cons (ps_set (i := 5) sc__law_body.nd rfl (Or.inl rfl) (pe_lst pa_nil))
  (pss_cons (ps_for (passes_of rfl) rfl (pi_range1 rfl T.b_range (pa_cons (pe_call G__law_taken (hr.mono (by omega)) (by rfl) T.g__law_taken T.k__law_taken T.bd__law_taken .nil pass0 (pa_cons (pv 0) (pa_cons (pe_ix (kix_list K) (pe_lst (pa_cons pe_int (pa_cons pe_int pa_nil))) (pe_callTy kc_int rfl T.b_int (by decide +kernel) (pa_cons (pe_cmpR op_gt (pe_ix (kix_list K) (pv 3) pe_int (fun _ _ => rfl)) pe_int (nomark _)) pa_nil)) (fun _ _ => rfl)) pa_nil))) pa_nil)) (pg_name (i := 6) sc__law_body.nd rfl (Or.inl rfl))
    (pss_one (ps_if (pt_cmpR op_gt (pe_ix (kix_list K) (pv 3) pe_int (fun _ _ => rfl)) pe_int (nomark _))
      (pss_cons (ps_asg (pe_op op_sub (pe_ix (kix_list K) (pv 3) pe_int (fun _ _ => rfl)) pe_int) (pg_sub (pv 3) pe_int set_list))
      (pss_one (ps_expr (pe_bm PySem.F.plainAttrs_list PySem.F.slot_list_append PySem.F.type_list_append mt_append (pv 5) (pa_cons (pe_call G__law_step (hr.mono (by omega)) (by rfl) T.g__law_step T.k__law_step T.bd__law_step .nil pass0 (pa_cons (pv 0) (pa_cons (pv 1) (pa_cons (pv 2) (pa_cons (pv 3) (pa_cons (pv 4) pa_nil)))))) pa_nil)))))
      pss_nil)))
  (pss_one (ps_ret (pe_callTy (kc_tuple K) rfl T.b_tuple (by decide +kernel) (pa_cons (pv 5) pa_nil)))))), ?_⟩
  refine Pst.go (K := K) ?_
  refine pst_asgL (edl_lst eda_nil (by simp)) fun fl xs0 H1 hfl e1 hx0 ht0 => ?_
  cases ht0
  have g1 := g.ex e1
  have off := g.off hfl
  refine pst_of fun H2 e2 => ?_
  have g2 := g1.ex e2
  have hl2 : SqL K H2 l [.int (a : Int), .int (b : Int)] := SqL.of g2.lft
  refine w_seq (w_forR0 (w_cons (w_taken rfl g2.row hn (m := if 12 < a then 14 else 5) ?_ (by split <;> decide) (by split <;> decide) fun k1 H3 hk1 f3 R3 => w_nil ?_)))
  · apply ed_ixL
    · apply EvDL.rd
      walk_at "edl"
    · walk_at "ev"
    · by_cases h12 : 12 < a
      · rw [if_pos (decide_eq_true (by omega)), if_pos h12] <;> rfl
      · rw [if_neg (by simp; omega), if_neg h12] <;> rfl
  have hk13 : k1 ≤ 13 := by
    split at hk1 <;> omega
  refine rng_go (by omega) (fun i σ' H' => ∃ (bd : List Stm) (xs : List V) (a' b' : Nat) (u : Option V), σ' = [some (.ref r), some (.ref sh), some (.int (at_ : Int)), some (.ref l), some (.int (n : Int)), some (.ref fl), u] ∧ H' fl = some (.lst xs) ∧ TdAll K H' xs (encB bd) ∧ bd.length ≤ i ∧ goB shs at_ n bd = true ∧ cntB bd + a' ≤ a ∧ clB bd + b' ≤ b ∧ Fr [fl, r, l] H1 H' ∧ Gs K s r sh l ns shs a' b' H') ?_ ?_ ?_
  · exact ⟨[], [], a, b, _, rfl, f3 _ _ (by simpa using off.o1) (e2 _ _ hx0), .nil, Nat.le_refl _, rfl, by simp [cntB], by simp [clB], (Fr.of e2).trans (f3.sub (by simp)), g2.fr f3 R3⟩
  · rintro i σ' H' hi ⟨bd, xs, a', b', u, rfl, hxs, hall, hlen, hgo, hc, hcl, hf, g'⟩
    have hl' : SqL K H' l [.int (a' : Int), .int (b' : Int)] := SqL.of g'.lft
    dsimp only
    refine Pst.go (K := K) ?_
    refine pst_if (K := K) (b := decide (0 < (a' : Int))) ?_ (fun hb => ?_) (fun hb => ?_)
    · walk_at "et"
    · simp at hb
      obtain ⟨a1, rfl⟩ : ∃ a1, a' = a1 + 1 := ⟨a' - 1, by omega⟩
      apply pst_setI
      · rfl
      · exact g'.lft
      · walk_at "ev"
      · walk_at "ev"
      · rfl
      intro H4 e4
      have g4 : Gs K s r sh l ns shs a1 b' (upd H4 l (.lst [.int (((a1 + 1 : Nat) : Int) - 1), .int (b' : Int)])) := (g'.ex e4).setl (by omega) rfl
      have f4 : Fr [fl, r, l] H1 (upd H4 l (.lst [.int (((a1 + 1 : Nat) : Int) - 1), .int (b' : Int)])) := (hf.trans (Fr.of e4)).trans (Fr.upd (by simp))
      have hx4 : upd H4 l (.lst [.int (((a1 + 1 : Nat) : Int) - 1), .int (b' : Int)]) fl = some (.lst xs) := by
        rw [upd_ne off.o2]
        exact e4 _ _ hxs
      have ht4 := (hall.ex e4).kp (Keep.upd (o := .lst [.int (((a1 + 1 : Nat) : Int) - 1), .int (b' : Int)]) (g'.ex e4).lft True.intro)
      show Pst K _ _ _ (upd H4 l (.lst [.int (((a1 + 1 : Nat) : Int) - 1), .int (b' : Int)]))
      generalize upd H4 l (.lst [.int (((a1 + 1 : Nat) : Int) - 1), .int (b' : Int)]) = H5 at *
      refine pst_of fun H6 e6 => ?_
      have g6 := g4.ex e6
      refine w_app rfl (e6 _ _ hx4) (w_step g6 hn ho hat rfl rfl ?_ rfl ?_ fun st x H7 a2 b2 q1 q2 q3 f7 g7 t7 => ?_)
      · walk_at "ev"
      · walk_at "ev"
      have hx7 : H7 fl = some (.lst xs) := f7 _ _ (by simp [off.o1, off.o2]) (e6 _ _ hx4)
      have ht7 := (ht4.ex e6).kp (g6.keep f7)
      refine ⟨xs, hx7, by rw [hall.length, encB_length]; exact sz_lt (by omega), bd ++ [st], xs ++ [x], a2, b2, _, rfl, upd_same, ?_, by simp; omega, goB_app hgo (by simp [goB, q1]), ?_, ?_, ((f4.trans (Fr.of e6)).trans (f7.sub (by simp))).trans (Fr.upd (by simp)), g7.updo off hx7⟩
      · have kk : Keep K H7 (upd H7 fl (.lst (xs ++ [x]))) := Keep.upd hx7 True.intro
        rw [encB_map, List.map_append, ← encB_map]
        exact (ht7.kp kk).snoc (t7.kp kk)
      · rw [cntB_app]; simp only [cntB]; omega
      · rw [clB_app]; simp only [clB]; omega
    · refine pst_of fun H4 e4 => ?_
      exact ⟨bd, xs, a', b', _, rfl, e4 _ _ hxs, hall.ex e4, by omega, hgo, hc, hcl, hf.trans (Fr.of e4), g'.ex e4⟩
  · rintro σ' H' ⟨bd, xs, a', b', u, rfl, hxs, hall, hlen, hgo, hc, hcl, hf, g'⟩
    dsimp only
    refine w_ret (w_d (ed_tupL (edr_var rfl (SqL.of hxs) hall)) fun v H4 e4 t4 => ?_)
    exact k bd v H4 a' b' (by omega) hgo hc hcl (((Fr.of e1).trans hf).fresh hfl |>.trans (Fr.of e4)) (g'.ex e4) t4
end
end Hw

set_option maxRecDepth 100000
set_option maxHeartbeats 4000000
/-! PG4: drawn steps -/
namespace Hw
open PySem PySem.Spec PyProof.Rows L2 Evl
local macro_rules | `(tactic| walk_at "dd") => `(tactic| first | rfl | decide | (simp; done) | omega)
local macro_rules | `(tactic| walk_at "td") => `(tactic| first | assumption | exact Td.int _ | exact Td.bl _ | exact Td.str _ | exact Td.non | exact Td.tup (by assumption) (by assumption))
local macro_rules | `(tactic| walk_at "ev") => `(tactic| first
  | exact ed_ci | exact ed_cs | exact ed_cb | exact ed_cn
  | (apply ed_cg; assumption)
  | (apply ed_var; (rfl); (walk_at "td"))
  | (apply ed_ixT; (walk_at "ev"); (walk_at "ev"); (first | rfl | assumption))
  | (apply ed_rowI; (rfl); (assumption); (walk_at "ev"); (rfl))
  | (apply ed_ixL; (apply EvDL.rd; walk_at "edl"); (walk_at "ev"); (rfl))
  | (apply ed_intb; (walk_at "ev"))
  | (apply ed_len; walk_at "ev")
  | (apply ed_lenV; (apply ev_rowR; (rfl); (assumption); (walk_at "ev"); (rfl)); (assumption))
  | (apply ed_Ii; (walk_at "ev"); (walk_at "ev"); (walk_at "cc"))
  | (apply ed_isi; (walk_at "ev"); (rfl))
  | (apply ed_I0i; (walk_at "ev"); (walk_at "ev"))
  | (apply ed_I0b; (walk_at "ev"); (walk_at "ev"))
  | (apply ed_eqi; (walk_at "ev"); (walk_at "ev"))
  | (apply ed_nei; (walk_at "ev"); (walk_at "ev"))
  | (apply ed_andF; walk_at "ev")
  | (apply ed_andV; (walk_at "ev"); (intro _; walk_at "ev"))
  | (apply ed_orT; walk_at "ev")
  | (apply ed_orV; (walk_at "ev"); (intro _; walk_at "ev"))
  | (apply ed_notT; walk_at "ev")
  | (apply ed_notF; walk_at "ev")
  | (apply ed_notV; walk_at "ev")
  | (apply ed_chain; (walk_at "ev"); (walk_at "ev"); (intro _; walk_at "ev"))
  | (apply ed_eqS; (walk_at "ev"); (walk_at "ev"); (walk_at "bb"); (walk_at "bb"))
  | (apply ed_neS; (walk_at "ev"); (walk_at "ev"); (walk_at "bb"); (walk_at "bb"))
  | (apply ed_inT; (walk_at "ev"); (walk_at "ev"); (rfl); (rfl))
  | (apply ed_niT; (walk_at "ev"); (walk_at "ev"); (rfl); (rfl))
  | (apply ed_tup; (walk_at "eva"); (walk_at "bb"))
  | (apply ed_sl; (walk_at "ev"); (walk_at "evo"); (walk_at "evo"))
  | (apply ed_eqN; (apply EvDL.rd; walk_at "edl"); (walk_at "edl"); (walk_at "bb"))
  | (apply ed_neN; (apply EvDL.rd; walk_at "edl"); (walk_at "edl"); (walk_at "bb"))
  | (apply ed_ixL; (apply edr_var; (rfl); (assumption); (assumption)); (walk_at "ev"); (first | rfl | assumption))
  | (apply ed_lenL; (apply edr_var; (rfl); (assumption); (assumption)))
  | (apply ed_call; (walk_at "eva"); (walk_at "post")))
local macro_rules | `(tactic| walk_at "edl") => `(tactic| first
  | assumption
  | (apply edl_lst; (walk_at "eva"); (walk_at "bb")))
local macro_rules | `(tactic| walk_at "eva") => `(tactic| first
  | exact eda_nil
  | (apply eda_cons; (walk_at "ev"); (walk_at "eva")))
local macro_rules | `(tactic| walk_at "evo") => `(tactic| first
  | exact eok_none
  | (apply eok_some; walk_at "ev"))
local macro_rules | `(tactic| walk_at "bb") => `(tactic| first | rfl | assumption | (simp; done) | (simp; omega) | decide +kernel)
local macro_rules | `(tactic| walk_at "et") => `(tactic| first
  | exact tk_yes
  | (apply tk_andF; walk_at "et")
  | (apply tk_and; (walk_at "et"); (intro _; walk_at "et"))
  | (apply tk_orT; walk_at "et")
  | (apply tk_or; (walk_at "et"); (intro _; walk_at "et"))
  | (apply tk_notT; walk_at "et")
  | (apply tk_notF; walk_at "et")
  | (apply tk_not; walk_at "et")
  | (apply tk_v; walk_at "ev")
  | (apply tk_vB; walk_at "ev"))
local macro_rules | `(tactic| walk_at "if") => `(tactic| first
  | (apply pst_whenF; (walk_at "et"); (walk_at "bb"))
  | (apply pst_whenT; (walk_at "et"); (walk_at "bb")))
local macro_rules | `(tactic| walk_at "post") => `(tactic| first | assumption | exact ⟨_, _, rfl, rfl⟩ | exact ⟨_, _, _, _, rfl, by omega, by omega, rfl⟩ | exact ⟨_, _, _, 0, rfl, by omega, by omega, rfl⟩)
local macro_rules | `(tactic| walk_at "cc") => `(tactic| first | assumption | decide | omega | (refine ⟨?_, ?_⟩ <;> first | decide | omega) | (exact Or.inl (by constructor <;> omega)))

def spThings (K : PySem.W.Frag) : Sp := fun vs H Q E => ∃ n, n ≤ 2 ∧ spThing K n vs H Q E
section
variable {K : PySem.W.Frag} {σ : L2.St} {H H' : Hp} {te tx : TE} {Q : VK} {r s : Addr} {ns : List Int} {E : XK} {n : Nat}
theorem w_things {m ps os : Nat} (hm2 : m ≤ 2) (hs : σ[n]? = some (some (.ref r))) (hR : RowAt K s ns H r) (hn : ns.length ≤ 63) (hz : EvD K tx σ H (szD ps os)) (hp : ps ≤ 99) (ho : os ≤ 99) (hm : EvD K te σ H (.int (m : Int)))
    (k : ∀ t x H', wfT ps os t = true → dpT t ≤ m + 1 → Fr [r] H H' → RowAt K s ns H' r → Td K H' x (encT t) → Q x H') : tCall (spThings K) [] E (tCons (tVar n) (tCons tx (tCons te tNil))) σ H Q :=
  ⟨.ref r, hs, hz H (Ex.refl H) _ fun v H1 e1 tv => hm.iv H1 e1 _ fun H2 e2 => ⟨m, hm2, r, s, ns, v, ps, os, rfl, hR.ex (e1.trans e2), hn, tv.ex e2, hp, ho, fun t x H' h1 h2 hf hR' td => k t x H' h1 h2 ((Fr.of (e1.trans e2)).trans hf) hR' td⟩⟩
end
section
variable {P : Program} {w : World} {K : PySem.W.Frag} {mg : Str → Option Value} {base : Heap} (T : Tx K mg)
include T
theorem ok_step {n lv : Nat} (hl : 4 ≤ lv) (spI : Sp) (hspI : 0 < n → spI = spBody K (n - 1)) (GB : Fn__law_body T P w base CX0 lv spI) (GT : Fn__law_taken T P w base CX0 1 (spTaken K)) (GH : Fn__law_thing T P w base CX0 4 (spThings K)) (GP : Fn__law_place T P w base CX0 4 (spPlace K 1)) :
    Fn__law_step T P w base CX0 (lv + 1) (spStep K n) := by
  have G__law_body := GB
  have G__law_taken := GT
  have G__law_thing := GH
  have G__law_place := GP
  refine T.F__law_step.ok sc__law_step (fun vs H Q E h => by obtain ⟨r, s, sh, l, ns, shs, at_, a, b, rfl, _⟩ := h; rfl) fun cdv A outer s0 H vs Q E hr h => ?_
  obtain ⟨r, s, sh, l, ns, shs, at_, a, b, rfl, g, hn, ho, hat, k⟩ := h
  refine ⟨_, (pss_cons (ps_set (i := 5) sc__law_step.nd rfl (Or.inl rfl) (pe_ix (kix_list K) (pv 1) (pv 2) (fun _ _ => rfl)))
  (pss_cons (ps_set (i := 6) sc__law_step.nd rfl (Or.inl rfl) (pe_call G__law_taken (hr.mono (by omega)) (by rfl) T.g__law_taken T.k__law_taken T.bd__law_taken .nil pass0 (pa_cons (pv 0) (pa_cons pe_int pa_nil))))
  (pss_cons (ps_if (PW.pt (pw_and (pt_cmpR op_gt (pv 6) pe_int (nomark _)) (pw_and (pt_cmpR op_lt (pe_op op_add (pv 2) pe_int) (pe_callB (kc_len K) rfl T.b_len PySem.boot_len (pa_cons (pv 1) pa_nil)) (nomark _)) (pw_and1 (pt_cmpR op_gt (pe_ix (kix_list K) (pv 3) pe_int (fun _ _ => rfl)) pe_int (nomark _))))))
    (pss_cons (ps_asg (pe_op op_sub (pe_ix (kix_list K) (pv 3) pe_int (fun _ _ => rfl)) pe_int) (pg_sub (pv 3) pe_int set_list))
    (pss_cons (ps_set (i := 7) sc__law_step.nd rfl (Or.inl rfl) (pe_op op_add (pe_op op_add (pv 2) pe_int) (pe_call G__law_taken (hr.mono (by omega)) (by rfl) T.g__law_taken T.k__law_taken T.bd__law_taken .nil pass0 (pa_cons (pv 0) (pa_cons (pe_op op_sub (pe_op op_sub (pe_callB (kc_len K) rfl T.b_len PySem.boot_len (pa_cons (pv 1) pa_nil)) (pv 2)) pe_int) pa_nil)))))
    (pss_cons (ps_set (i := 8) sc__law_step.nd rfl (Or.inl rfl) (pe_lst pa_nil))
    (pss_cons (ps_for (passes_of rfl) rfl (pi_range1 rfl T.b_range (pa_cons (pe_ix (kix_tup K) (pe_ix (kix_list K) (pv 1) (pv 7) (fun _ _ => rfl)) pe_int (fun _ _ => rfl)) pa_nil)) (pg_name (i := 9) sc__law_step.nd rfl (Or.inl rfl))
      (pss_cons (ps_set (i := 10) sc__law_step.nd rfl (Or.inl rfl) (pe_call G__law_thing (hr.mono (by omega)) (by rfl) T.g__law_thing T.k__law_thing T.bd__law_thing .nil pass0 (pa_cons (pv 0) (pa_cons (pv 5) (pa_cons pe_int pa_nil)))))
      (pss_one (ps_expr (pe_bm PySem.F.plainAttrs_list PySem.F.slot_list_append PySem.F.type_list_append mt_append (pv 8) (pa_cons (pe_ifExp (pt_cmpR op_eq (pe_call G__law_taken (hr.mono (by omega)) (by rfl) T.g__law_taken T.k__law_taken T.bd__law_taken .nil pass0 (pa_cons (pv 0) (pa_cons pe_int pa_nil))) pe_int (nomark _)) (pv 10) (pe_call G__law_place (hr.mono (by omega)) (by rfl) T.g__law_place T.k__law_place T.bd__law_place .nil pass0 (pa_cons (pv 0) (pa_cons (pv 5) (pa_cons pe_int pa_nil))))) pa_nil))))))
    (pss_one (ps_ret (pe_tup (pa_cons pe_str (pa_cons (pv 7) (pa_cons (pe_callTy (kc_tuple K) rfl T.b_tuple (by decide +kernel) (pa_cons (pv 8) pa_nil)) pa_nil))))))))))
    pss_nil)
  (pss_cons (ps_if (PW.pt (pw_and (pt_cmpR op_eq (pv 6) pe_int (nomark _)) (pw_and1 (pt_cmpR op_gt (pv 4) pe_int (nomark _)))))
    (pss_cons (ps_set (i := 11) sc__law_step.nd rfl (Or.inl rfl) (pe_call G__law_body (hr.mono (by omega)) (by rfl) T.g__law_body T.k__law_body T.bd__law_body .nil pass0 (pa_cons (pv 0) (pa_cons (pv 1) (pa_cons (pv 2) (pa_cons (pv 3) (pa_cons (pe_op op_sub (pv 4) pe_int) pa_nil)))))))
    (pss_one (ps_ret (pe_tup (pa_cons pe_str (pa_cons (pe_call G__law_thing (hr.mono (by omega)) (by rfl) T.g__law_thing T.k__law_thing T.bd__law_thing .nil pass0 (pa_cons (pv 0) (pa_cons (pv 5) (pa_cons pe_int pa_nil)))) (pa_cons (pv 11) (pa_cons (pe_call G__law_body (hr.mono (by omega)) (by rfl) T.g__law_body T.k__law_body T.bd__law_body .nil pass0 (pa_cons (pv 0) (pa_cons (pv 1) (pa_cons (pv 2) (pa_cons (pv 3) (pa_cons (pe_op op_sub (pv 4) pe_int) pa_nil)))))) pa_nil))))))))
    pss_nil)
  (pss_cons (ps_if (pt_cmpR op_eq (pv 6) pe_int (nomark _))
    (pss_one (ps_ret (pe_tup (pa_cons pe_str (pa_cons (pe_call G__law_thing (hr.mono (by omega)) (by rfl) T.g__law_thing T.k__law_thing T.bd__law_thing .nil pass0 (pa_cons (pv 0) (pa_cons (pv 5) (pa_cons pe_int pa_nil)))) pa_nil)))))
    pss_nil)
  (pss_one (ps_ret (pe_tup (pa_cons pe_str (pa_cons (pe_call G__law_place (hr.mono (by omega)) (by rfl) T.g__law_place T.k__law_place T.bd__law_place .nil pass0 (pa_cons (pv 0) (pa_cons (pv 5) (pa_cons pe_int pa_nil)))) (pa_cons (pe_call G__law_thing (hr.mono (by omega)) (by rfl) T.g__law_thing T.k__law_thing T.bd__law_thing .nil pass0 (pa_cons (pv 0) (pa_cons (pv 5) (pa_cons pe_int pa_nil)))) pa_nil))))))))))), ?_⟩
  obtain ⟨⟨ps, os⟩, hsz⟩ : ∃ z, shs[at_]? = some z := ⟨_, List.getElem?_eq_getElem hat⟩
  have hbd := ho.2 _ (List.mem_of_getElem? hsz)
  have hps : ps ≤ 99 := Nat.le_trans hbd.1 (by decide)
  have hos : os ≤ 99 := Nat.le_trans hbd.2 (by decide)
  have eP : shP shs at_ = ps := by simp [shP, List.getD, hsz]
  have eO : shO shs at_ = os := by simp [shO, List.getD, hsz]
  have goes : ∀ {t : Th}, wfT ps os t = true → dpT t ≤ 3 → goT shs at_ t = true := fun h1 h2 => by
    unfold goT
    rw [eP, eO, h1, decide_eq_true h2]
    rfl
  obtain ⟨sxs, hsx, hsa⟩ := g.shp
  have hat2 : atI (shs.map fun x => szD x.1 x.2) (at_ : Int) = some (szD ps os) := atI_nat (by rw [List.getElem?_map, hsz] <;> rfl)
  refine Pst.go (K := K) ?_
  refine pst_asg (d := szD ps os) ?_ fun vz H1 e1 tz => ?_
  · have hsl : SqL K H sh sxs := SqL.of hsx
    walk_at "ev"
  refine pst_of fun H2 e2 => ?_
  have g2 := g.ex (e1.trans e2)
  refine w_seq (w_asg (w_taken rfl g2.row hn (m := 10) ?_ (by decide) (by decide) fun way H3 hway f3 R3 => ?_))
  · walk_at "ev"
  have g3 := g2.fr f3 R3
  have tz3 : Td K H3 vz (szD ps os) := (tz.ex e2).kp (g2.row.keep f3)
  have fr3 : Fr [r, l] H H3 := (Fr.of (e1.trans e2)).trans f3.rl
  clear g2 f3 R3 tz e1 e2 hsx hsa
  obtain ⟨sxs, hsx, hsa⟩ := g3.shp
  have hsl : SqL K H3 sh sxs := SqL.of hsx
  have hll : SqL K H3 l [.int (a : Int), .int (b : Int)] := SqL.of g3.lft
  dsimp only
  refine Pst.go (K := K) ?_
  apply pst_when
  · walk_at "et"
  · intro hb
    simp only [Bool.and_eq_true, decide_eq_true_eq] at hb
    rw [List.length_map] at hb
    obtain ⟨b1, rfl⟩ : ∃ b1, b = b1 + 1 := ⟨b - 1, by omega⟩
    apply pst_setI
    · rfl
    · exact g3.lft
    · walk_at "ev"
    · walk_at "ev"
    · rfl
    intro H4 e4
    have g4 : Gs K s r sh l ns shs a b1 (upd H4 l (.lst [.int (a : Int), .int (((b1 + 1 : Nat) : Int) - 1)])) := (g3.ex e4).setl rfl (by omega)
    have f4 : Fr [r, l] H (upd H4 l (.lst [.int (a : Int), .int (((b1 + 1 : Nat) : Int) - 1)])) := (fr3.trans (Fr.of e4)).trans (Fr.upd (by simp))
    have tz4 := (tz3.ex e4).kp (Keep.upd (o := .lst [.int (a : Int), .int (((b1 + 1 : Nat) : Int) - 1)]) (g3.ex e4).lft True.intro)
    show Pst K _ _ _ (upd H4 l (.lst [.int (a : Int), .int (((b1 + 1 : Nat) : Int) - 1)]))
    generalize upd H4 l (.lst [.int (a : Int), .int (((b1 + 1 : Nat) : Int) - 1)]) = H5 at *
    clear hsx hsa hsl hll
    obtain ⟨sxs, hsx, hsa⟩ := g4.shp
    have hsl : SqL K H5 sh sxs := SqL.of hsx
    refine pst_of fun H6 e6 => ?_
    have g6 := g4.ex e6
    have hsl6 : SqL K H6 sh sxs := ex_l e6 hsl
    have hsa6 := hsa.ex e6
    refine w_seq (w_asg (w_op (w_d (K := K) (d := .int ((at_ : Int) + 1)) ?_ fun v7 H7 e7 t7 => ?_)))
    · walk_at "ev"
    cases t7
    have hsl7 : SqL K H7 sh sxs := ex_l e7 hsl6
    have hsa7 := hsa6.ex e7
    have g7 := g6.ex e7
    refine w_taken rfl g7.row hn (m := (shs.length : Int) - (at_ : Int) - 1) ?_ (by omega) (by have := ho.1; omega) fun kw H8 hkw f8 R8 => ?_
    · apply ed_is
      · walk_at "ev"
      · rw [List.length_map]
    refine ⟨_, _, rfl, rfl, ?_⟩
    have g8 := g7.fr f8 R8
    have tz8 : Td K H8 vz (szD ps os) := ((tz4.ex e6).ex e7).kp (g7.row.keep f8)
    have fr8 : Fr [r, l] H H8 := ((f4.trans (Fr.of e6)).trans (Fr.of e7)).trans f8.rl
    obtain ⟨c, hc⟩ : ∃ c : Nat, c = at_ + 1 + kw := ⟨_, rfl⟩
    have ec : ((at_ : Int) + 1 + (kw : Int)) = (c : Int) := by omega
    have hcl : c < shs.length := by omega
    obtain ⟨⟨cp, co⟩, hcz⟩ : ∃ z, shs[c]? = some z := ⟨_, List.getElem?_eq_getElem hcl⟩
    have hcp : cp ≤ 3 := (ho.2 _ (List.mem_of_getElem? hcz)).1
    have ecp : shP shs c = cp := by simp [shP, List.getD, hcz]
    have hcat : atI (shs.map fun x => szD x.1 x.2) (c : Int) = some (.tuple [.int (cp : Int), .int (co : Int)]) := atI_nat (by rw [List.getElem?_map, hcz] <;> rfl)
    dsimp only
    rw [ec]
    refine Pst.go (K := K) ?_
    refine pst_asgL (edl_lst eda_nil (by simp)) fun fl xs0 H9 hfl e9 hx0 ht0 => ?_
    cases ht0
    have off := g8.off hfl
    have g9 := g8.ex e9
    refine pst_of fun H10 e10 => ?_
    have g10 := g9.ex e10
    clear hsx hsa hsl hsl6 hsa6 hsl7 hsa7
    obtain ⟨sxs, hsx, hsa⟩ := g10.shp
    have hsl : SqL K H10 sh sxs := SqL.of hsx
    refine w_seq (w_forR (K := K) (n := cp) ?_ (by omega) (fun i σ' H' => ∃ (ts : List Th) (xs : List V) (u1 u2 u3 : Option V), σ' = [some (.ref r), some (.ref sh), some (.int (at_ : Int)), some (.ref l), some (.int (n : Int)), some vz, some (.int (way : Int)), some (.int (c : Int)), some (.ref fl), u1, u2, u3] ∧ H' fl = some (.lst xs) ∧ TdAll K H' xs (ts.map encT) ∧ ts.length = i ∧ ts.all (goC shs at_) = true ∧ Fr [fl, r, l] H9 H' ∧ Td K H' vz (szD ps os) ∧ Gs K s r sh l ns shs a b1 H') ?_ ?_ ?_)
    · apply eda_cons
      · walk_at "ev"
      · exact eda_nil
    · intro H11 e11
      exact ⟨[], [], _, _, _, rfl, e11 _ _ (e10 _ _ hx0), .nil, rfl, rfl, (Fr.of e10).trans (Fr.of e11), ((tz8.ex e9).ex e10).ex e11, g10.ex e11⟩
    · rintro i σ' H' hi ⟨ts, xs, u1, u2, u3, rfl, hxs, hall, hlen, hgo, hf, tz', g'⟩
      refine w_seq (w_asg (w_things (m := 1) (ps := ps) (os := os) (by decide) rfl g'.row hn ?_ hps hos ?_ fun t xt H11 wt dt f11 R11 tt => ?_))
      · walk_at "ev"
      · exact ed_ci
      have g11 := g'.fr f11 R11
      have hx11 : H11 fl = some (.lst xs) := f11 _ _ (by simpa using off.o1) hxs
      have k11 := g'.row.keep f11
      dsimp only
      refine w_app rfl hx11 (w_if (w_test (w_op (w_taken rfl R11 hn (m := 3) ?_ (by decide) (by decide) fun kk H12 hkk f12 R12 => ?_))))
      · walk_at "ev"
      refine ⟨by rfl, decide (V.int (kk : Int) = V.int 2), rfl, ?_⟩
      have g12 := g11.fr f12 R12
      have hx12 : H12 fl = some (.lst xs) := f12 _ _ (by simpa using off.o1) hx11
      have k12 := R11.keep f12
      have hfin : ∀ (t : Th) (x : V) (H13 : Hp), goC shs at_ t = true → Fr [r] H12 H13 → RowAt K s ns H13 r → Td K H13 x (encT t) → ∃ xs, H13 fl = some (.lst xs) ∧ xs.length < sizeLine ∧ (∃ (ts : List Th) (xs' : List V) (y1 y2 y3 : Option V), ([some (V.ref r), some (.ref sh), some (.int (at_ : Int)), some (.ref l), some (.int (n : Int)), some vz, some (.int (way : Int)), some (.int (c : Int)), some (.ref fl), some (.int (i : Int)), some xt, u3] : L2.St) = [some (.ref r), some (.ref sh), some (.int (at_ : Int)), some (.ref l), some (.int (n : Int)), some vz, some (.int (way : Int)), some (.int (c : Int)), some (.ref fl), y1, y2, y3] ∧ upd H13 fl (.lst (xs ++ [x])) fl = some (.lst xs') ∧ TdAll K (upd H13 fl (.lst (xs ++ [x]))) xs' (ts.map encT) ∧ ts.length = i + 1 ∧ ts.all (goC shs at_) = true ∧ Fr [fl, r, l] H9 (upd H13 fl (.lst (xs ++ [x]))) ∧ Td K (upd H13 fl (.lst (xs ++ [x]))) vz (szD ps os) ∧ Gs K s r sh l ns shs a b1 (upd H13 fl (.lst (xs ++ [x])))) := by
        intro t x H13 hg f13 R13 t13
        have hx13 : H13 fl = some (.lst xs) := f13 _ _ (by simpa using off.o1) hx12
        have k13 := R12.keep f13
        have kk : Keep K H13 (upd H13 fl (.lst (xs ++ [x]))) := Keep.upd hx13 True.intro
        refine ⟨xs, hx13, by rw [hall.length, List.length_map]; exact sz_lt (by omega), ts ++ [t], xs ++ [x], _, _, _, rfl, upd_same, ?_, by simp [hlen], by simp [hgo, hg], (((hf.trans (f11.sub (by simp))).trans (f12.sub (by simp))).trans (f13.sub (by simp))).trans (Fr.upd (by simp)), ((((tz'.kp k11).kp k12).kp k13).kp kk), (g12.fr f13 R13).updo off hx13⟩
        rw [List.map_append]
        exact ((((hall.kp k11).kp k12).kp k13).kp kk).snoc (t13.kp kk)
      by_cases hk2 : V.int (kk : Int) = V.int 2
      · rw [decide_eq_true hk2]
        refine iteT (w_v rfl ?_)
        exact hfin t xt H12 (by unfold goC; rw [goes wt (by omega), decide_eq_true (by omega : dpT t ≤ 2)]; simp) Fr.refl R12 (tt.kp k12)
      · rw [decide_eq_false hk2]
        refine iteF (w_place (m := 1) (ps := ps) (os := os) rfl R12 hn ?_ hps hos ?_ fun t2 x2 H13 w2 i2 d2 f13 R13 t13 => ?_)
        · have tz12 := (tz'.kp k11).kp k12
          walk_at "ev"
        · exact ed_ci
        exact hfin t2 x2 H13 (by unfold goC; rw [goes w2 (by omega), i2]; rfl) f13 R13 t13
    · rintro σ' H' ⟨ts, xs, u1, u2, u3, rfl, hxs, hall, hlen, hgo, hf, tz', g'⟩
      dsimp only
      have hxl : SqL K H' fl xs := SqL.of hxs
      refine w_ret (w_d (K := K) (d := encS (.call c ts)) ?_ fun v H11 e11 t11 => ?_)
      · unfold encS
        apply ed_tup
        · apply eda_cons
          · walk_at "ev"
          apply eda_cons
          · walk_at "ev"
          apply eda_cons
          · exact ed_tupL (edr_var rfl hxl hall)
          · exact eda_nil
        · simp
      exact k (.call c ts) v H11 a b1 (by simp only [goS, Bool.and_eq_true, decide_eq_true_eq]; exact ⟨by omega, hcl, by rw [ecp, hlen], hgo⟩) (by simp [cntS]; omega) (by simp [clS]; omega) ((fr8.trans ((Fr.of e9).trans hf |>.fresh hfl)).trans (Fr.of e11)) (g'.ex e11) t11
  intro hb
  apply pst_when
  · walk_at "et"
  · intro hb
    simp at hb
    obtain ⟨m, rfl⟩ : ∃ m, n = m + 1 := ⟨n - 1, by omega⟩
    rw [hspI (by omega)]
    have em : m + 1 - 1 = m := by omega
    rw [em]
    refine pst_of fun H4 e4 => ?_
    have g4 := g3.ex e4
    have eI : ∀ (σ : L2.St) H, σ[4]? = some (some (V.int ((m + 1 : Nat) : Int))) → EvD K (tOp (rI0 fun i j => .int (i - j)) (tVar 4) (tC (.int 1))) σ H (.int (m : Int)) := by
      intro σ H hσ
      apply ed_is
      · apply ed_I0i
        · exact ed_var hσ (.int _)
        · walk_at "ev"
      · simp
    refine w_seq (w_asg (w_body g4 hn ho hat rfl rfl ?_ rfl (eI _ _ rfl) fun b1 x1 H5 a5 b5 l1 q1 c1 d1 f5 g5 t5 => ?_))
    · walk_at "ev"
    have tz5 := (tz3.ex e4).kp (g4.keep f5)
    dsimp only
    refine w_ret (w_tup (w_cons (w_c (w_cons (w_things (m := 1) (ps := ps) (os := os) (by decide) rfl g5.row hn ?_ hps hos ed_ci fun t xt H6 wt dt f6 R6 tt => ?_)))))
    · walk_at "ev"
    have g6 := g5.fr f6 R6
    refine w_cons (w_v rfl (w_cons (w_body g6 hn ho hat rfl rfl ?_ rfl (eI _ _ rfl) fun b2 x2 H7 a7 b7 l2 q2 c2 d2 f7 g7 t7 => w_nil ⟨by show 4 ≤ sizeLine; decide, fun p hp => ?_⟩)))
    · walk_at "ev"
    refine k (.ite t b1 b2) _ _ a7 b7 (by simp [goS, goes wt (by omega : dpT t ≤ 3), l1, l2, q1, q2]) (by simp only [cntS]; omega) (by simp only [clS]; omega) (((((fr3.trans (Fr.of e4)).trans f5).trans f6.rl).trans f7).trans (Fr.of (Ex.new hp))) (g7.ex (Ex.new hp)) ?_
    unfold encS
    exact td_new hp (.cons (.str _) (.cons (tt.kp (g6.keep f7)) (.cons ((t5.kp (g5.row.keep f6)).kp (g6.keep f7)) (.cons t7 .nil))))
  intro hb
  apply pst_when
  · walk_at "et"
  · intro hb
    refine pst_of fun H4 e4 => ?_
    have g4 := g3.ex e4
    have tz4 := tz3.ex e4
    refine w_ret (w_tup (w_cons (w_c (w_cons (w_things (m := 2) (ps := ps) (os := os) (by decide) rfl g4.row hn ?_ hps hos ed_ci fun t xt H6 wt dt f6 R6 tt => w_nil ⟨by show 2 ≤ sizeLine; decide, fun p hp => ?_⟩)))))
    · walk_at "ev"
    refine k (.say t) _ _ a b (by simp [goS, goes wt (by omega : dpT t ≤ 3)]) (by simp [cntS]; omega) (by simp [clS]) (((fr3.trans (Fr.of e4)).trans f6.rl).trans (Fr.of (Ex.new hp))) ((g4.fr f6 R6).ex (Ex.new hp)) ?_
    unfold encS
    exact td_new hp (tdall2 (.str _) tt)
  intro hb
  refine pst_of fun H4 e4 => ?_
  have g4 := g3.ex e4
  have tz4 := tz3.ex e4
  refine w_ret (w_tup (w_cons (w_c (w_cons (w_place (m := 1) (ps := ps) (os := os) rfl g4.row hn ?_ hps hos ed_ci fun pt xp H5 wp ip dp f5 R5 tp => ?_)))))
  · walk_at "ev"
  have tz5 := tz4.kp (g4.row.keep f5)
  refine w_cons (w_things (m := 2) (ps := ps) (os := os) (by decide) rfl R5 hn ?_ hps hos ed_ci fun t xt H6 wt dt f6 R6 tt => w_nil ⟨by show 3 ≤ sizeLine; decide, fun p hp => ?_⟩)
  · walk_at "ev"
  refine k (.set pt t) _ _ a b (by simp [goS, goes wp (by omega : dpT pt ≤ 3), ip, goes wt (by omega : dpT t ≤ 3)]) (by simp [cntS]; omega) (by simp [clS]) ((((fr3.trans (Fr.of e4)).trans f5.rl).trans f6.rl).trans (Fr.of (Ex.new hp))) (((g4.fr f5 R5).fr f6 R6).ex (Ex.new hp)) ?_
  unfold encS
  exact td_new hp (tdall3 (.str _) (tp.kp (R5.keep f6)) tt)
end
end Hw

set_option maxRecDepth 100000
set_option maxHeartbeats 4000000
/-! PG5: drawn programs -/
namespace Hw
open PySem PySem.Spec PyProof.Rows L2 Evl
local macro_rules | `(tactic| walk_at "dd") => `(tactic| first | rfl | decide | (simp; done) | omega)
local macro_rules | `(tactic| walk_at "td") => `(tactic| first | assumption | exact Td.int _ | exact Td.bl _ | exact Td.str _ | exact Td.non | exact Td.tup (by assumption) (by assumption))
local macro_rules | `(tactic| walk_at "ev") => `(tactic| first
  | exact ed_ci | exact ed_cs | exact ed_cb | exact ed_cn
  | (apply ed_cg; assumption)
  | (apply ed_var; (rfl); (walk_at "td"))
  | (apply ed_ixT; (walk_at "ev"); (walk_at "ev"); (first | rfl | assumption))
  | (apply ed_rowI; (rfl); (assumption); (walk_at "ev"); (rfl))
  | (apply ed_ixL; (apply EvDL.rd; walk_at "edl"); (walk_at "ev"); (rfl))
  | (apply ed_intb; (walk_at "ev"))
  | (apply ed_len; walk_at "ev")
  | (apply ed_lenV; (apply ev_rowR; (rfl); (assumption); (walk_at "ev"); (rfl)); (assumption))
  | (apply ed_Ii; (walk_at "ev"); (walk_at "ev"); (walk_at "cc"))
  | (apply ed_isi; (walk_at "ev"); (rfl))
  | (apply ed_I0i; (walk_at "ev"); (walk_at "ev"))
  | (apply ed_I0b; (walk_at "ev"); (walk_at "ev"))
  | (apply ed_eqi; (walk_at "ev"); (walk_at "ev"))
  | (apply ed_nei; (walk_at "ev"); (walk_at "ev"))
  | (apply ed_andF; walk_at "ev")
  | (apply ed_andV; (walk_at "ev"); (intro _; walk_at "ev"))
  | (apply ed_orT; walk_at "ev")
  | (apply ed_orV; (walk_at "ev"); (intro _; walk_at "ev"))
  | (apply ed_notT; walk_at "ev")
  | (apply ed_notF; walk_at "ev")
  | (apply ed_notV; walk_at "ev")
  | (apply ed_chain; (walk_at "ev"); (walk_at "ev"); (intro _; walk_at "ev"))
  | (apply ed_eqS; (walk_at "ev"); (walk_at "ev"); (walk_at "bb"); (walk_at "bb"))
  | (apply ed_neS; (walk_at "ev"); (walk_at "ev"); (walk_at "bb"); (walk_at "bb"))
  | (apply ed_inT; (walk_at "ev"); (walk_at "ev"); (rfl); (rfl))
  | (apply ed_niT; (walk_at "ev"); (walk_at "ev"); (rfl); (rfl))
  | (apply ed_tup; (walk_at "eva"); (walk_at "bb"))
  | (apply ed_sl; (walk_at "ev"); (walk_at "evo"); (walk_at "evo"))
  | (apply ed_eqN; (apply EvDL.rd; walk_at "edl"); (walk_at "edl"); (walk_at "bb"))
  | (apply ed_neN; (apply EvDL.rd; walk_at "edl"); (walk_at "edl"); (walk_at "bb"))
  | (apply ed_ixL; (apply edr_var; (rfl); (assumption); (assumption)); (walk_at "ev"); (first | rfl | assumption))
  | (apply ed_lenL; (apply edr_var; (rfl); (assumption); (assumption)))
  | (apply ed_call; (walk_at "eva"); (walk_at "post")))
local macro_rules | `(tactic| walk_at "edl") => `(tactic| first
  | assumption
  | (apply edl_lst; (walk_at "eva"); (walk_at "bb")))
local macro_rules | `(tactic| walk_at "eva") => `(tactic| first
  | exact eda_nil
  | (apply eda_cons; (walk_at "ev"); (walk_at "eva")))
local macro_rules | `(tactic| walk_at "evo") => `(tactic| first
  | exact eok_none
  | (apply eok_some; walk_at "ev"))
local macro_rules | `(tactic| walk_at "bb") => `(tactic| first | rfl | assumption | (simp; done) | (simp; omega) | decide +kernel)
local macro_rules | `(tactic| walk_at "et") => `(tactic| first
  | exact tk_yes
  | (apply tk_andF; walk_at "et")
  | (apply tk_and; (walk_at "et"); (intro _; walk_at "et"))
  | (apply tk_orT; walk_at "et")
  | (apply tk_or; (walk_at "et"); (intro _; walk_at "et"))
  | (apply tk_notT; walk_at "et")
  | (apply tk_notF; walk_at "et")
  | (apply tk_not; walk_at "et")
  | (apply tk_v; walk_at "ev")
  | (apply tk_vB; walk_at "ev"))
local macro_rules | `(tactic| walk_at "if") => `(tactic| first
  | (apply pst_whenF; (walk_at "et"); (walk_at "bb"))
  | (apply pst_whenT; (walk_at "et"); (walk_at "bb")))
local macro_rules | `(tactic| walk_at "post") => `(tactic| first | assumption | exact ⟨_, _, rfl, rfl⟩ | exact ⟨_, _, _, _, rfl, by omega, by omega, rfl⟩ | exact ⟨_, _, _, 0, rfl, by omega, by omega, rfl⟩)
local macro_rules | `(tactic| walk_at "cc") => `(tactic| first | assumption | decide | omega | (refine ⟨?_, ?_⟩ <;> first | decide | omega) | (exact Or.inl (by constructor <;> omega)))

section
variable {K : PySem.W.Frag} {σ : L2.St} {H H' : Hp} {D : Ends} {tu tz : TS} {ta : TA} {te : TE} {Q : VK} {r s p : Addr} {ns : List Int}
theorem w_lst (h : ta σ H fun xs H1 => xs.length ≤ sizeLine ∧ ∀ p, H1 p = none → Q (.ref p) (upd H1 p (.lst xs))) : tLst ta σ H Q := h
/-- one step, by what holds behind it -/
theorem seq_cut (R : L2.St → Hp → Prop) (h2 : ∀ σ' H', R σ' H' → tz D σ' H') (h1 : ∀ N : L2.St → Hp → Prop, (∀ σ' H', R σ' H' → N σ' H') → tu { D with nx := N } σ H) : tSeq tu tz D σ H := h1 _ h2
/-- [e for j in range(n)], whatever e does -/
theorem w_lcR {n j : Nat} {vs : List Nat} (h : EvDA K ta σ H [.int (n : Int)]) (hz : n ≤ 40000) (hw : ∀ x, wipe ((wipe σ vs).set j (some x)) vs = wipe σ vs) (Pv : Addr → Nat → Hp → Prop)
    (h0 : ∀ H1 p, Ex H H1 → H1 p = none → Pv p 0 (upd H1 p (.lst [])))
    (hs : ∀ p i H1, i < n → Pv p i H1 → te ((wipe σ vs).set j (some (.int (i : Int)))) H1 fun y H4 => ∃ acc, H4 p = some (.lst acc) ∧ acc.length < sizeLine ∧ Pv p (i + 1) (upd H4 p (.lst (acc ++ [y]))))
    (hd : ∀ p H1, Pv p n H1 → Q (.ref p) H1) : tLc (iRng1 ta) (gName j) tYes te vs σ H Q := h H (Ex.refl H) _ fun ws H1 e1 tw => by
  obtain _ | ⟨w1, _ | _⟩ := tw
  cases w1
  refine ⟨(n : Int), rfl, by omega, by omega, fun Dl hD => ?_⟩
  have en : ((n : Int)).toNat = n := by simp
  rw [en]
  refine lc_range (lo := 0) (n := n) (fun i H' => Pv Dl i H') (h0 H1 Dl e1 hD) (fun i H' hi c => ?_) (fun H' c => hd Dl H' c)
  have e0 : (0 : Int) + (i : Int) = (i : Int) := Int.zero_add _
  show wipe ((wipe σ vs).set j (some (.int ((0 : Int) + (i : Int))))) vs = wipe σ vs ∧ _
  rw [e0]
  refine ⟨hw _, ?_⟩
  exact hs Dl i H' hi c
theorem w_tupl (h : te σ H fun x H1 => rTupS K [x] H1 Q) : tCB (rTupS K) (tCons te tNil) σ H Q := h
theorem tupl_go {ys : List V} (hp : H p = some (.lst ys)) (h : ∀ l, H l = none → Q (.ref l) (upd H l (.tup ys))) : rTupS K [.ref p] H Q := ⟨p, ys, rfl, .inl ⟨SqL.of hp, h⟩⟩
/-- a list beside the row -/
def OffR (K : PySem.W.Frag) (s r : Addr) (ns : List Int) (p : Addr) : Prop := p ≠ r ∧ (s ≠ p ∨ SqL K (fun _ => none) s (ns.map V.int))
theorem RowAt.off (h : RowAt K s ns H r) (hp : H p = none) : OffR K s r ns p := by
  obtain ⟨p0, q, t, h3, h4, h5⟩ := h
  refine ⟨fun e => ?_, ?_⟩
  · subst e; rw [hp] at h3; cases h3
  · rcases sql_split h4 with ⟨u, h⟩ | h
    · refine .inl fun e => ?_
      subst e; rw [hp] at h; cases h
    · exact .inr h
theorem RowAt.updo {o : HO} (h : RowAt K s ns H r) (f : OffR K s r ns p) : RowAt K s ns (L2.upd H p o) r := by
  obtain ⟨p0, q, t, h3, h4, h5⟩ := h
  refine ⟨p0, q, t, ?_, sql_upd h4 f.2, h5⟩
  rw [upd_ne (Ne.symm f.1)]
  exact h3
theorem Fr.none (f : Fr [r] H H') (R : RowAt K s ns H' r) (hp : H' p = none) : H p = none := by
  cases h : H p with
  | none => rfl
  | some o =>
    by_cases e : p = r
    · subst e
      obtain ⟨u, hu, _⟩ := R.mu
      rw [hp] at hu
      cases hu
    · have := f p o (by simpa using e) h
      rw [hp] at this
      cases this
/-- one of a list of ints, drawn -/
theorem w_pick {ms : List Int} {n : Nat} {tl te : TE} {E : XK} (hl : EvDL K tl σ H (ms.map PyData.int)) (hs : σ[n]? = some (some (.ref r))) (hR : RowAt K s ns H r) (hn : ns.length ≤ 63) (hm : ∀ H, EvD K te σ H (.int (ms.length : Int))) (h0 : 0 < ms.length) (h1 : ms.length ≤ 1000)
    (k : ∀ (m : Int) H', m ∈ ms → Fr [r] H H' → RowAt K s ns H' r → Q (.int m) H') : tOp (rIxL K) tl (tCall (spTaken K) [] E (tCons (tVar n) (tCons te tNil))) σ H Q :=
  w_op (w_dl hl fun p xs H1 hp e1 hx ht => by
    have off := hR.off hp
    have ex := td_ints ht
    subst ex
    refine w_taken hs (hR.ex e1) hn (hm H1) (by omega) (by omega) fun kk H2 hk f2 R2 => ?_
    have hkk : kk < ms.length := by omega
    exact ⟨p, _, (kk : Int), .int ms[kk], rfl, rfl, SqL.of (f2 _ _ (by simpa using off.1) hx), atI_nat (by rw [List.getElem?_map, List.getElem?_eq_getElem hkk] <;> rfl), k _ _ (List.getElem_mem hkk) ((Fr.of e1).trans f2) R2⟩)
/-- the shapes stand at sh -/
def Shp (K : PySem.W.Frag) (sh : Addr) (shs : List (Nat × Nat)) (H : Hp) : Prop := ∃ xs, H sh = some (.lst xs) ∧ TdAll K H xs (shs.map fun x => szD x.1 x.2)
theorem Shp.ex {sh : Addr} {shs : List (Nat × Nat)} (h : Shp K sh shs H) (e : Ex H H') : Shp K sh shs H' := by
  obtain ⟨xs, h1, h2⟩ := h
  exact ⟨xs, e _ _ h1, h2.ex e⟩
theorem Shp.fr {sh : Addr} {shs : List (Nat × Nat)} {S : List Addr} (h : Shp K sh shs H) (f : Fr S H H') (hs : sh ∉ S) (k : Keep K H H') : Shp K sh shs H' := by
  obtain ⟨xs, h1, h2⟩ := h
  exact ⟨xs, f _ _ hs h1, h2.kp k⟩
/-- in the midst of a work: its body so far is bd -/
def Mid (K : PySem.W.Frag) (s r sh fl : Addr) (ns : List Int) (shs : List (Nat × Nat)) (H0 : Hp) (xs : List V) (ds : List PyData) (i cn cl ln : Nat) (bd : List Stm) (x : V) (H : Hp) : Prop :=
  (goB shs i 2 bd = true ∧ cntB bd ≤ cn ∧ clB bd ≤ cl ∧ bd.length ≤ ln) ∧ Td K H x (.tuple (encB bd)) ∧ H fl = some (.lst xs) ∧ TdAll K H xs ds ∧ Fr [fl, r] H0 H ∧ RowAt K s ns H r ∧ Shp K sh shs H
theorem Mid.fr {sh fl : Addr} {shs : List (Nat × Nat)} {H0 : Hp} {xs : List V} {ds : List PyData} {i cn cl ln : Nat} {bd : List Stm} {x : V} (h : Mid K s r sh fl ns shs H0 xs ds i cn cl ln bd x H) (f : Fr [r] H H') (R : RowAt K s ns H' r) (h1 : sh ≠ r) (h2 : fl ≠ r) : Mid K s r sh fl ns shs H0 xs ds i cn cl ln bd x H' := by
  obtain ⟨a, b, c, d, e, g, j⟩ := h
  have k := g.keep f
  exact ⟨a, b.kp k, f _ _ (by simpa using h2) c, d.kp k, e.trans (f.sub (by simp)), R, j.fr f (by simpa using h1) k⟩
theorem Mid.ex {sh fl : Addr} {shs : List (Nat × Nat)} {H0 : Hp} {xs : List V} {ds : List PyData} {i cn cl ln : Nat} {bd : List Stm} {x : V} (h : Mid K s r sh fl ns shs H0 xs ds i cn cl ln bd x H) (e : Ex H H') : Mid K s r sh fl ns shs H0 xs ds i cn cl ln bd x H' := by
  obtain ⟨a, b, c, d, f, g, j⟩ := h
  exact ⟨a, b.ex e, e _ _ c, d.ex e, f.trans (Fr.of e), g.ex e, j.ex e⟩
/-- a step more -/
theorem Mid.go {sh fl : Addr} {shs : List (Nat × Nat)} {H0 : Hp} {xs : List V} {ds : List PyData} {i cn cl ln cn' cl' ln' : Nat} {bd bd' : List Stm} {x x' : V} (h : Mid K s r sh fl ns shs H0 xs ds i cn cl ln bd x H) (hg : goB shs i 2 bd' = true ∧ cntB bd' ≤ cn' ∧ clB bd' ≤ cl' ∧ bd'.length ≤ ln') (t : Td K H x' (.tuple (encB bd'))) : Mid K s r sh fl ns shs H0 xs ds i cn' cl' ln' bd' x' H := ⟨hg, t, h.2.2⟩
end
/-- a drawn work -/
structure GoW (shs : List (Nat × Nat)) (most i : Nat) (w : Wk) : Prop where
  sh : shs[i]? = some (w.params, w.owns)
  go : goB shs i 2 w.body = true
  cnt : cntB w.body ≤ most + 2
  cl : clB w.body ≤ 4
  len : w.body.length ≤ 15
/-- drawn shapes -/
structure GoH (shs : List (Nat × Nat)) : Prop where
  len : 1 ≤ shs.length ∧ shs.length ≤ 4
  fst : shP shs 0 = 0
  ok : ∀ x ∈ shs, x.1 ≤ 3 ∧ x.2 ≤ 10
structure GoP (most : Nat) (p : List Wk) : Prop where
  hs : GoH (shapes p)
  ws : ∀ i w, p[i]? = some w → GoW (shapes p) most i w
def spProg (K : PySem.W.Frag) : Sp := fun vs H Q _ => ∃ (r s : Addr) (ns : List Int) (most : Nat), vs = [.ref r, .int (most : Int)] ∧ RowAt K s ns H r ∧ ns.length ≤ 63 ∧ 2 ≤ most ∧
  ∀ p x H', GoP most p → Fr [r] H H' → RowAt K s ns H' r → Td K H' x (encP p) → Q x H'
theorem goB_take {shs : List (Nat × Nat)} {at_ n : Nat} : ∀ (xs : List Stm) (k : Nat), goB shs at_ n xs = true → goB shs at_ n (xs.take k) = true
  | [], k, _ => by simp [goB]
  | x :: xs, 0, _ => by simp [goB]
  | x :: xs, k + 1, h => by
    simp only [goB, Bool.and_eq_true] at h
    simp only [List.take_succ_cons, goB, h.1, goB_take xs k h.2, Bool.and_self]
theorem cntB_take : ∀ (xs : List Stm) (k : Nat), cntB (xs.take k) ≤ cntB xs
  | [], k => by simp [cntB]
  | x :: xs, 0 => by simp [cntB]
  | x :: xs, k + 1 => by
    have := cntB_take xs k
    simp only [List.take_succ_cons, cntB]
    omega
theorem clB_take : ∀ (xs : List Stm) (k : Nat), clB (xs.take k) ≤ clB xs
  | [], k => by simp [clB]
  | x :: xs, 0 => by simp [clB]
  | x :: xs, k + 1 => by
    have := clB_take xs k
    simp only [List.take_succ_cons, clB]
    omega
theorem cutD_take {xs : List Stm} {k : Nat} : cutD (encB xs) none (some (k : Int)) = encB (xs.take k) := by
  unfold cutD
  rw [HT.sIx_none, HT.sIx_nat, List.drop_zero, Nat.sub_zero, encB_map, encB_map, List.map_take, List.length_map]
  rcases Nat.le_total k xs.length with h | h
  · rw [Nat.min_eq_left h]
  · rw [Nat.min_eq_right h, List.take_of_length_le (by simp), List.take_of_length_le (by simpa using h)]
section
variable {P : Program} {w : World} {K : PySem.W.Frag} {mg : Str → Option Value} {base : Heap} (T : Tx K mg)
include T
theorem ok_program (GT : Fn__law_taken T P w base CX0 1 (spTaken K)) (GP : Fn__law_place T P w base CX0 4 (spPlace K 1)) (GB : Fn__law_body T P w base CX0 11 (spBody K 2)) : Fn__law_program T P w base CX0 12 (spProg K) := by
  have G__law_body := GB
  have G__law_taken := GT
  have G__law_place := GP
  refine T.F__law_program.ok sc__law_program (fun vs H Q E h => by obtain ⟨r, s, ns, most, rfl, _⟩ := h; rfl) fun cdv A outer s0 H vs Q E hr h => ?_
  obtain ⟨r, s, ns, most, rfl, hR, hn, hm2, k⟩ := h
  refine ⟨_, (pss_cons (ps_set (i := 2) sc__law_program.nd rfl (Or.inr rfl) (pe_lst (pa_cons (pe_tup (pa_cons pe_int (pa_cons (pe_call G__law_taken (hr.mono (by omega)) (by rfl) T.g__law_taken T.k__law_taken T.bd__law_taken .nil pass0 (pa_cons (pv 0) (pa_cons pe_int pa_nil))) pa_nil))) pa_nil)))
  (pss_cons (ps_for (passes_of rfl) rfl (pi_range1 rfl T.b_range (pa_cons (pe_call G__law_taken (hr.mono (by omega)) (by rfl) T.g__law_taken T.k__law_taken T.bd__law_taken .nil pass0 (pa_cons (pv 0) (pa_cons pe_int pa_nil))) pa_nil)) (pg_name (i := 3) sc__law_program.nd rfl (Or.inl rfl))
    (pss_cons (ps_set (i := 4) sc__law_program.nd rfl (Or.inl rfl) (pe_call G__law_taken (hr.mono (by omega)) (by rfl) T.g__law_taken T.k__law_taken T.bd__law_taken .nil pass0 (pa_cons (pv 0) (pa_cons (pe_ix (kix_list K) (pe_lst (pa_cons pe_int (pa_cons pe_int (pa_cons pe_int (pa_cons pe_int (pa_cons pe_int (pa_cons pe_int pa_nil))))))) (pe_call G__law_taken (hr.mono (by omega)) (by rfl) T.g__law_taken T.k__law_taken T.bd__law_taken .nil pass0 (pa_cons (pv 0) (pa_cons pe_int pa_nil))) (fun _ _ => rfl)) pa_nil))))
    (pss_one (ps_expr (pe_bm PySem.F.plainAttrs_list PySem.F.slot_list_append PySem.F.type_list_append mt_append (pv 2) (pa_cons (pe_tup (pa_cons (pe_ix (kix_list K) (pe_lst (pa_cons pe_int (pa_cons pe_int (pa_cons pe_int (pa_cons pe_int (pa_cons pe_int pa_nil)))))) (pe_call G__law_taken (hr.mono (by omega)) (by rfl) T.g__law_taken T.k__law_taken T.bd__law_taken .nil pass0 (pa_cons (pv 0) (pa_cons pe_int pa_nil))) (fun _ _ => rfl)) (pa_cons (pv 4) pa_nil))) pa_nil))))))
  (pss_cons (ps_set (i := 5) sc__law_program.nd rfl (Or.inl rfl) (pe_lst pa_nil))
  (pss_cons (ps_for (passes_of rfl) rfl (pi_range1 rfl T.b_range (pa_cons (pe_callB (kc_len K) rfl T.b_len PySem.boot_len (pa_cons (pv 2) pa_nil)) pa_nil)) (pg_name (i := 6) sc__law_program.nd rfl (Or.inr rfl))
    (pss_cons (ps_set (i := 7) sc__law_program.nd rfl (Or.inl rfl) (pe_call G__law_body (hr.mono (by omega)) (by rfl) T.g__law_body T.k__law_body T.bd__law_body .nil pass0 (pa_cons (pv 0) (pa_cons (pv 2) (pa_cons (pv 6) (pa_cons (pe_lst (pa_cons (pv 1) (pa_cons pe_int pa_nil))) (pa_cons pe_int pa_nil)))))))
    (pss_cons (ps_if (PW.pt (pw_and (pt_cmpR op_lt (pe_op op_add (pv 6) pe_int) (pe_callB (kc_len K) rfl T.b_len PySem.boot_len (pa_cons (pv 2) pa_nil)) (nomark _)) (pw_and1 (pt_cmpR op_gt (pe_call G__law_taken (hr.mono (by omega)) (by rfl) T.g__law_taken T.k__law_taken T.bd__law_taken .nil pass0 (pa_cons (pv 0) (pa_cons pe_int pa_nil))) pe_int (nomark _)))))
      (pss_cons (ps_set (i := 8) sc__law_program.nd rfl (Or.inl rfl) (pe_callTy (kc_tuple K) rfl T.b_tuple (by decide +kernel) (pa_cons (pe_lc (own := [("_law_k", 3)]) (g := gName 3) (tt := tYes) rfl sc__law_program.nd (pi_range1 rfl T.b_range (pa_cons (pe_ix (kix_tup K) (pe_ix (kix_list K) (pv 2) (pe_op op_add (pv 6) pe_int) (fun _ _ => rfl)) pe_int (fun _ _ => rfl)) pa_nil)) (blkOk_by (N := ["_law_row", "_law_most", "_law_shapes", "_law_k", "_law_owns", "_law_found", "_law_at", "_law_body_here", "_law_things"]) (sc := defScope s__law_program) (by decide +kernel)) (fun _ _ _ _ _ => (pg_name (i := 3) sc__law_program.nd rfl (Or.inl rfl))) (fun _ _ _ _ _ => pts_nil) (fun _ _ _ _ _ => (pe_call G__law_place (hr.mono (by omega)) (by rfl) T.g__law_place T.k__law_place T.bd__law_place .nil pass0 (pa_cons (pv 0) (pa_cons (pe_ix (kix_list K) (pv 2) (pv 6) (fun _ _ => rfl)) (pa_cons pe_int pa_nil)))))) pa_nil)))
      (pss_one (ps_set (i := 7) sc__law_program.nd rfl (Or.inl rfl) (pe_op (kop_cat K) (pe_slice (ksl_tup K) (pv 7) po_none (po_some (pe_op op_sub (pv 1) pe_int))) (pe_tup (pa_cons (pe_tup (pa_cons pe_str (pa_cons (pe_op op_add (pv 6) pe_int) (pa_cons (pv 8) pa_nil)))) pa_nil))))))
      pss_nil)
    (pss_cons (ps_if (PW.pt (pw_and (pt_cmpR op_gt (pv 6) pe_int (nomark _)) (pw_and (pt_cmpR op_gt (pe_ix (kix_tup K) (pe_ix (kix_list K) (pv 2) (pv 6) (fun _ _ => rfl)) pe_int (fun _ _ => rfl)) pe_int (nomark _)) (pw_and1 (pt_cmpR op_eq (pe_call G__law_taken (hr.mono (by omega)) (by rfl) T.g__law_taken T.k__law_taken T.bd__law_taken .nil pass0 (pa_cons (pv 0) (pa_cons pe_int pa_nil))) pe_int (nomark _))))))
      (pss_one (ps_set (i := 7) sc__law_program.nd rfl (Or.inl rfl) (pe_op (kop_cat K) (pe_slice (ksl_tup K) (pv 7) po_none (po_some (pe_op op_sub (pv 1) pe_int))) (pe_tup (pa_cons (pe_tup (pa_cons pe_str (pa_cons (pe_tup (pa_cons pe_str (pa_cons pe_int pa_nil))) (pa_cons (pe_tup (pa_cons pe_str (pa_cons (pe_tup (pa_cons pe_str (pa_cons pe_int pa_nil))) (pa_cons (pe_tup (pa_cons pe_str (pa_cons pe_int pa_nil))) pa_nil)))) pa_nil)))) pa_nil)))))
      pss_nil)
    (pss_one (ps_expr (pe_bm PySem.F.plainAttrs_list PySem.F.slot_list_append PySem.F.type_list_append mt_append (pv 5) (pa_cons (pe_op (kop_cat K) (pe_ix (kix_list K) (pv 2) (pv 6) (fun _ _ => rfl)) (pe_tup (pa_cons (pv 7) pa_nil))) pa_nil))))))))
  (pss_one (ps_ret (pe_callTy (kc_tuple K) rfl T.b_tuple (by decide +kernel) (pa_cons (pv 5) pa_nil)))))))), ?_⟩
  refine w_seq (w_asg (w_lst (w_cons (w_tup (w_cons (w_c (w_cons (w_taken rfl hR hn (m := 3) ?_ (by decide) (by decide) fun o0 H1 ho0 f1 R1 => w_nil ⟨by show 2 ≤ sizeLine; decide, fun p1 hp1 => w_nil ⟨by show 1 ≤ sizeLine; decide, fun sh hsh => ?_⟩⟩))))))))
  · walk_at "ev"
  have hR1 := R1.ex (Ex.new (o := .tup [.int 0, .int (o0 : Int)]) hp1)
  have offs := hR1.off hsh
  have hsh0 : H sh = none := f1.none R1 (fresh_back (Ex.new hp1) hsh)
  have e2 : Ex H1 (upd (upd H1 p1 (.tup [.int 0, .int (o0 : Int)])) sh (.lst [.ref p1])) := (Ex.new hp1).trans (Ex.new hsh)
  have R2 := R1.ex e2
  have f2 := f1.trans (Fr.of e2)
  have ht2 : TdAll K (upd (upd H1 p1 (.tup [.int 0, .int (o0 : Int)])) sh (.lst [.ref p1])) [.ref p1] ([(0, o0)].map fun x => szD x.1 x.2) := .cons ((td_new hp1 (tdall2 (.int 0) (.int _))).ex (Ex.new hsh)) .nil
  have hx2 : upd (upd H1 p1 (.tup [.int 0, .int (o0 : Int)])) sh (.lst [.ref p1]) sh = some (.lst [.ref p1]) := upd_same
  dsimp only
  generalize upd (upd H1 p1 (.tup [.int 0, .int (o0 : Int)])) sh (.lst [.ref p1]) = H2 at *
  refine w_seq (w_forR0 (w_cons (w_taken rfl R2 hn (m := 4) ?_ (by decide) (by decide) fun n1 H3 hn1 f3 R3 => w_nil (rng_go (by omega) (fun i σ' H' => ∃ (shs : List (Nat × Nat)) (xs : List V) (u3 u4 : Option V), σ' = [some (.ref r), some (.int (most : Int)), some (.ref sh), u3, u4, none, none, none, none] ∧ H' sh = some (.lst xs) ∧ TdAll K H' xs (shs.map fun x => szD x.1 x.2) ∧ shs.length = i + 1 ∧ shP shs 0 = 0 ∧ (∀ x ∈ shs, x.1 ≤ 3 ∧ x.2 ≤ 10) ∧ Fr [sh, r] H H' ∧ RowAt K s ns H' r) ?_ ?_ ?_))))
  · walk_at "ev"
  · refine ⟨[(0, o0)], [.ref p1], _, _, rfl, f3 _ _ (by simpa using offs.1) hx2, ht2.kp (R2.keep f3), rfl, rfl, ?_, (f2.trans f3).sub (by simp), R3⟩
    intro x hx
    have : x = (0, o0) := by simpa using hx
    subst this
    exact ⟨by simp, by simp; omega⟩
  · rintro i σ' H' hi ⟨shs, xs, u3, u4, rfl, hxs, hall, hlen, h0, hok, hf, hR'⟩
    refine w_seq (w_asg (w_call (w_cons (w_v rfl (w_cons (w_pick (K := K) (ms := [3, 3, 3, 3, 3, 11]) ?_ rfl hR' hn ?_ (by decide) (by decide) fun m H4 hm f4 R4 => w_nil ⟨r, s, ns, m, rfl, R4, hn, ?_, ?_, fun ow H5 how f5 R5 => ?_⟩))))))
    · exact edl_lst (by walk_at "eva") (by simp)
    · intro H
      exact ed_ci
    · simp at hm; omega
    · simp at hm; omega
    have how10 : ow ≤ 10 := by simp at hm; omega
    have hx5 : H5 sh = some (.lst xs) := f5 _ _ (by simpa using offs.1) (f4 _ _ (by simpa using offs.1) hxs)
    have hall5 := (hall.kp (hR'.keep f4)).kp (R4.keep f5)
    dsimp only
    refine w_app rfl hx5 (w_tup (w_cons (w_pick (K := K) (ms := [1, 2, 2, 3, 0]) ?_ rfl R5 hn ?_ (by decide) (by decide) fun pm H6 hpm f6 R6 => w_cons (w_v rfl (w_nil ⟨by show 2 ≤ sizeLine; decide, fun p hp => ?_⟩)))))
    · exact edl_lst (by walk_at "eva") (by simp)
    · intro H
      exact ed_ci
    obtain ⟨pn, rfl, hpn⟩ : ∃ pn : Nat, pm = (pn : Int) ∧ pn ≤ 3 := ⟨pm.toNat, by simp at hpm; omega, by simp at hpm; omega⟩
    have hx6 : H6 sh = some (.lst xs) := f6 _ _ (by simpa using offs.1) hx5
    have e7 : Ex H6 (upd H6 p (.tup [.int (pn : Int), .int (ow : Int)])) := Ex.new hp
    have t7 : Td K (upd H6 p (.tup [.int (pn : Int), .int (ow : Int)])) (.ref p) (szD pn ow) := td_new hp (tdall2 (.int _) (.int _))
    have hx7 := e7 _ _ hx6
    have hall7 := (hall5.kp (R5.keep f6)).ex e7
    have R7 := R6.ex e7
    have F7 : Fr [sh, r] H (upd H6 p (.tup [.int (pn : Int), .int (ow : Int)])) := (((hf.trans (f4.sub (by simp))).trans (f5.sub (by simp))).trans (f6.sub (by simp))).trans (Fr.of e7)
    generalize upd H6 p (.tup [.int (pn : Int), .int (ow : Int)]) = H7 at *
    have kk : Keep K H7 (upd H7 sh (.lst (xs ++ [.ref p]))) := Keep.upd hx7 True.intro
    refine ⟨xs, hx7, by rw [hall.length, List.length_map]; exact sz_lt (by omega), shs ++ [(pn, ow)], xs ++ [.ref p], _, _, rfl, upd_same, ?_, by simp [hlen], ?_, ?_, F7.trans (Fr.upd (by simp)), R7.updo offs⟩
    · rw [List.map_append]
      exact (hall7.kp kk).snoc (t7.kp kk)
    · cases shs with
      | nil => simp at hlen
      | cons z zs => simpa [shP] using h0
    · intro x hx
      rcases List.mem_append.mp hx with hx | hx
      · exact hok x hx
      · have : x = (pn, ow) := by simpa using hx
        subst this
        exact ⟨hpn, how10⟩
  rintro σ' H' ⟨shs, xs, u3, u4, rfl, hxs, hall, hlen, h0, hok, hf, hR'⟩
  have gh : GoH shs := ⟨by omega, h0, hok⟩
  have hsho : shOk shs := ⟨by omega, hok⟩
  have hshp : Shp K sh shs H' := ⟨xs, hxs, hall⟩
  have ff : Fr [r] H H' := Fr.fresh hf hsh0
  clear hf hxs hall f2 f1 f3 R1 R2 R3 hR1 e2 ht2 hx2
  dsimp only
  refine Pst.go (K := K) ?_
  refine pst_asgL (edl_lst eda_nil (by simp)) fun fl xs0 H8 hfl e8 hx8 ht8 => ?_
  cases ht8
  have offf := hR'.off hfl
  have hshfl : sh ≠ fl := by
    intro e
    obtain ⟨ys, h1, _⟩ := hshp
    rw [e, hfl] at h1
    cases h1
  refine pst_of fun H9 e9 => ?_
  have hshp9 := (hshp.ex e8).ex e9
  obtain ⟨sxs, hsx, hsa⟩ := hshp9
  have hsl : SqL K H9 sh sxs := SqL.of hsx
  refine w_seq (w_forR (K := K) (n := shs.length) ?_ (by have := gh.len; omega) (fun i σ' H1 => ∃ (ws : List Wk) (xs : List V) (u6 u7 u8 : Option V), σ' = [some (.ref r), some (.int (most : Int)), some (.ref sh), u3, u4, some (.ref fl), u6, u7, u8] ∧ H1 fl = some (.lst xs) ∧ TdAll K H1 xs (ws.map encW) ∧ ws.length = i ∧ (∀ j w, ws[j]? = some w → GoW shs most j w) ∧ Fr [fl, r] H9 H1 ∧ RowAt K s ns H1 r ∧ Shp K sh shs H1) ?_ ?_ ?_)
  · apply eda_cons
    · apply ed_is
      · walk_at "ev"
      · rw [List.length_map]
    · exact eda_nil
  · intro H10 e10
    exact ⟨[], [], _, _, _, rfl, e10 _ _ (e9 _ _ hx8), .nil, rfl, by simp, Fr.of e10, ((hR'.ex e8).ex e9).ex e10, ((hshp.ex e8).ex e9).ex e10⟩
  · rintro i σ' H10 hi ⟨ws, xs, u6, u7, u8, rfl, hxs, hall, hlen, hws, hf, hR1, hsp⟩
    obtain ⟨⟨cp, co⟩, hcz⟩ : ∃ z, shs[i]? = some z := ⟨_, List.getElem?_eq_getElem hi⟩
    have hcb := hok _ (List.mem_of_getElem? hcz)
    have ecp : shP shs i = cp := by simp [shP, List.getD, hcz]
    have eco : shO shs i = co := by simp [shO, List.getD, hcz]
    have hcat : atI (shs.map fun x => szD x.1 x.2) (i : Int) = some (.tuple [.int (cp : Int), .int (co : Int)]) := atI_nat (by rw [List.getElem?_map, hcz] <;> rfl)
    have h1 : sh ≠ r := offs.1
    have h2 : fl ≠ r := offf.1
    have goes : ∀ {t : Th}, wfT cp co t = true → dpT t ≤ 3 → goT shs i t = true := fun h1 h2 => by
      unfold goT
      rw [ecp, eco, h1, decide_eq_true h2]
      rfl
    dsimp only
    refine seq_cut (fun σ1 H1 => ∃ bd x, σ1 = [some (.ref r), some (.int (most : Int)), some (.ref sh), u3, u4, some (.ref fl), some (.int (i : Int)), some x, u8] ∧ Mid K s r sh fl ns shs H9 xs (ws.map encW) i most 3 13 bd x H1) ?_ fun N hN => ?_
    · rintro σ1 H11 ⟨bd, x, rfl, M⟩
      refine seq_cut (fun σ1 H1 => ∃ bd x u8, σ1 = [some (.ref r), some (.int (most : Int)), some (.ref sh), u3, u4, some (.ref fl), some (.int (i : Int)), some x, u8] ∧ Mid K s r sh fl ns shs H9 xs (ws.map encW) i (most + 1) 4 14 bd x H1) ?_ fun N hN => ?_
      · clear M
        rintro σ1 H11 ⟨bd, x, u8, rfl, M⟩
        refine seq_cut (fun σ1 H1 => ∃ bd x u8, σ1 = [some (.ref r), some (.int (most : Int)), some (.ref sh), u3, u4, some (.ref fl), some (.int (i : Int)), some x, u8] ∧ Mid K s r sh fl ns shs H9 xs (ws.map encW) i (most + 2) 4 15 bd x H1) ?_ fun N hN => ?_
        · clear M
          rintro σ1 H11 ⟨bd, x, u8, rfl, M⟩
          obtain ⟨⟨g1, g2, g3, g4⟩, tb, hx, ha, hf', hR2, hsp2⟩ := M
          obtain ⟨sxs, hsx, hsa⟩ := hsp2
          have hsl : SqL K H11 sh sxs := SqL.of hsx
          refine w_app rfl hx (w_d (K := K) (d := encW ⟨cp, co, bd⟩) ?_ fun v H12 e12 t12 => ?_)
          · refine ed_is (ed_cat (ds := [.int (cp : Int), .int (co : Int)]) (es := [.tuple (encB bd)]) ?_ ?_ (by simp)) rfl
            · walk_at "ev"
            · walk_at "ev"
          have hx12 := e12 _ _ hx
          have kk : Keep K H12 (upd H12 fl (.lst (xs ++ [v]))) := Keep.upd hx12 True.intro
          refine ⟨xs, hx12, by rw [hall.length, List.length_map]; exact sz_lt (by have := gh.len; omega), ws ++ [⟨cp, co, bd⟩], xs ++ [v], _, _, _, rfl, upd_same, ?_, by simp [hlen], ?_, (hf'.trans (Fr.of e12)).trans (Fr.upd (by simp)), (hR2.ex e12).updo offf, ?_⟩
          · rw [List.map_append]
            exact ((ha.ex e12).kp kk).snoc (t12.kp kk)
          · intro j w hj
            rw [List.getElem?_append] at hj
            split at hj
            · exact hws j w hj
            · rename_i hjl
              have e0 : j - ws.length = 0 := by
                have := List.getElem?_eq_some_iff.mp hj
                obtain ⟨h, _⟩ := this
                simp at h
                exact h
              have ej : j = i := by omega
              rw [e0] at hj
              simp at hj
              subst hj ej
              exact ⟨hcz, g1, g2, g3, g4⟩
          · exact ⟨sxs, by rw [upd_ne hshfl]; exact e12 _ _ hsx, (hsa.ex e12).kp kk⟩
        · -- the second if
          have skip : ∀ H1 bd' x', Mid K s r sh fl ns shs H9 xs (ws.map encW) i (most + 1) 4 14 bd' x' H1 → Mid K s r sh fl ns shs H9 xs (ws.map encW) i (most + 2) 4 15 bd' x' H1 := fun H1 bd' x' M => M.go ⟨M.1.1, by have := M.1; omega, by have := M.1; omega, by have := M.1; omega⟩ M.2.1
          refine w_ifs (w_and (w_t (K := K) (b := decide (0 < (i : Int))) ?_ fun H12 e12 => ?_))
          · walk_at "et"
          have M12 := M.ex e12
          clear M
          by_cases hi0 : 0 < (i : Int)
          · rw [decide_eq_true hi0]
            refine iteT (w_and (w_t (K := K) (b := decide (0 < (cp : Int))) ?_ fun H13 e13 => ?_))
            · obtain ⟨_, _, _, _, _, _, ⟨sxs, hsx, hsa⟩⟩ := M12
              have hsl : SqL K H12 sh sxs := SqL.of hsx
              walk_at "et"
            have M13 := M12.ex e13
            clear M12
            by_cases hc0 : 0 < (cp : Int)
            · rw [decide_eq_true hc0]
              refine iteT (w_test (w_op (w_taken rfl M13.2.2.2.2.2.1 hn (m := 2) ?_ (by decide) (by decide) fun k4 H14 hk4 f14 R14 => w_c ⟨by rfl, _, rfl, ?_⟩)))
              · walk_at "ev"
              have M14 := M13.fr f14 R14 h1 h2
              clear M13
              by_cases hk : V.int (k4 : Int) = V.int 1
              · rw [decide_eq_true hk]
                refine iteT ?_
                have tbd := M14.2.1
                obtain ⟨g1, g2, g3, g4⟩ := M14.1
                refine w_asg (w_d (K := K) (d := .tuple (encB (bd.take (most - 1) ++ [.set (.par 0) (.sum (.par 0) (.num 1))]))) ?_ fun v H16 e16 t16 => ?_)
                · refine ed_is (ed_cat (ds := cutD (encB bd) none (some (((most - 1 : Nat)) : Int))) (es := [.tuple [.str "set", .tuple [.str "par", .int 0], .tuple [.str "sum", .tuple [.str "par", .int 0], .tuple [.str "num", .int 1]]]]) (ed_sl ?_ eok_none (eok_some ?_)) ?_ ?_) ?_
                  · walk_at "ev"
                  · apply ed_is
                    · walk_at "ev"
                    · exact congrArg PyData.int (by omega)
                  · walk_at "ev"
                  · rw [cutD_take, encB_length]
                    simp
                    omega
                  · rw [cutD_take, encB_map, encB_map, List.map_append]
                    simp [encS, encT]
                have hw0 : goT shs i (.par 0) = true := goes (by simp [wfT]; omega) (by simp [dpT])
                have hw1 : goT shs i (.sum (.par 0) (.num 1)) = true := goes (by simp [wfT]; omega) (by simp [dpT])
                refine hN _ _ ⟨_, v, _, rfl, (M14.ex e16).go ⟨goB_app (goB_take _ _ g1) ?_, ?_, ?_, ?_⟩ t16⟩
                · simp only [goB, goS, Bool.and_true, Bool.and_eq_true]
                  exact ⟨hw0, rfl, hw1⟩
                · rw [cntB_app]
                  have := cntB_take bd (most - 1)
                  simp only [cntB, cntS]
                  omega
                · rw [clB_app]
                  have := clB_take bd (most - 1)
                  simp only [clB, clS]
                  omega
                · simp
                  omega
              · rw [decide_eq_false hk]
                exact iteF (hN _ _ ⟨bd, x, _, rfl, skip _ _ _ M14⟩)
            · rw [decide_eq_false hc0]
              exact iteF (iteF (hN _ _ ⟨bd, x, _, rfl, skip _ _ _ M13⟩))
          · rw [decide_eq_false hi0]
            exact iteF (iteF (hN _ _ ⟨bd, x, _, rfl, skip _ _ _ M12⟩))
      · -- the first if
        refine w_ifs (w_and (w_t (K := K) (b := decide ((i : Int) + 1 < (shs.length : Int))) ?_ fun H12 e12 => ?_))
        · obtain ⟨_, _, _, _, _, _, ⟨sxs, hsx, hsa⟩⟩ := M
          have hsl : SqL K H11 sh sxs := SqL.of hsx
          apply tk_is
          · walk_at "et"
          · rw [List.length_map]
        have M12 := M.ex e12
        clear M
        by_cases hlt : (i : Int) + 1 < (shs.length : Int)
        · rw [decide_eq_true hlt]
          refine iteT (w_test (w_op (w_taken rfl M12.2.2.2.2.2.1 hn (m := 4) ?_ (by decide) (by decide) fun k4 H13 hk4 f13 R13 => w_c ⟨_, _, rfl, rfl, _, rfl, ?_⟩)))
          · walk_at "ev"
          have M13 := M12.fr f13 R13 h1 h2
          clear M12
          by_cases hk : 0 < (k4 : Int)
          · rw [decide_eq_true hk]
            refine iteT ?_
            obtain ⟨⟨np, no⟩, hnz⟩ : ∃ z, shs[i + 1]? = some z := ⟨_, List.getElem?_eq_getElem (by omega)⟩
            have hnb := hok _ (List.mem_of_getElem? hnz)
            have enp : shP shs (i + 1) = np := by simp [shP, List.getD, hnz]
            have ei : ((i : Int) + 1) = ((i + 1 : Nat) : Int) := by omega
            have hnat : atI (shs.map fun x => szD x.1 x.2) ((i : Int) + 1) = some (.tuple [.int (np : Int), .int (no : Int)]) := by
              rw [ei]
              exact atI_nat (by rw [List.getElem?_map, hnz] <;> rfl)
            have S13 := M13.2.2.2.2.2
            obtain ⟨sxs, hsx, hsa⟩ := S13.2
            have hsl : SqL K H13 sh sxs := SqL.of hsx
            refine w_seq (w_asg (w_tupl (w_lcR (K := K) (n := np) ?_ (by omega) (fun _ => rfl) (fun p j H14 => H13 p = none ∧ ∃ (ts : List Th) (acc : List V), H14 p = some (.lst acc) ∧ TdAll K H14 acc (ts.map encT) ∧ ts.length = j ∧ ts.all (goC shs i) = true ∧ Fr [p, r] H13 H14 ∧ RowAt K s ns H14 r ∧ Shp K sh shs H14) ?_ ?_ ?_)))
            · apply eda_cons
              · walk_at "ev"
              · exact eda_nil
            · intro H14 p e14 hp
              exact ⟨fresh_back e14 hp, [], [], upd_same, .nil, rfl, rfl, Fr.of (e14.trans (Ex.new hp)), S13.1.ex (e14.trans (Ex.new hp)), S13.2.ex (e14.trans (Ex.new hp))⟩
            · rintro p j H14 hj ⟨hp0, ts, acc, hx, ht, hl, hg, hf14, R14, S14⟩
              have off := S13.1.off hp0
              have hpsh : sh ≠ p := by
                intro e
                rw [e, hp0] at hsx
                cases hsx
              clear hsl hsa
              obtain ⟨sxs, hsx, hsa⟩ := S14
              have hsl : SqL K H14 sh sxs := SqL.of hsx
              refine w_place (m := 1) (ps := cp) (os := co) rfl R14 hn ?_ (by omega) (by omega) ed_ci fun t xt H15 wt it dt f15 R15 tt => ?_
              · unfold szD
                walk_at "ev"
              have hx15 := f15 p _ (by simpa using off.1) hx
              have kk : Keep K H15 (upd H15 p (.lst (acc ++ [xt]))) := Keep.upd hx15 True.intro
              refine ⟨acc, hx15, by rw [ht.length, List.length_map]; exact sz_lt (by omega), hp0, ts ++ [t], acc ++ [xt], upd_same, ?_, by simp [hl], by simp [hg, goC, goes wt (by omega), it], (hf14.trans (f15.sub (by simp))).trans (Fr.upd (by simp)), R15.updo off, ⟨sxs, ?_, (hsa.kp (R14.keep f15)).kp kk⟩⟩
              · rw [List.map_append]
                exact ((ht.kp (R14.keep f15)).kp kk).snoc (tt.kp kk)
              · rw [upd_ne hpsh]
                exact f15 _ _ (by simpa using h1) hsx
            · rintro p H14 ⟨hp0, ts, acc, hx, ht, hl, hg, hf14, R14, S14⟩
              refine tupl_go hx fun l hl2 => ?_
              have M15 := (M13.fr (Fr.fresh hf14 hp0) R14 h1 h2).ex (Ex.new (o := .tup acc) hl2)
              have tts : Td K (upd H14 l (.tup acc)) (.ref l) (.tuple (ts.map encT)) := .tup (SqT.of upd_same) (ht.ex (Ex.new hl2))
              generalize upd H14 l (.tup acc) = H15 at *
              dsimp only
              have tbd := M15.2.1
              obtain ⟨g1, g2, g3, g4⟩ := M15.1
              refine w_asg (w_d (K := K) (d := .tuple (encB (bd.take (most - 1) ++ [.call (i + 1) ts]))) ?_ fun v H16 e16 t16 => ?_)
              · refine ed_is (ed_cat (ds := cutD (encB bd) none (some (((most - 1 : Nat)) : Int))) (es := [.tuple [.str "call", .int ((i : Int) + 1), .tuple (ts.map encT)]]) (ed_sl ?_ eok_none (eok_some ?_)) ?_ ?_) ?_
                · walk_at "ev"
                · apply ed_is
                  · walk_at "ev"
                  · exact congrArg PyData.int (by omega)
                · apply ed_tup
                  · apply eda_cons
                    · apply ed_tup
                      · apply eda_cons
                        · walk_at "ev"
                        apply eda_cons
                        · walk_at "ev"
                        apply eda_cons
                        · walk_at "ev"
                        exact eda_nil
                      · simp
                    · exact eda_nil
                  · simp
                · rw [cutD_take, encB_length]
                  simp
                  omega
                · rw [cutD_take, encB_map, encB_map, List.map_append]
                  simp [encS]
              refine hN _ _ ⟨_, v, _, rfl, (M15.ex e16).go ⟨goB_app (goB_take _ _ g1) ?_, ?_, ?_, ?_⟩ t16⟩
              · simp only [goB, goS, Bool.and_true, Bool.and_eq_true, decide_eq_true_eq]
                exact ⟨by omega, by omega, by rw [enp, hl], hg⟩
              · rw [cntB_app]
                have := cntB_take bd (most - 1)
                simp only [cntB, cntS]
                omega
              · rw [clB_app]
                have := clB_take bd (most - 1)
                simp only [clB, clS]
                omega
              · simp
                omega
          · rw [decide_eq_false hk]
            exact iteF (hN _ _ ⟨bd, x, _, rfl, M13.go ⟨M13.1.1, by have := M13.1; omega, by have := M13.1; omega, by have := M13.1; omega⟩ M13.2.1⟩)
        · rw [decide_eq_false hlt]
          exact iteF (iteF (hN _ _ ⟨bd, x, _, rfl, M12.go ⟨M12.1.1, by have := M12.1; omega, by have := M12.1; omega, by have := M12.1; omega⟩ M12.2.1⟩))
    · -- the body
      have offl : ∀ l, H10 l = none → OffR K s r ns l := fun l hl => hR1.off hl
      refine w_asg (w_call (w_cons (w_v rfl (w_cons (w_v rfl (w_cons (w_v rfl ?_)))))))
      refine w_cons (w_lst (w_cons (w_v rfl (w_cons (w_c (w_nil ⟨by show 2 ≤ sizeLine; decide, fun l hl => ?_⟩))))))
      refine w_cons (w_c (w_nil ⟨r, s, sh, l, ns, shs, i, most, 3, rfl, ⟨hR1.ex (Ex.new hl), hsp.ex (Ex.new hl), upd_same, h1, ?_, (offl l hl).1, (offl l hl).2⟩, hn, hsho, hi, fun bd x H11 a' b' q0 q1 q2 q3 f11 g11 t11 => ?_⟩))
      · intro e
        obtain ⟨ys, hy, _⟩ := hsp
        rw [e, hl] at hy
        cases hy
      · have f12 : Fr [r] H10 H11 := Fr.fresh (((Fr.of (Ex.new hl)).trans f11).sub (by simp)) hl
        exact hN _ _ ⟨bd, x, rfl, ⟨q1, by omega, by omega, q0⟩, t11, f12 _ _ (by simpa using h2) hxs, hall.kp (hR1.keep f12), hf.trans (f12.sub (by simp)), g11.row, hsp.fr f12 (by simpa using h1) (hR1.keep f12)⟩
  · rintro σ' H10 ⟨ws, xs, u6, u7, u8, rfl, hxs, hall, hlen, hws, hf, hR1, hsp⟩
    dsimp only
    refine w_ret (w_d (K := K) (ed_tupL (edr_var rfl (SqL.of hxs) hall)) fun v H11 e11 t11 => ?_)
    have esh : shapes ws = shs := by
      unfold shapes
      refine List.ext_getElem? fun j => ?_
      rw [List.getElem?_map]
      cases h : ws[j]? with
      | none =>
        have : shs[j]? = none := by
          rw [List.getElem?_eq_none_iff] at h ⊢
          omega
        rw [this]
        rfl
      | some w => rw [(hws j w h).sh]; rfl
    refine k ws v H11 ⟨by rw [esh]; exact gh, by rw [esh]; exact hws⟩ ((ff.trans (((Fr.of e8).trans ((Fr.of e9).trans hf)).fresh hfl)).trans (Fr.of e11)) (hR1.ex e11) t11
end
end Hw

set_option maxRecDepth 100000
set_option maxHeartbeats 4000000
/-! XA: data with lists in it, alike -/
namespace Hw
open PySem PySem.Spec PyProof.Rows L2 Evl
local macro_rules | `(tactic| walk_at "dd") => `(tactic| first | rfl | decide | (simp; done) | omega)
local macro_rules | `(tactic| walk_at "td") => `(tactic| first | assumption | exact Td.int _ | exact Td.bl _ | exact Td.str _ | exact Td.non | exact Td.tup (by assumption) (by assumption))
local macro_rules | `(tactic| walk_at "ev") => `(tactic| first
  | exact ed_ci | exact ed_cs | exact ed_cb | exact ed_cn
  | (apply ed_cg; assumption)
  | (apply ed_var; (rfl); (walk_at "td"))
  | (apply ed_ixT; (walk_at "ev"); (walk_at "ev"); (first | rfl | assumption))
  | (apply ed_rowI; (rfl); (assumption); (walk_at "ev"); (rfl))
  | (apply ed_ixL; (apply EvDL.rd; walk_at "edl"); (walk_at "ev"); (rfl))
  | (apply ed_intb; (walk_at "ev"))
  | (apply ed_len; walk_at "ev")
  | (apply ed_lenV; (apply ev_rowR; (rfl); (assumption); (walk_at "ev"); (rfl)); (assumption))
  | (apply ed_Ii; (walk_at "ev"); (walk_at "ev"); (walk_at "cc"))
  | (apply ed_isi; (walk_at "ev"); (rfl))
  | (apply ed_I0i; (walk_at "ev"); (walk_at "ev"))
  | (apply ed_I0b; (walk_at "ev"); (walk_at "ev"))
  | (apply ed_eqi; (walk_at "ev"); (walk_at "ev"))
  | (apply ed_nei; (walk_at "ev"); (walk_at "ev"))
  | (apply ed_andF; walk_at "ev")
  | (apply ed_andV; (walk_at "ev"); (intro _; walk_at "ev"))
  | (apply ed_orT; walk_at "ev")
  | (apply ed_orV; (walk_at "ev"); (intro _; walk_at "ev"))
  | (apply ed_notT; walk_at "ev")
  | (apply ed_notF; walk_at "ev")
  | (apply ed_notV; walk_at "ev")
  | (apply ed_chain; (walk_at "ev"); (walk_at "ev"); (intro _; walk_at "ev"))
  | (apply ed_eqS; (walk_at "ev"); (walk_at "ev"); (walk_at "bb"); (walk_at "bb"))
  | (apply ed_neS; (walk_at "ev"); (walk_at "ev"); (walk_at "bb"); (walk_at "bb"))
  | (apply ed_inT; (walk_at "ev"); (walk_at "ev"); (rfl); (rfl))
  | (apply ed_niT; (walk_at "ev"); (walk_at "ev"); (rfl); (rfl))
  | (apply ed_tup; (walk_at "eva"); (walk_at "bb"))
  | (apply ed_sl; (walk_at "ev"); (walk_at "evo"); (walk_at "evo"))
  | (apply ed_eqN; (apply EvDL.rd; walk_at "edl"); (walk_at "edl"); (walk_at "bb"))
  | (apply ed_neN; (apply EvDL.rd; walk_at "edl"); (walk_at "edl"); (walk_at "bb"))
  | (apply ed_ixL; (apply edr_var; (rfl); (assumption); (assumption)); (walk_at "ev"); (first | rfl | assumption))
  | (apply ed_lenL; (apply edr_var; (rfl); (assumption); (assumption)))
  | (apply ed_call; (walk_at "eva"); (walk_at "post")))
local macro_rules | `(tactic| walk_at "edl") => `(tactic| first
  | assumption
  | (apply edl_lst; (walk_at "eva"); (walk_at "bb")))
local macro_rules | `(tactic| walk_at "eva") => `(tactic| first
  | exact eda_nil
  | (apply eda_cons; (walk_at "ev"); (walk_at "eva")))
local macro_rules | `(tactic| walk_at "evo") => `(tactic| first
  | exact eok_none
  | (apply eok_some; walk_at "ev"))
local macro_rules | `(tactic| walk_at "bb") => `(tactic| first | rfl | assumption | (simp; done) | (simp; omega) | decide +kernel)
local macro_rules | `(tactic| walk_at "et") => `(tactic| first
  | exact tk_yes
  | (apply tk_andF; walk_at "et")
  | (apply tk_and; (walk_at "et"); (intro _; walk_at "et"))
  | (apply tk_orT; walk_at "et")
  | (apply tk_or; (walk_at "et"); (intro _; walk_at "et"))
  | (apply tk_notT; walk_at "et")
  | (apply tk_notF; walk_at "et")
  | (apply tk_not; walk_at "et")
  | (apply tk_v; walk_at "ev")
  | (apply tk_vB; walk_at "ev"))
local macro_rules | `(tactic| walk_at "if") => `(tactic| first
  | (apply pst_whenF; (walk_at "et"); (walk_at "bb"))
  | (apply pst_whenT; (walk_at "et"); (walk_at "bb")))
local macro_rules | `(tactic| walk_at "post") => `(tactic| first | assumption | exact ⟨_, _, rfl, rfl⟩ | exact ⟨_, _, _, _, rfl, by omega, by omega, rfl⟩ | exact ⟨_, _, _, 0, rfl, by omega, by omega, rfl⟩)
local macro_rules | `(tactic| walk_at "cc") => `(tactic| first | assumption | decide | omega | (refine ⟨?_, ?_⟩ <;> first | decide | omega) | (exact Or.inl (by constructor <;> omega)))

theorem kix_seq {X : Cx} (K : PySem.W.Frag) (h : X.K = K := by rfl) : IxR X (rIx K) := by subst h; exact ix_seq
mutual
/-- data as it stands now, lists and tuples -/
inductive Tl (K : PySem.W.Frag) (H : Hp) : V → PyData → Prop
  | non : Tl K H .non .none
  | bl (b : Bool) : Tl K H (.bl b) (.bool b)
  | int (i : Int) : Tl K H (.int i) (.int i)
  | str (x : Str) : Tl K H (.str x) (.str x)
  | lst {a : Addr} {xs : List V} {ds : List PyData} : H a = some (.lst xs) → TlAll K H xs ds → Tl K H (.ref a) (.list ds)
  | tup {a : Addr} {xs : List V} {ds : List PyData} : SqT K H a xs → TlAll K H xs ds → Tl K H (.ref a) (.tuple ds)
inductive TlAll (K : PySem.W.Frag) (H : Hp) : List V → List PyData → Prop
  | nil : TlAll K H [] []
  | cons {v : V} {vs : List V} {d : PyData} {ds : List PyData} : Tl K H v d → TlAll K H vs ds → TlAll K H (v :: vs) (d :: ds)
end
section
variable {K : PySem.W.Frag} {σ : L2.St} {H H' : Hp} {te ta tb : TE} {v : V} {d : PyData} {ds es : List PyData}
mutual
theorem Tl.ex (e : Ex H H') : ∀ (d : PyData) {v : V}, Tl K H v d → Tl K H' v d
  | .none, _, h => by cases h; exact .non
  | .bool _, _, h => by cases h; exact .bl _
  | .int _, _, h => by cases h; exact .int _
  | .str _, _, h => by cases h; exact .str _
  | .list ds, _, h => by
    cases h with
    | lst hs ha => exact .lst (e _ _ hs) (TlAll.ex e ds ha)
  | .tuple ds, _, h => by
    cases h with
    | tup hs ha => exact .tup (ex_t e hs) (TlAll.ex e ds ha)
  | .dict _, _, h => by cases h
theorem TlAll.ex (e : Ex H H') : ∀ (ds : List PyData) {vs : List V}, TlAll K H vs ds → TlAll K H' vs ds
  | [], _, h => by cases h; exact .nil
  | d :: ds, _, h => by
    cases h with
    | cons a b => exact .cons (Tl.ex e d a) (TlAll.ex e ds b)
end
mutual
theorem Tl.dp : ∀ (d : PyData) {v : V}, Tl K H v d → Dp K H v d
  | .none, _, h => by cases h; exact .non
  | .bool _, _, h => by cases h; exact .bl _
  | .int _, _, h => by cases h; exact .int _
  | .str _, _, h => by cases h; exact .str _
  | .list ds, _, h => by
    cases h with
    | lst hs ha => exact .lst (SqL.of hs) (TlAll.dp ds ha)
  | .tuple ds, _, h => by
    cases h with
    | tup hs ha => exact .tup hs (TlAll.dp ds ha)
  | .dict _, _, h => by cases h
theorem TlAll.dp : ∀ (ds : List PyData) {vs : List V}, TlAll K H vs ds → DpAll K H vs ds
  | [], _, h => by cases h; exact .nil
  | d :: ds, _, h => by
    cases h with
    | cons a b => exact .cons (Tl.dp d a) (TlAll.dp ds b)
end
mutual
theorem Td.tl : ∀ (d : PyData) {v : V}, Td K H v d → Tl K H v d
  | .none, _, h => by cases h; exact .non
  | .bool _, _, h => by cases h; exact .bl _
  | .int _, _, h => by cases h; exact .int _
  | .str _, _, h => by cases h; exact .str _
  | .list ds, _, h => by cases h
  | .tuple ds, _, h => by
    cases h with
    | tup hs ha => exact .tup hs (TdAll.tl ds ha)
  | .dict _, _, h => by cases h
theorem TdAll.tl : ∀ (ds : List PyData) {vs : List V}, TdAll K H vs ds → TlAll K H vs ds
  | [], _, h => by cases h; exact .nil
  | d :: ds, _, h => by
    cases h with
    | cons a b => exact .cons (Td.tl d a) (TdAll.tl ds b)
end
theorem TlAll.length : ∀ {ds : List PyData} {vs : List V}, TlAll K H vs ds → vs.length = ds.length
  | [], _, h => by cases h; rfl
  | d :: ds, _, h => by
    cases h with
    | cons a b => simp [TlAll.length b]
theorem TlAll.get : ∀ {ds : List PyData} {vs : List V} {i : Nat} {d : PyData}, TlAll K H vs ds → ds[i]? = some d → ∃ v, vs[i]? = some v ∧ Tl K H v d
  | [], _, _, _, _, e => by simp at e
  | d :: ds, _, i, d', h, e => by
    cases h with
    | cons a b =>
      cases i with
      | zero => simp at e; subst e; exact ⟨_, rfl, a⟩
      | succ i => simp at e; simpa using TlAll.get b e
theorem tyx_tl (h : Tl K H v d) : TyX K H v (.type (tyD d)) := by
  cases h with
  | non => exact .base .non
  | bl b => exact .base (.bl b)
  | int i => exact .base (.int i)
  | str x => exact .base (.str x)
  | lst hs _ => exact .base (.lst hs)
  | tup hs _ =>
    rcases hs with (hs | ⟨o, hs⟩) | ⟨o, its, n, hk, hc, _⟩
    · exact .base (.tup hs)
    · exact .fTuple hs
    · exact .kTuple hk hc
def EvX (K : PySem.W.Frag) (te : TE) (σ : L2.St) (H : Hp) (d : PyData) : Prop := ∀ H1, Ex H H1 → ∀ Q : VK, (∀ v H2, Ex H1 H2 → Tl K H2 v d → Q v H2) → te σ H1 Q
theorem xd_var {n : Nat} (h : σ[n]? = some (some v)) (td : Tl K H v d) : EvX K (tVar n) σ H d := fun H1 e1 _ q => ⟨v, h, q v H1 (Ex.refl _) (td.ex e1)⟩
def seqD : PyData → Option (List PyData)
  | .list ds => some ds
  | .tuple ds => some ds
  | _ => none
theorem xd_ix {i : Nat} {e : PyData} (ha : EvX K ta σ H d) (hs : seqD d = some ds) (hb : EvD K tb σ H (.int (i : Int))) (hd : ds[i]? = some e) : EvX K (tOp (rIx K) ta tb) σ H e := fun H1 a Q q =>
  ha H1 a _ fun v H2 e2 t2 => hb.iv H2 (a.trans e2) _ fun H3 e3 => by
    cases t2 with
    | lst hs2 hall =>
      cases hs
      obtain ⟨w, hw, tw⟩ := hall.get hd
      exact .inl ⟨_, _, (i : Int), w, rfl, rfl, SqL.of (e3 _ _ hs2), atI_nat hw, q w H3 (e2.trans e3) (tw.ex e3)⟩
    | tup hs2 hall =>
      cases hs
      obtain ⟨w, hw, tw⟩ := hall.get hd
      exact .inr (.inl ⟨_, _, (i : Int), w, rfl, rfl, ex_t e3 hs2, atI_nat hw, q w H3 (e2.trans e3) (tw.ex e3)⟩)
    | _ => cases hs
theorem xd_len (ha : EvX K ta σ H d) (hs : seqD d = some ds) : EvD K (tCB (rLenS K) (tCons ta tNil)) σ H (.int (ds.length : Int)) := fun H1 a Q q =>
  ha H1 a _ fun v H2 e2 t2 => by
    cases t2 with
    | lst hs2 hall =>
      cases hs
      rw [← hall.length] at q
      exact ⟨_, _, rfl, .inl (SqL.of hs2), q _ H2 e2 (.int _)⟩
    | tup hs2 hall =>
      cases hs
      rw [← hall.length] at q
      exact ⟨_, _, rfl, .inr hs2, q _ H2 e2 (.int _)⟩
    | _ => cases hs
theorem xd_isi {b : Bool} {n : String} (ha : EvX K ta σ H d) (hk : kitB (tyD d) n = some b) : EvD K (tCB (rIsi K) (tCons ta (tCons (tC (.ty n)) tNil))) σ H (.bool b) := fun H1 a Q q =>
  ha H1 a _ fun v H2 e2 t2 => ⟨v, .ty n, _, _, b, rfl, .ty n, tyx_tl t2, kit_ty hk, q _ H2 e2 (.bl _)⟩
theorem xd_isi2 {b1 b2 : Bool} {n1 n2 : String} (ha : EvX K ta σ H d) (hk : kitB (tyD d) n1 = some b1) (hk2 : kitB (tyD d) n2 = some b2) : EvD K (tCB (rIsiT K) (tCons ta (tCons (tTup (tCons (tC (.ty n1)) (tCons (tC (.ty n2)) tNil))) tNil))) σ H (.bool (b1 || b2)) := fun H1 a Q q =>
  ha H1 a _ fun v H2 e2 t2 => ⟨by show 2 ≤ sizeLine; decide, fun p hp => ⟨v, p, [.ty n1, .ty n2], _, [.type n1, .type n2], b1 || b2, rfl, upd_same, .cons (.ty n1) (.cons (.ty n2) .nil), tyx_tl (t2.ex (Ex.new hp)),
    kitAny_cons (kit_ty hk) (fun e => by rw [e]; exact kitAny_cons (kit_ty hk2) (fun e => by rw [e]; exact kitAny_nil) (fun e => by rw [e]; rfl)) (fun e => by rw [e]; rfl), q _ _ (e2.trans (Ex.new hp)) (.bl _)⟩⟩
theorem xd_isN (ha : EvX K ta σ H d) : EvD K (tIsN ta) σ H (.bool (noneD d)) := fun H1 a Q q => ha H1 a _ fun v H2 e2 t2 => by
  have e : decide (v = .non) = noneD d := by cases t2 <;> simp [noneD]
  rw [e]
  exact q _ H2 e2 (.bl _)
theorem xd_eq {e : PyData} (ha : EvX K ta σ H d) (hb : EvX K tb σ H e) (sd : d.canLay0 = true) (se : e.canLay0 = true) (hm : min d.depth e.depth ≤ 64) : EvD K (tOp (rEqM K) ta tb) σ H (.bool (PyData.eqv d e)) := fun H1 a Q q =>
  ha H1 a _ fun v H2 e2 t2 => hb H2 (a.trans e2) _ fun w H3 e3 t3 => ⟨d, e, (t2.ex e3).dp, t3.dp, sd, se, hm, q _ H3 (e2.trans e3) (.bl _)⟩
end
/-- as the law's alike tells it -/
def alikeN : Nat → PyData → PyData → Bool
  | n + 1, .tuple fs, .tuple ds => decide (fs.length = ds.length) && (List.range ds.length).all fun i => alikeN n (fs.getD i .none) (ds.getD i .none)
  | n + 1, .list fs, .list ds => decide (fs.length = ds.length) && (List.range ds.length).all fun i => alikeN n (fs.getD i .none) (ds.getD i .none)
  | _, .none, .none => true
  | _, .bool a, .bool b => a == b
  | _, .str a, .str b => PyData.eqv (.str a) (.str b)
  | _, .int a, .int b => decide (a = b)
  | _, _, _ => false
def isTup : PyData → Bool
  | .tuple _ => true
  | _ => false
def isLst : PyData → Bool
  | .list _ => true
  | _ => false
def isBl : PyData → Bool
  | .bool _ => true
  | _ => false
def isSt : PyData → Bool
  | .str _ => true
  | _ => false
def isIn : PyData → Bool
  | .int _ => true
  | .bool _ => true
  | _ => false
theorem kit_tup (d : PyData) : kitB (tyD d) "tuple" = some (isTup d) := by
  cases d with
  | none => exact (by decide +kernel : kitB "NoneType" "tuple" = some false)
  | bool _ => exact (by decide +kernel : kitB "bool" "tuple" = some false)
  | int _ => exact (by decide +kernel : kitB "int" "tuple" = some false)
  | str _ => exact (by decide +kernel : kitB "str" "tuple" = some false)
  | list _ => exact (by decide +kernel : kitB "list" "tuple" = some false)
  | tuple _ => exact (by decide +kernel : kitB "tuple" "tuple" = some true)
  | dict _ => exact (by decide +kernel : kitB "dict" "tuple" = some false)
theorem kit_lst (d : PyData) : kitB (tyD d) "list" = some (isLst d) := by
  cases d with
  | none => exact (by decide +kernel : kitB "NoneType" "list" = some false)
  | bool _ => exact (by decide +kernel : kitB "bool" "list" = some false)
  | int _ => exact (by decide +kernel : kitB "int" "list" = some false)
  | str _ => exact (by decide +kernel : kitB "str" "list" = some false)
  | list _ => exact (by decide +kernel : kitB "list" "list" = some true)
  | tuple _ => exact (by decide +kernel : kitB "tuple" "list" = some false)
  | dict _ => exact (by decide +kernel : kitB "dict" "list" = some false)
theorem kit_bl (d : PyData) : kitB (tyD d) "bool" = some (isBl d) := by
  cases d with
  | none => exact (by decide +kernel : kitB "NoneType" "bool" = some false)
  | bool _ => exact (by decide +kernel : kitB "bool" "bool" = some true)
  | int _ => exact (by decide +kernel : kitB "int" "bool" = some false)
  | str _ => exact (by decide +kernel : kitB "str" "bool" = some false)
  | list _ => exact (by decide +kernel : kitB "list" "bool" = some false)
  | tuple _ => exact (by decide +kernel : kitB "tuple" "bool" = some false)
  | dict _ => exact (by decide +kernel : kitB "dict" "bool" = some false)
theorem kit_st (d : PyData) : kitB (tyD d) "str" = some (isSt d) := by
  cases d with
  | none => exact (by decide +kernel : kitB "NoneType" "str" = some false)
  | bool _ => exact (by decide +kernel : kitB "bool" "str" = some false)
  | int _ => exact (by decide +kernel : kitB "int" "str" = some false)
  | str _ => exact (by decide +kernel : kitB "str" "str" = some true)
  | list _ => exact (by decide +kernel : kitB "list" "str" = some false)
  | tuple _ => exact (by decide +kernel : kitB "tuple" "str" = some false)
  | dict _ => exact (by decide +kernel : kitB "dict" "str" = some false)
theorem kit_in (d : PyData) : kitB (tyD d) "int" = some (isIn d) := by
  cases d with
  | none => exact (by decide +kernel : kitB "NoneType" "int" = some false)
  | bool _ => exact (by decide +kernel : kitB "bool" "int" = some true)
  | int _ => exact (by decide +kernel : kitB "int" "int" = some true)
  | str _ => exact (by decide +kernel : kitB "str" "int" = some false)
  | list _ => exact (by decide +kernel : kitB "list" "int" = some false)
  | tuple _ => exact (by decide +kernel : kitB "tuple" "int" = some false)
  | dict _ => exact (by decide +kernel : kitB "dict" "int" = some false)
/-- no deeper than n, no longer than that -/
def okD : Nat → PyData → Bool
  | n + 1, .tuple ds => decide (ds.length ≤ 30000) && ds.all (okD n)
  | n + 1, .list ds => decide (ds.length ≤ 30000) && ds.all (okD n)
  | 0, .tuple _ => false
  | 0, .list _ => false
  | _, .dict _ => false
  | _, _ => true
def spAl (K : PySem.W.Frag) (n : Nat) : Sp := fun vs H Q _ => ∃ x y f d, vs = [x, y] ∧ Tl K H x f ∧ Tl K H y d ∧ f.canLay0 = true ∧ d.canLay0 = true ∧ okD n d = true ∧ ∀ H', Ex H H' → Q (.bl (alikeN (n + 1) f d)) H'
theorem lay_get {ds : List PyData} {i : Nat} {d : PyData} (h : PyData.canLayAll0 ds = true) (e : ds[i]? = some d) : d.canLay0 = true := by
  induction ds generalizing i with
  | nil => simp at e
  | cons x r ih =>
    simp only [PyData.canLayAll0, Bool.and_eq_true] at h
    cases i with
    | zero => simp at e; rw [← e]; exact h.1
    | succ i => simp at e; exact ih h.2 e
theorem lay_seq {d : PyData} {ds : List PyData} (h : d.canLay0 = true) (hs : seqD d = some ds) : PyData.canLayAll0 ds = true := by
  cases d <;> cases hs <;> simpa [PyData.canLay0] using h
theorem ed_eqB {K : PySem.W.Frag} {σ : L2.St} {H : Hp} {ta tb : TE} {a b : Bool} (ha : EvD K ta σ H (.bool a)) (hb : EvD K tb σ H (.bool b)) : EvD K (tOp (rEqM K) ta tb) σ H (.bool (a == b)) :=
  ed_is (ed_eqM ha hb rfl rfl (by simp [PyData.depth])) (by simp [PyData.eqv])
theorem ed_neB {K : PySem.W.Frag} {σ : L2.St} {H : Hp} {ta tb : TE} {a b : Bool} (ha : EvD K ta σ H (.bool a)) (hb : EvD K tb σ H (.bool b)) : EvD K (tOp (rNeM K) ta tb) σ H (.bool (a != b)) :=
  ed_is (ed_neM ha hb rfl rfl (by simp [PyData.depth])) (by simp [PyData.eqv, bne])
section
variable {P : Program} {w : World} {K : PySem.W.Frag} {mg : Str → Option Value} {base : Heap} (T : Tx K mg)
include T
theorem al_step {n : Nat} (spI : Sp) (hspI : 0 < n → spI = spAl K (n - 1)) (G_I : Fn__law_alike T P w base CX0 n spI) : Fn__law_alike T P w base CX0 (n + 1) (spAl K n) := by
  have G__law_alike := G_I
  refine T.F__law_alike.ok sc__law_alike (fun vs H Q E h => by obtain ⟨x, y, f, d, rfl, _⟩ := h; rfl) fun cdv A outer s0 H vs Q E hr h => ?_
  obtain ⟨x, y, f, d, rfl, tx, ty, lf, ld, hok, k⟩ := h
  refine ⟨_, (pss_cons (ps_if (PW.pt (pw_or (pt_val (pe_callB (kc_isi K) rfl T.b_isinstance (by decide +kernel) (pa_cons (pv 1) (pa_cons (pe_bltn (v := .ty "tuple") rfl T.b_tuple (by decide +kernel) rfl) pa_nil)))) (pw_or1 (pt_val (pe_callB (kc_isi K) rfl T.b_isinstance (by decide +kernel) (pa_cons (pv 1) (pa_cons (pe_bltn (v := .ty "list") rfl T.b_list (by decide +kernel) rfl) pa_nil)))))))
    (pss_cons (ps_if (PW.pt (pw_or (pt_cmpR (kop_ne K hr.units) (pe_callB (kc_isi K) rfl T.b_isinstance (by decide +kernel) (pa_cons (pv 0) (pa_cons (pe_bltn (v := .ty "tuple") rfl T.b_tuple (by decide +kernel) rfl) pa_nil))) (pe_callB (kc_isi K) rfl T.b_isinstance (by decide +kernel) (pa_cons (pv 1) (pa_cons (pe_bltn (v := .ty "tuple") rfl T.b_tuple (by decide +kernel) rfl) pa_nil))) (nomark _)) (pw_or1 (pt_not (pt_val (pe_callB (kc_isiT K) rfl T.b_isinstance (by decide +kernel) (pa_cons (pv 0) (pa_cons (pe_tup (pa_cons (pe_bltn (v := .ty "tuple") rfl T.b_tuple (by decide +kernel) rfl) (pa_cons (pe_bltn (v := .ty "list") rfl T.b_list (by decide +kernel) rfl) pa_nil))) pa_nil))))))))
      (pss_one (ps_ret pe_bl))
      pss_nil)
    (pss_cons (ps_if (pt_cmpR op_ne (pe_callB (kc_len K) rfl T.b_len PySem.boot_len (pa_cons (pv 0) pa_nil)) (pe_callB (kc_len K) rfl T.b_len PySem.boot_len (pa_cons (pv 1) pa_nil)) (nomark _))
      (pss_one (ps_ret pe_bl))
      pss_nil)
    (pss_one (ps_ret (pe_cmpR (kop_eq K hr.units) (pe_lc (own := [("_law_k", 2)]) (g := gName 2) (tt := _) rfl sc__law_alike.nd (pi_range1 rfl T.b_range (pa_cons (pe_callB (kc_len K) rfl T.b_len PySem.boot_len (pa_cons (pv 1) pa_nil)) pa_nil)) (blkOk_by (N := ["_law_found", "_law_due", "_law_k"]) (sc := defScope s__law_alike) (by decide +kernel)) (fun _ _ _ _ _ => (pg_name (i := 2) sc__law_alike.nd rfl (Or.inl rfl))) (fun _ _ _ _ _ => (pts_one (pt_not (pt_val (pe_call G__law_alike (hr.mono (by omega)) (by rfl) T.g__law_alike T.k__law_alike T.bd__law_alike .nil pass0 (pa_cons (pe_ix (kix_seq K) (pv 0) (pv 2) (fun _ _ => rfl)) (pa_cons (pe_ix (kix_seq K) (pv 1) (pv 2) (fun _ _ => rfl)) pa_nil))))))) (fun _ _ _ _ _ => (pv 2))) (pe_lst pa_nil) (nomark _))))))
    pss_nil)
  (pss_cons (ps_if (PW.pt (pw_or (pt_cmp (pc_isN (pv 1)) rfl) (pw_or1 (pt_cmp (pc_isN (pv 0)) rfl))))
    (pss_one (ps_ret (pe_and (pe_cmp (pc_isN (pv 1)) rfl) (pe_one (pe_cmp (pc_isN (pv 0)) rfl)))))
    pss_nil)
  (pss_cons (ps_if (PW.pt (pw_or (pt_val (pe_callB (kc_isi K) rfl T.b_isinstance (by decide +kernel) (pa_cons (pv 1) (pa_cons (pe_bltn (v := .ty "bool") rfl T.b_bool (by decide +kernel) rfl) pa_nil)))) (pw_or1 (pt_val (pe_callB (kc_isi K) rfl T.b_isinstance (by decide +kernel) (pa_cons (pv 0) (pa_cons (pe_bltn (v := .ty "bool") rfl T.b_bool (by decide +kernel) rfl) pa_nil)))))))
    (pss_one (ps_ret (pe_and (pe_callB (kc_isi K) rfl T.b_isinstance (by decide +kernel) (pa_cons (pv 1) (pa_cons (pe_bltn (v := .ty "bool") rfl T.b_bool (by decide +kernel) rfl) pa_nil))) (pe_and (pe_callB (kc_isi K) rfl T.b_isinstance (by decide +kernel) (pa_cons (pv 0) (pa_cons (pe_bltn (v := .ty "bool") rfl T.b_bool (by decide +kernel) rfl) pa_nil))) (pe_one (pe_cmpR (kop_eq K hr.units) (pv 0) (pv 1) (nomark _)))))))
    pss_nil)
  (pss_cons (ps_if (pt_val (pe_callB (kc_isi K) rfl T.b_isinstance (by decide +kernel) (pa_cons (pv 1) (pa_cons (pe_bltn (v := .ty "str") rfl T.b_str (by decide +kernel) rfl) pa_nil))))
    (pss_one (ps_ret (pe_and (pe_callB (kc_isi K) rfl T.b_isinstance (by decide +kernel) (pa_cons (pv 0) (pa_cons (pe_bltn (v := .ty "str") rfl T.b_str (by decide +kernel) rfl) pa_nil))) (pe_one (pe_cmpR (kop_eq K hr.units) (pv 0) (pv 1) (nomark _))))))
    pss_nil)
  (pss_one (ps_ret (pe_and (pe_callB (kc_isi K) rfl T.b_isinstance (by decide +kernel) (pa_cons (pv 0) (pa_cons (pe_bltn (v := .ty "int") rfl T.b_int (by decide +kernel) rfl) pa_nil))) (pe_one (pe_cmpR (kop_eq K hr.units) (pv 0) (pv 1) (nomark _)))))))))), ?_⟩
  have X0 : EvX K (tVar 0) (L2.start ["_law_found", "_law_due", "_law_k"] [x, y]) H f := xd_var rfl tx
  have X1 : EvX K (tVar 1) (L2.start ["_law_found", "_law_due", "_law_k"] [x, y]) H d := xd_var rfl ty
  refine Pst.go (K := K) ?_
  refine pst_when (b := isTup d || isLst d) ?_ (fun hb => ?_) fun hb => ?_
  · exact tk_or (tk_vB (xd_isi X1 (kit_tup d))) fun _ => tk_vB (xd_isi X1 (kit_lst d))
  · refine pst_when (b := (isTup f != isTup d) || !(isTup f || isLst f)) ?_ (fun h1 => ?_) fun h1 => ?_
    · refine tk_or (tk_v (ed_neB (xd_isi X0 (kit_tup f)) (xd_isi X1 (kit_tup d)))) fun _ => tk_not (tk_vB (xd_isi2 X0 (kit_tup f) (kit_lst f)))
    · refine pst_ret (d := .bool false) ed_cb fun v H1 e1 t1 => ?_
      cases t1
      have e : alikeN (n + 1) f d = false := by cases f <;> cases d <;> simp_all [alikeN, isTup, isLst]
      rw [← e]
      exact k H1 e1
    obtain ⟨fs, hfs⟩ : ∃ fs, seqD f = some fs := by cases f <;> simp_all [seqD, isTup, isLst]
    obtain ⟨ds, hds⟩ : ∃ ds, seqD d = some ds := by cases d <;> simp_all [seqD, isTup, isLst]
    refine pst_when (b := !decide ((fs.length : Int) = (ds.length : Int))) ?_ (fun h2 => ?_) fun h2 => ?_
    · exact tk_v (ed_nei (xd_len X0 hfs) (xd_len X1 hds))
    · refine pst_ret (d := .bool false) ed_cb fun v H1 e1 t1 => ?_
      cases t1
      have e : alikeN (n + 1) f d = false := by
        simp at h2
        cases f <;> cases d <;> simp_all [alikeN, isTup, isLst, seqD] <;> omega
      rw [← e]
      exact k H1 e1
    have hlen : fs.length = ds.length := by
      simp at h2
      omega
    obtain ⟨m, rfl⟩ : ∃ m, n = m + 1 := ⟨n - 1, by cases n <;> cases d <;> simp_all [okD, isTup, isLst]⟩
    rw [hspI (by omega)]
    have em : m + 1 - 1 = m := by omega
    rw [em]
    have hds2 : ds.length ≤ 30000 ∧ ds.all (okD m) = true := by cases d <;> simp_all [okD, seqD]
    have hall : alikeN (m + 2) f d = (List.range ds.length).all fun i => alikeN (m + 1) (fs.getD i .none) (ds.getD i .none) := by
      cases f <;> cases d <;> simp_all [alikeN, seqD, isTup, isLst]
    refine pst_ret (d := .bool ((((List.range ds.length).filter fun i => !alikeN (m + 1) (fs.getD i .none) (ds.getD i .none)).map fun i => PyData.int ((i : Nat) : Int)).isEmpty)) ?_ fun v H1 e1 t1 => ?_
    · refine ed_eqN (EvDL.rd (edl_lcR (n := ds.length) (fun i => !alikeN (m + 1) (fs.getD i .none) (ds.getD i .none)) (fun i => PyData.int ((i : Nat) : Int)) ?_ (by omega) (fun _ => rfl) (fun i H1 e1 hi => ?_) fun i H1 e1 hi _ => ?_)) (edl_lst eda_nil (by simp)) ?_
      · exact eda_cons (xd_len X1 hds) eda_nil
      · have hfi : fs[i]? = some (fs.getD i .none) := by rw [List.getD, List.getElem?_eq_getElem (by omega : i < fs.length)] <;> rfl
        have hdi : ds[i]? = some (ds.getD i .none) := by rw [List.getD, List.getElem?_eq_getElem hi] <;> rfl
        refine tk_not (tk_vB fun H2 e2 Q q => ?_)
        refine w_call (w_cons ?_)
        refine xd_ix (xd_var rfl (Tl.ex e1 _ tx)) hfs (ed_var rfl (.int (i : Int))) hfi H2 e2 _ fun v H3 e3 t3 => ?_
        refine w_cons ?_
        refine xd_ix (xd_var rfl (Tl.ex e1 _ ty)) hds (ed_var rfl (.int (i : Int))) hdi H3 (e2.trans e3) _ fun v2 H4 e4 t4 => ?_
        refine w_nil ⟨v, v2, _, _, rfl, Tl.ex e4 _ t3, t4, lay_get (lay_seq lf hfs) hfi, lay_get (lay_seq ld hds) hdi, List.all_eq_true.mp hds2.2 _ (List.mem_of_getElem? hdi), fun H5 e5 => q _ _ ((e3.trans e4).trans e5) (.bl _)⟩
      · exact ed_var rfl (.int (i : Int))
      · have : ∀ l : List Nat, PyData.canLayAll0 (l.map fun i => PyData.int ((i : Nat) : Int)) = true := by
          intro l
          induction l with
          | nil => rfl
          | cons a r ih => simp only [List.map_cons, PyData.canLayAll0, ih, Bool.and_true]; rfl
        exact this _
    · cases t1
      have e : (((List.range ds.length).filter fun i => !alikeN (m + 1) (fs.getD i .none) (ds.getD i .none)).map fun i => PyData.int ((i : Nat) : Int)).isEmpty = alikeN (m + 2) f d := by
        rw [hall, ← filter_not_isEmpty]
        cases (List.filter (fun i => !alikeN (m + 1) (fs.getD i .none) (ds.getD i .none)) (List.range ds.length)) <;> rfl
      rw [e]
      exact k H1 e1
  refine pst_when (b := noneD d || noneD f) ?_ (fun h1 => ?_) fun h1 => ?_
  · exact tk_or (tk_vB (xd_isN X1)) fun _ => tk_vB (xd_isN X0)
  · refine pst_ret (d := .bool (noneD d && noneD f)) (ed_andV (xd_isN X1) fun _ => xd_isN X0) fun v H1 e1 t1 => ?_
    cases t1
    have e : alikeN (n + 1) f d = (noneD d && noneD f) := by cases f <;> cases d <;> simp_all [alikeN, noneD, isTup, isLst]
    rw [← e]
    exact k H1 e1
  refine pst_when (b := isBl d || isBl f) ?_ (fun h2 => ?_) fun h2 => ?_
  · exact tk_or (tk_vB (xd_isi X1 (kit_bl d))) fun _ => tk_vB (xd_isi X0 (kit_bl f))
  · refine pst_ret (d := .bool (isBl d && (isBl f && PyData.eqv f d))) (ed_andV (xd_isi X1 (kit_bl d)) fun _ => ed_andV (xd_isi X0 (kit_bl f)) fun hf => xd_eq X0 X1 lf ld ?_) fun v H1 e1 t1 => ?_
    · cases f <;> simp_all [isBl, PyData.depth]
    cases t1
    have e : alikeN (n + 1) f d = (isBl d && (isBl f && PyData.eqv f d)) := by cases f <;> cases d <;> simp_all [alikeN, noneD, isTup, isLst, isBl, PyData.eqv]
    rw [← e]
    exact k H1 e1
  refine pst_when (b := isSt d) ?_ (fun h3 => ?_) fun h3 => ?_
  · exact tk_vB (xd_isi X1 (kit_st d))
  · refine pst_ret (d := .bool (isSt f && PyData.eqv f d)) (ed_andV (xd_isi X0 (kit_st f)) fun hf => xd_eq X0 X1 lf ld ?_) fun v H1 e1 t1 => ?_
    · cases f <;> simp_all [isSt, PyData.depth]
    cases t1
    have e : alikeN (n + 1) f d = (isSt f && PyData.eqv f d) := by cases f <;> cases d <;> simp_all [alikeN, noneD, isTup, isLst, isBl, isSt]
    rw [← e]
    exact k H1 e1
  · refine pst_ret (d := .bool (isIn f && PyData.eqv f d)) (ed_andV (xd_isi X0 (kit_in f)) fun hf => xd_eq X0 X1 lf ld ?_) fun v H1 e1 t1 => ?_
    · cases f <;> simp_all [isIn, PyData.depth]
    cases t1
    have e : alikeN (n + 1) f d = (isIn f && PyData.eqv f d) := by cases f <;> cases d <;> simp_all [alikeN, noneD, isTup, isLst, isBl, isSt, isIn, PyData.eqv, okD] <;> (first | rfl | exact (beq_eq_decide _ _).symm)
    rw [← e]
    exact k H1 e1
theorem ok_alike : ∀ n : Nat, Fn__law_alike T P w base CX0 (n + 1) (spAl K n)
  | 0 => al_step T (fun _ _ _ _ => False) (fun h => absurd h (Nat.lt_irrefl _)) (fn_vac fun _ _ _ _ h => h)
  | n + 1 => al_step T (spAl K n) (fun _ => rfl) (ok_alike n)
end
theorem alike_self : ∀ (n : Nat) (d : PyData), okD n d = true → alikeN (n + 1) d d = true
  | n, .none, _ => by simp [alikeN]
  | n, .bool b, _ => by simp [alikeN]
  | n, .int i, _ => by simp [alikeN]
  | n, .str x, _ => by simp [alikeN]
  | 0, .list ds, h => by simp [okD] at h
  | 0, .tuple ds, h => by simp [okD] at h
  | n, .dict _, h => by cases n <;> simp [okD] at h
  | n + 1, .list ds, h => by
    simp only [okD, Bool.and_eq_true, decide_eq_true_eq, List.all_eq_true] at h
    simp only [alikeN, decide_true, Bool.true_and, List.all_eq_true, List.mem_range]
    intro i hi
    have e : ds.getD i .none = ds[i] := by simp [List.getD, hi]
    rw [e]
    exact alike_self n _ (h.2 _ (List.getElem_mem hi))
  | n + 1, .tuple ds, h => by
    simp only [okD, Bool.and_eq_true, decide_eq_true_eq, List.all_eq_true] at h
    simp only [alikeN, decide_true, Bool.true_and, List.all_eq_true, List.mem_range]
    intro i hi
    have e : ds.getD i .none = ds[i] := by simp [List.getD, hi]
    rw [e]
    exact alike_self n _ (h.2 _ (List.getElem_mem hi))
end Hw

set_option maxRecDepth 100000
set_option maxHeartbeats 4000000
/-! PG6: drawn ways -/
namespace Hw
open PySem PySem.Spec PyProof.Rows L2 Evl
local macro_rules | `(tactic| walk_at "dd") => `(tactic| first | rfl | decide | (simp; done) | omega)
local macro_rules | `(tactic| walk_at "td") => `(tactic| first | assumption | exact Td.int _ | exact Td.bl _ | exact Td.str _ | exact Td.non | exact Td.tup (by assumption) (by assumption))
local macro_rules | `(tactic| walk_at "ev") => `(tactic| first
  | exact ed_ci | exact ed_cs | exact ed_cb | exact ed_cn
  | (apply ed_cg; assumption)
  | (apply ed_var; (rfl); (walk_at "td"))
  | (apply ed_ixT; (walk_at "ev"); (walk_at "ev"); (first | rfl | assumption))
  | (apply ed_rowI; (rfl); (assumption); (walk_at "ev"); (rfl))
  | (apply ed_ixL; (apply EvDL.rd; walk_at "edl"); (walk_at "ev"); (rfl))
  | (apply ed_intb; (walk_at "ev"))
  | (apply ed_len; walk_at "ev")
  | (apply ed_lenV; (apply ev_rowR; (rfl); (assumption); (walk_at "ev"); (rfl)); (assumption))
  | (apply ed_Ii; (walk_at "ev"); (walk_at "ev"); (walk_at "cc"))
  | (apply ed_isi; (walk_at "ev"); (rfl))
  | (apply ed_I0i; (walk_at "ev"); (walk_at "ev"))
  | (apply ed_I0b; (walk_at "ev"); (walk_at "ev"))
  | (apply ed_eqi; (walk_at "ev"); (walk_at "ev"))
  | (apply ed_nei; (walk_at "ev"); (walk_at "ev"))
  | (apply ed_andF; walk_at "ev")
  | (apply ed_andV; (walk_at "ev"); (intro _; walk_at "ev"))
  | (apply ed_orT; walk_at "ev")
  | (apply ed_orV; (walk_at "ev"); (intro _; walk_at "ev"))
  | (apply ed_notT; walk_at "ev")
  | (apply ed_notF; walk_at "ev")
  | (apply ed_notV; walk_at "ev")
  | (apply ed_chain; (walk_at "ev"); (walk_at "ev"); (intro _; walk_at "ev"))
  | (apply ed_eqS; (walk_at "ev"); (walk_at "ev"); (walk_at "bb"); (walk_at "bb"))
  | (apply ed_neS; (walk_at "ev"); (walk_at "ev"); (walk_at "bb"); (walk_at "bb"))
  | (apply ed_inT; (walk_at "ev"); (walk_at "ev"); (rfl); (rfl))
  | (apply ed_niT; (walk_at "ev"); (walk_at "ev"); (rfl); (rfl))
  | (apply ed_tup; (walk_at "eva"); (walk_at "bb"))
  | (apply ed_sl; (walk_at "ev"); (walk_at "evo"); (walk_at "evo"))
  | (apply ed_eqN; (apply EvDL.rd; walk_at "edl"); (walk_at "edl"); (walk_at "bb"))
  | (apply ed_neN; (apply EvDL.rd; walk_at "edl"); (walk_at "edl"); (walk_at "bb"))
  | (apply ed_ixL; (apply edr_var; (rfl); (assumption); (assumption)); (walk_at "ev"); (first | rfl | assumption))
  | (apply ed_lenL; (apply edr_var; (rfl); (assumption); (assumption)))
  | (apply ed_call; (walk_at "eva"); (walk_at "post")))
local macro_rules | `(tactic| walk_at "edl") => `(tactic| first
  | assumption
  | (apply edl_lst; (walk_at "eva"); (walk_at "bb")))
local macro_rules | `(tactic| walk_at "eva") => `(tactic| first
  | exact eda_nil
  | (apply eda_cons; (walk_at "ev"); (walk_at "eva")))
local macro_rules | `(tactic| walk_at "evo") => `(tactic| first
  | exact eok_none
  | (apply eok_some; walk_at "ev"))
local macro_rules | `(tactic| walk_at "bb") => `(tactic| first | rfl | assumption | (simp; done) | (simp; omega) | decide +kernel)
local macro_rules | `(tactic| walk_at "et") => `(tactic| first
  | exact tk_yes
  | (apply tk_andF; walk_at "et")
  | (apply tk_and; (walk_at "et"); (intro _; walk_at "et"))
  | (apply tk_orT; walk_at "et")
  | (apply tk_or; (walk_at "et"); (intro _; walk_at "et"))
  | (apply tk_notT; walk_at "et")
  | (apply tk_notF; walk_at "et")
  | (apply tk_not; walk_at "et")
  | (apply tk_v; walk_at "ev")
  | (apply tk_vB; walk_at "ev"))
local macro_rules | `(tactic| walk_at "if") => `(tactic| first
  | (apply pst_whenF; (walk_at "et"); (walk_at "bb"))
  | (apply pst_whenT; (walk_at "et"); (walk_at "bb")))
local macro_rules | `(tactic| walk_at "post") => `(tactic| first | assumption | exact ⟨_, _, rfl, rfl⟩ | exact ⟨_, _, _, _, rfl, by omega, by omega, rfl⟩ | exact ⟨_, _, _, 0, rfl, by omega, by omega, rfl⟩)
local macro_rules | `(tactic| walk_at "cc") => `(tactic| first | assumption | decide | omega | (refine ⟨?_, ?_⟩ <;> first | decide | omega) | (exact Or.inl (by constructor <;> omega)))

section
variable {K : PySem.W.Frag} {σ : L2.St} {H H' : Hp} {D : Ends} {tu tz : TS} {ta : TA} {te tl : TE} {Q : VK} {r s p : Addr} {ns : List Int}
/-- for a, b, c in a tuple of threes -/
theorem w_forT3 {α : Type} {n j l m : Nat} {v : V} (xs : List α) (f1 f2 f3 : α → PyData) (hv : σ[n]? = some (some v)) (h : Td K H v (.tuple (xs.map fun x => .tuple [f1 x, f2 x, f3 x]))) (Pv : Nat → L2.St → Hp → Prop) (h0 : Pv 0 σ H) (hk : ∀ i σ' H', Pv i σ' H' → Keep K H H')
    (hs : ∀ i x v1 v2 v3 σ' H', xs[i]? = some x → Td K H' v1 (f1 x) → Td K H' v2 (f2 x) → Td K H' v3 (f3 x) → Pv i σ' H' → tu { D with nx := Pv (i + 1), ct := Pv (i + 1), bk := D.nx } (((σ'.set j (some v1)).set l (some v2)).set m (some v3)) H')
    (hd : ∀ σ' H', Pv xs.length σ' H' → D.nx σ' H') : tFor (iTup K (tVar n)) (gTup K 3 (gCons (gName j) (gCons (gName l) (gCons (gName m) gNil)))) tu D σ H := by
  refine ⟨v, hv, ?_⟩
  obtain ⟨a, ys, rfl, hx, hall⟩ := h.tup_inv
  have hlen := hall.length
  rw [List.length_map] at hlen
  refine ⟨a, rfl, ⟨ys, hx⟩, for_tup Pv h0 (fun i σ' H' _ p => hk i σ' H' p a ys hx) (fun i x σ' H' hi p => ?_) (fun σ' H' p => hd σ' H' (by rw [← hlen]; exact p))⟩
  obtain ⟨d, hdd, td⟩ := hall.getV hi
  rw [List.getElem?_map] at hdd
  obtain ⟨z, hz, rfl⟩ := Option.map_eq_some_iff.mp hdd
  obtain ⟨q, zs, rfl, hq, hqa⟩ := (td.kp (hk i σ' H' p)).tup_inv
  obtain _ | ⟨u1, _ | ⟨u2, _ | ⟨u3, _ | _⟩⟩⟩ := hqa
  exact ⟨q, _, rfl, hq, rfl, _, _, rfl, _, _, rfl, _, _, rfl, rfl, hs i z _ _ _ σ' H' hz u1 u2 u3 p⟩
end
/-- the list of words stands at so -/
def WdsAt (K : PySem.W.Frag) (so : Addr) (some_ : List Str) (H : Hp) : Prop := H so = some (.lst (some_.map V.str))
def goY (p : List Wk) (some_ : List Str) (ys : List (List Str)) : Prop := ys.length = p.length ∧ ∀ i y, ys[i]? = some y → y.length = shP (shapes p) i ∧ ∀ z ∈ y, z ∈ some_
def spWays (K : PySem.W.Frag) : Sp := fun vs H Q _ => ∃ (r s so : Addr) (ns : List Int) (v : V) (p : List Wk) (sm : List Str), vs = [.ref r, v, .ref so] ∧ RowAt K s ns H r ∧ ns.length ≤ 63 ∧ Td K H v (encP p) ∧ WdsAt K so sm H ∧ so ≠ r ∧ 0 < sm.length ∧ sm.length ≤ 1000 ∧ p.length ≤ 1000 ∧ (∀ w ∈ p, w.params ≤ 1000) ∧
  ∀ ys x H', goY p sm ys → Fr [r] H H' → RowAt K s ns H' r → Td K H' x (encY ys) → Q x H'
section
variable {P : Program} {w : World} {K : PySem.W.Frag} {mg : Str → Option Value} {base : Heap} (T : Tx K mg)
include T
theorem ok_ways (GT : Fn__law_taken T P w base CX0 1 (spTaken K)) : Fn__law_ways T P w base CX0 2 (spWays K) := by
  have G__law_taken := GT
  refine T.F__law_ways.ok sc__law_ways (fun vs H Q E h => by obtain ⟨r, s, so, ns, v, p, sm, rfl, _⟩ := h; rfl) fun cdv A outer s0 H vs Q E hr h => ?_
  obtain ⟨r, s, so, ns, v, p, sm, rfl, hR, hn, tp, hso, hne, hs0, hs1, hpl, hpp, k⟩ := h
  refine ⟨_, (pss_cons (ps_set (i := 3) sc__law_ways.nd rfl (Or.inl rfl) (pe_lst pa_nil))
  (pss_cons (ps_for (passes_of rfl) rfl (kpi_tup K (pv 1)) (kpg_tup K rfl (pgs_cons (pg_name (i := 4) sc__law_ways.nd rfl (Or.inl rfl)) (pgs_cons (pg_name (i := 5) sc__law_ways.nd rfl (Or.inl rfl)) (pgs_cons (pg_name (i := 6) sc__law_ways.nd rfl (Or.inl rfl)) pgs_nil))))
    (pss_one (ps_expr (pe_bm PySem.F.plainAttrs_list PySem.F.slot_list_append PySem.F.type_list_append mt_append (pv 3) (pa_cons (pe_callTy (kc_tuple K) rfl T.b_tuple (by decide +kernel) (pa_cons (pe_lc (own := [("_law_k", 7)]) (g := gName 7) (tt := tYes) rfl sc__law_ways.nd (pi_range1 rfl T.b_range (pa_cons (pv 4) pa_nil)) (blkOk_by (N := ["_law_row", "_law_program_here", "_law_some", "_law_found", "_law_params", "_law_owns", "_law_body_here", "_law_k"]) (sc := defScope s__law_ways) (by decide +kernel)) (fun _ _ _ _ _ => (pg_name (i := 7) sc__law_ways.nd rfl (Or.inl rfl))) (fun _ _ _ _ _ => pts_nil) (fun _ _ _ _ _ => (pe_ix (kix_list K) (pv 2) (pe_call G__law_taken (hr.mono (by omega)) (by rfl) T.g__law_taken T.k__law_taken T.bd__law_taken .nil pass0 (pa_cons (pv 0) (pa_cons (pe_callB (kc_len K) rfl T.b_len PySem.boot_len (pa_cons (pv 2) pa_nil)) pa_nil))) (fun _ _ => rfl)))) pa_nil)) pa_nil)))))
  (pss_one (ps_ret (pe_callTy (kc_tuple K) rfl T.b_tuple (by decide +kernel) (pa_cons (pv 3) pa_nil)))))), ?_⟩
  refine Pst.go (K := K) ?_
  refine pst_asgL (edl_lst eda_nil (by simp)) fun fl xs0 H1 hfl e1 hx1 ht1 => ?_
  cases ht1
  have offf := hR.off hfl
  have hsf : so ≠ fl := by
    intro e
    rw [WdsAt, e, hfl] at hso
    cases hso
  refine pst_of fun H2 e2 => ?_
  have tp2 := tp.ex (e1.trans e2)
  refine w_seq (w_forT3 (K := K) p (fun w => .int (w.params : Int)) (fun w => .int (w.owns : Int)) (fun w => .tuple (encB w.body)) rfl tp2 (fun i σ' H' => ∃ (ys : List (List Str)) (xs : List V) (u4 u5 u6 : Option V), σ' = [some (.ref r), some v, some (.ref so), some (.ref fl), u4, u5, u6, none] ∧ H' fl = some (.lst xs) ∧ TdAll K H' xs (ys.map fun y => .tuple (y.map PyData.str)) ∧ ys.length = i ∧ (∀ j y, ys[j]? = some y → y.length = shP (shapes p) j ∧ ∀ z ∈ y, z ∈ sm) ∧ Fr [fl, r] H2 H' ∧ RowAt K s ns H' r) ?_ ?_ ?_ ?_)
  · exact ⟨[], [], _, _, _, rfl, e2 _ _ hx1, .nil, rfl, by simp, Fr.refl, (hR.ex e1).ex e2⟩
  · rintro i σ' H' ⟨ys, xs, u4, u5, u6, rfl, hxs, hall, hlen, hys, hf, hR'⟩
    refine hf.keep fun a ha => ?_
    rcases List.mem_cons.mp ha with e | ha
    · rw [e]; exact ⟨_, e2 _ _ hx1, True.intro⟩
    · have e : a = r := by simpa using ha
      rw [e]
      exact ((hR.ex e1).ex e2).mu
  · rintro i wk v1 v2 v3 σ' H' hwk t1 t2 t3 ⟨ys, xs, u4, u5, u6, rfl, hxs, hall, hlen, hys, hf, hR'⟩
    have hwp := hpp wk (List.mem_of_getElem? hwk)
    have hil : i < p.length := (List.getElem?_eq_some_iff.mp hwk).1
    have epp : shP (shapes p) i = wk.params := by simp [shP, shapes, List.getD, hwk]
    have hwd : WdsAt K so sm H' := hf _ _ (by simp [hsf, hne]) (e2 _ _ (e1 _ _ hso))
    dsimp only
    refine w_app rfl hxs (w_tupl (w_lcR (K := K) (n := wk.params) ?_ (by omega) (fun _ => rfl) (fun q j H14 => H' q = none ∧ ∃ (y : List Str), H14 q = some (.lst (y.map V.str)) ∧ y.length = j ∧ (∀ z ∈ y, z ∈ sm) ∧ Fr [q, r] H' H14 ∧ RowAt K s ns H14 r) ?_ ?_ ?_))
    · exact eda_cons (ed_var rfl t1) eda_nil
    · intro H14 q e14 hq
      exact ⟨fresh_back e14 hq, [], upd_same, rfl, by simp, Fr.of (e14.trans (Ex.new hq)), hR'.ex (e14.trans (Ex.new hq))⟩
    · rintro q j H14 hj ⟨hq0, y, hx, hl, hg, hf14, R14⟩
      have off := hR'.off hq0
      have hqs : so ≠ q := by
        intro e
        rw [WdsAt, e, hq0] at hwd
        cases hwd
      have hwd14 : H14 so = some (.lst (sm.map V.str)) := hf14 _ _ (by simp [hqs, hne]) hwd
      refine w_op (w_v rfl (w_taken rfl R14 hn (m := (sm.length : Int)) ?_ (by omega) (by omega) fun kk H15 hkk f15 R15 => ?_))
      · apply ed_is
        · exact ed_lenV (ev_var rfl) (SqL.of hwd14)
        · simp
      have hkk2 : kk < sm.length := by omega
      have hx15 := f15 q _ (by simpa using off.1) hx
      refine ⟨so, _, (kk : Int), .str sm[kk], rfl, rfl, SqL.of (f15 _ _ (by simpa using hne) hwd14), atI_nat (by rw [List.getElem?_map, List.getElem?_eq_getElem hkk2] <;> rfl), ?_⟩
      refine ⟨_, hx15, by simp; exact sz_lt (by omega), hq0, y ++ [sm[kk]], by simp [upd_same], by simp [hl], ?_, (hf14.trans (f15.sub (by simp))).trans (Fr.upd (by simp)), R15.updo off⟩
      intro z hz
      rcases List.mem_append.mp hz with hz | hz
      · exact hg z hz
      · have : z = sm[kk] := by simpa using hz
        rw [this]
        exact List.getElem_mem hkk2
    · rintro q H14 ⟨hq0, y, hx, hl, hg, hf14, R14⟩
      refine tupl_go hx fun l hl2 => ?_
      have f14 : Fr [r] H' H14 := Fr.fresh hf14 hq0
      have e15 : Ex H14 (upd H14 l (.tup (y.map V.str))) := Ex.new hl2
      have t15 : Td K (upd H14 l (.tup (y.map V.str))) (.ref l) (.tuple (y.map PyData.str)) := by
        refine .tup (SqT.of upd_same) ?_
        have : ∀ y : List Str, TdAll K (upd H14 l (.tup (y.map V.str))) (y.map V.str) (y.map PyData.str) → True := fun _ _ => True.intro
        have g : ∀ (H : Hp) (y : List Str), TdAll K H (y.map V.str) (y.map PyData.str) := by
          intro H y
          induction y with
          | nil => exact .nil
          | cons a b ih => exact .cons (.str _) ih
        exact g _ y
      have hx15 : (upd H14 l (.tup (y.map V.str))) fl = some (.lst xs) := e15 _ _ (f14 _ _ (by simpa using offf.1) hxs)
      have hall15 := (hall.kp (hR'.keep f14)).ex e15
      have R15 := R14.ex e15
      have f15 : Fr [r] H' (upd H14 l (.tup (y.map V.str))) := f14.trans (Fr.of e15)
      generalize upd H14 l (.tup (y.map V.str)) = H15 at *
      have kk : Keep K H15 (upd H15 fl (.lst (xs ++ [.ref l]))) := Keep.upd hx15 True.intro
      refine ⟨xs, hx15, by rw [hall.length, List.length_map]; exact sz_lt (by omega), ys ++ [y], xs ++ [.ref l], _, _, _, rfl, upd_same, ?_, by simp [hlen], ?_, (hf.trans (f15.sub (by simp))).trans (Fr.upd (by simp)), R15.updo offf⟩
      · rw [List.map_append]
        exact (hall15.kp kk).snoc (t15.kp kk)
      · intro j z hj
        rw [List.getElem?_append] at hj
        split at hj
        · exact hys j z hj
        · rename_i hjl
          have e0 : j - ys.length = 0 := by
            obtain ⟨h, _⟩ := List.getElem?_eq_some_iff.mp hj
            simp at h
            exact h
          have ej : j = i := by omega
          rw [e0] at hj
          simp at hj
          subst hj ej
          exact ⟨by rw [hl, epp], hg⟩
  · rintro σ' H' ⟨ys, xs, u4, u5, u6, rfl, hxs, hall, hlen, hys, hf, hR'⟩
    dsimp only
    refine w_ret (w_d (K := K) (ed_tupL (edr_var rfl (SqL.of hxs) hall)) fun v H11 e11 t11 => ?_)
    exact k ys v H11 ⟨hlen, hys⟩ ((((Fr.of e1).trans (Fr.of e2)).trans hf |>.fresh hfl).trans (Fr.of e11)) (hR'.ex e11) t11
end
end Hw

set_option maxRecDepth 100000
set_option maxHeartbeats 4000000
/-! GO: what is drawn is let by -/
namespace Hw
open PySem PySem.Spec PyProof.Rows L2 Evl
theorem goT_ok {shs : List (Nat × Nat)} {i : Nat} {t : Th} (h : goT shs i t = true) : okT (shP shs i) (shO shs i) t 0 = true := by
  simp only [goT, Bool.and_eq_true, decide_eq_true_eq] at h
  exact okT_of t 0 h.1 (by omega)
theorem goC_T {shs : List (Nat × Nat)} {i : Nat} {t : Th} (h : goC shs i t = true) : goT shs i t = true := by
  simp only [goC, Bool.and_eq_true] at h
  exact h.1
mutual
theorem goS_ok {shs : List (Nat × Nat)} {i : Nat} : ∀ (s : Stm) (n w : Nat), w + n ≤ 4 → goS shs i n s = true → okS shs i s w = true
  | .set p t, n, w, hw, h => by
    cases n <;>
    · simp only [goS, Bool.and_eq_true] at h
      simp only [okS, goT_ok h.1, goT_ok h.2.2, h.2.1, Bool.and_true, decide_eq_true_eq]
      omega
  | .say t, n, w, hw, h => by
    cases n <;>
    · simp only [goS] at h
      simp only [okS, goT_ok h, Bool.and_true, decide_eq_true_eq]
      omega
  | .call c ts, n, w, hw, h => by
    cases n <;>
    · simp only [goS, Bool.and_eq_true, decide_eq_true_eq, List.all_eq_true] at h
      simp only [okS, Bool.and_eq_true, decide_eq_true_eq, List.all_eq_true]
      exact ⟨by omega, h.2.1, h.1, h.2.2.1, fun t ht => goT_ok (goC_T (h.2.2.2 t ht))⟩
  | .ite t a b, 0, w, hw, h => by simp [goS] at h
  | .ite t a b, n + 1, w, hw, h => by
    simp only [goS, Bool.and_eq_true, decide_eq_true_eq] at h
    simp only [okS, Bool.and_eq_true, decide_eq_true_eq]
    exact ⟨by omega, goT_ok h.1, goB_ok a n (w + 1) (by omega) h.2.1.2, goB_ok b n (w + 1) (by omega) h.2.2.2⟩
theorem goB_ok {shs : List (Nat × Nat)} {i : Nat} : ∀ (b : List Stm) (n w : Nat), w + n ≤ 4 → goB shs i n b = true → okB shs i b w = true
  | [], n, w, hw, h => by simp [okB]
  | s :: r, n, w, hw, h => by
    simp only [goB, Bool.and_eq_true] at h
    simp only [okB, Bool.and_eq_true]
    exact ⟨goS_ok s n w hw h.1, goB_ok r n w hw h.2⟩
end
mutual
theorem goS_sm {shs : List (Nat × Nat)} {i : Nat} (h3 : ∀ i, shP shs i ≤ 3) : ∀ (s : Stm) (n : Nat), goS shs i n s = true → smS s = true
  | .set p t, n, h => by simp [smS]
  | .say t, n, h => by simp [smS]
  | .call c ts, n, h => by
    have := h3 c
    cases n <;>
    · simp only [goS, Bool.and_eq_true, decide_eq_true_eq, List.all_eq_true] at h
      simp only [smS, decide_eq_true_eq]
      omega
  | .ite t a b, 0, h => by simp [goS] at h
  | .ite t a b, n + 1, h => by
    simp only [goS, Bool.and_eq_true, decide_eq_true_eq] at h
    simp only [smS, Bool.and_eq_true, decide_eq_true_eq]
    exact ⟨⟨by omega, by omega⟩, goB_sm h3 a n h.2.1.2, goB_sm h3 b n h.2.2.2⟩
theorem goB_sm {shs : List (Nat × Nat)} {i : Nat} (h3 : ∀ i, shP shs i ≤ 3) : ∀ (b : List Stm) (n : Nat), goB shs i n b = true → smB b = true
  | [], n, h => by simp [smB]
  | s :: r, n, h => by
    simp only [goB, Bool.and_eq_true] at h
    simp only [smB, Bool.and_eq_true]
    exact ⟨goS_sm h3 s n h.1, goB_sm h3 r n h.2⟩
end
theorem goH_le {shs : List (Nat × Nat)} (h : GoH shs) (i : Nat) : shP shs i ≤ 3 := by
  cases hi : shs[i]? with
  | none => simp [shP, List.getD, hi]
  | some w =>
    have := (h.ok w (List.mem_of_getElem? hi)).1
    simpa [shP, List.getD, hi] using this
theorem goP_sm {most : Nat} {p : List Wk} (h : GoP most p) : smP p := by
  have hl := h.hs.len
  simp only [shapes, List.length_map] at hl
  refine ⟨by omega, fun w hw => ?_⟩
  obtain ⟨i, hi⟩ := List.mem_iff_getElem?.mp hw
  have g := h.ws i w hi
  exact ⟨by have := g.len; omega, goB_sm (goH_le h.hs) _ _ g.go⟩
theorem goP_ok {most : Nat} {p : List Wk} (h : GoP most p) (hm : most ≤ 98) : okP p = true := by
  have hl := h.hs.len
  simp only [shapes, List.length_map] at hl
  simp only [okP, Bool.and_eq_true, decide_eq_true_eq, List.all_eq_true, List.mem_range]
  refine ⟨hl.1, hl.2, fun i hi => ?_⟩
  have hw : p[i]? = some p[i] := List.getElem?_eq_getElem hi
  have g := h.ws i _ hw
  have hb := h.hs.ok _ (List.mem_of_getElem? g.sh)
  have h0 : i ≠ 0 ∨ p[i].params = 0 := by
    by_cases e : i = 0
    · have h1 := h.hs.fst
      have h2 := g.sh
      subst e
      simp [shP, List.getD, h2] at h1
      exact .inr h1
    · exact .inl e
  simp only [okW, hw, Bool.and_eq_true, decide_eq_true_eq, Bool.or_eq_true]
  exact ⟨hb.1, by have := hb.2; omega, h0, goB_ok _ 2 0 (by decide) g.go, by have := g.cnt; omega⟩
theorem goY_ok {p : List Wk} {sm : List Str} {ys : List (List Str)} (h : goY p sm ys) (hs : ∀ z ∈ sm, isWay z = true) : okY p ys = true := by
  simp only [okY, Bool.and_eq_true, decide_eq_true_eq, List.all_eq_true, List.mem_range]
  refine ⟨h.1, fun i hi => ?_⟩
  obtain ⟨y, hy⟩ : ∃ y, ys[i]? = some y := ⟨_, List.getElem?_eq_getElem (by have := h.1; omega)⟩
  have g := h.2 i _ hy
  have e : ys.getD i [] = y := by simp [List.getD, hy]
  rw [e]
  exact ⟨g.1, fun z hz => hs z (g.2 z hz)⟩
theorem goY_sm {most : Nat} {p : List Wk} {sm : List Str} {ys : List (List Str)} (g : GoP most p) (h : goY p sm ys) (hs : ∀ z ∈ sm, (PyData.str z).canLay0 = true) : smY ys := by
  have hl := g.hs.len
  simp only [shapes, List.length_map] at hl
  refine ⟨by have := h.1; omega, fun y hy => ?_⟩
  obtain ⟨i, hi⟩ := List.mem_iff_getElem?.mp hy
  have g2 := h.2 i y hi
  have := goH_le g.hs i
  exact ⟨by omega, fun z hz => hs z (g2.2 z hz)⟩
theorem way_all : ∀ z ∈ (["copy", "place", "back", "want"] : List Str), isWay z = true ∧ (PyData.str z).canLay0 = true := by
  intro z hz
  simp only [List.mem_cons, List.not_mem_nil, or_false] at hz
  rcases hz with e | e | e | e <;> subst e <;> exact ⟨by decide +kernel, by decide +kernel⟩
end Hw

set_option maxRecDepth 100000
set_option maxHeartbeats 4000000
/-! CA: the calls of a body, what is let by -/
namespace Hw
open PySem PySem.Spec PyProof.Rows L2 Evl
/-! the calls of a body -/
mutual
def callsS : Stm → List (Nat × List Th)
  | .call c ts => [(c, ts)]
  | .ite _ a b => callsB a ++ callsB b
  | _ => []
def callsB : List Stm → List (Nat × List Th)
  | [] => []
  | s :: r => callsS s ++ callsB r
end
theorem callsB_mem : ∀ {b : List Stm} {s : Stm} {x : Nat × List Th}, s ∈ b → x ∈ callsS s → x ∈ callsB b
  | y :: r, s, x, hs, hx => by
    simp only [callsB, List.mem_append]
    rcases List.mem_cons.mp hs with e | hs
    · subst e; exact .inl hx
    · exact .inr (callsB_mem hs hx)
theorem callsS_bods {s : Stm} {b : List Stm} {x : Nat × List Th} (hb : b ∈ bods s) (hx : x ∈ callsB b) : x ∈ callsS s := by
  cases s with
  | ite t a c =>
    simp only [bods, List.mem_cons, List.not_mem_nil, or_false] at hb
    simp only [callsS, List.mem_append]
    rcases hb with e | e <;> subst e
    · exact .inl hx
    · exact .inr hx
  | _ => simp [bods] at hb
mutual
theorem okS_calls {sh : List (Nat × Nat)} {at_ : Nat} : ∀ (s : Stm) (w : Nat) (x : Nat × List Th), okS sh at_ s w = true → x ∈ callsS s → at_ < x.1 ∧ x.1 < sh.length ∧ x.2.length = shP sh x.1
  | .set p t, w, x, h, hx => by simp [callsS] at hx
  | .say t, w, x, h, hx => by simp [callsS] at hx
  | .call c ts, w, x, h, hx => by
    simp [callsS] at hx
    subst hx
    simp [okS] at h
    exact ⟨h.2.2.1, h.2.1, h.2.2.2.1⟩
  | .ite t a b, w, x, h, hx => by
    simp [okS] at h
    simp only [callsS, List.mem_append] at hx
    rcases hx with hx | hx
    · exact okB_calls a (w + 1) x h.2.2.1 hx
    · exact okB_calls b (w + 1) x h.2.2.2 hx
theorem okB_calls {sh : List (Nat × Nat)} {at_ : Nat} : ∀ (b : List Stm) (w : Nat) (x : Nat × List Th), okB sh at_ b w = true → x ∈ callsB b → at_ < x.1 ∧ x.1 < sh.length ∧ x.2.length = shP sh x.1
  | [], w, x, h, hx => by simp [callsB] at hx
  | s :: r, w, x, h, hx => by
    simp only [okB, Bool.and_eq_true] at h
    simp only [callsB, List.mem_append] at hx
    rcases hx with hx | hx
    · exact okS_calls s w x h.1 hx
    · exact okB_calls r w x h.2 hx
end
theorem okP_get {p : List Wk} {i : Nat} {w : Wk} (h : okP p = true) (hi : p[i]? = some w) : w.params ≤ 3 ∧ w.owns ≤ 99 ∧ okB (shapes p) i w.body 0 = true ∧ cntB w.body ≤ 100 := by
  simp only [okP, Bool.and_eq_true, decide_eq_true_eq, List.all_eq_true, List.mem_range] at h
  have := h.2.2 i (List.getElem?_eq_some_iff.mp hi).1
  simp only [okW, hi, Bool.and_eq_true, decide_eq_true_eq] at this
  exact ⟨this.1, this.2.1, this.2.2.2.1, this.2.2.2.2⟩
theorem okP_len {p : List Wk} (h : okP p = true) : 1 ≤ p.length ∧ p.length ≤ 4 := by
  simp only [okP, Bool.and_eq_true, decide_eq_true_eq] at h
  exact ⟨h.1, h.2.1⟩
theorem okY_get {p : List Wk} {ys : List (List Str)} (h : okY p ys = true) : ys.length = p.length ∧ ∀ i y, ys[i]? = some y → y.length = shP (shapes p) i := by
  simp only [okY, Bool.and_eq_true, decide_eq_true_eq, List.all_eq_true, List.mem_range] at h
  refine ⟨h.1, fun i y hi => ?_⟩
  have := h.2 i (by have := (List.getElem?_eq_some_iff.mp hi).1; omega)
  simpa [List.getD, hi] using this.1
theorem take_snoc {α : Type} {xs : List α} {n : Nat} {d : α} (h : xs[n]? = some d) : xs.take (n + 1) = xs.take n ++ [d] := by
  rw [List.take_add_one, h]
  rfl
section
variable {K : PySem.W.Frag} {σ : L2.St} {H H' : Hp} {D : Ends} {tu tz : TS} {te : TE}
/-- for x in a tuple that stands in a variable -/
theorem w_forTv {α : Type} {n j : Nat} {v : V} (xs : List α) (f : α → PyData) (hv : σ[n]? = some (some v)) (h : Td K H v (.tuple (xs.map f))) (Pv : Nat → L2.St → Hp → Prop) (h0 : Pv 0 σ H) (hk : ∀ i σ' H', Pv i σ' H' → Keep K H H')
    (hs : ∀ i x v σ' H', xs[i]? = some x → Td K H' v (f x) → Pv i σ' H' → tu { D with nx := Pv (i + 1), ct := Pv (i + 1), bk := D.nx } (σ'.set j (some v)) H')
    (hd : ∀ σ' H', Pv xs.length σ' H' → D.nx σ' H') : tFor (iTup K (tVar n)) (gName j) tu D σ H := by
  refine ⟨v, hv, ?_⟩
  obtain ⟨a, ys, rfl, hx, hall⟩ := h.tup_inv
  have hlen := hall.length
  rw [List.length_map] at hlen
  refine ⟨a, rfl, ⟨ys, hx⟩, for_tup Pv h0 (fun i σ' H' _ p => hk i σ' H' p a ys hx) (fun i x σ' H' hi p => ?_) (fun σ' H' p => hd σ' H' (by rw [← hlen]; exact p))⟩
  obtain ⟨d, hdd, td⟩ := hall.getV hi
  rw [List.getElem?_map] at hdd
  obtain ⟨z, hz, rfl⟩ := Option.map_eq_some_iff.mp hdd
  exact hs i z x σ' H' hz (td.kp (hk i σ' H' p)) p
end
end Hw

set_option maxRecDepth 100000
set_option maxHeartbeats 4000000
/-! RX: words of the run's texts for a text without a run -/
namespace Hw
open PySem PySem.Spec PyProof.Rows L2 Evl
local macro_rules | `(tactic| walk_at "dd") => `(tactic| first | rfl | decide | (simp; done) | omega)
local macro_rules | `(tactic| walk_at "td") => `(tactic| first | assumption | exact Td.int _ | exact Td.bl _ | exact Td.str _ | exact Td.non | exact Td.tup (by assumption) (by assumption))
local macro_rules | `(tactic| walk_at "ev") => `(tactic| first
  | exact ed_ci | exact ed_cs | exact ed_cb | exact ed_cn
  | (apply ed_cg; assumption)
  | (apply ed_var; (rfl); (walk_at "td"))
  | (apply ed_ixT; (walk_at "ev"); (walk_at "ev"); (first | rfl | assumption))
  | (apply ed_rowI; (rfl); (assumption); (walk_at "ev"); (rfl))
  | (apply ed_ixL; (apply EvDL.rd; walk_at "edl"); (walk_at "ev"); (rfl))
  | (apply ed_intb; (walk_at "ev"))
  | (apply ed_len; walk_at "ev")
  | (apply ed_lenV; (apply ev_rowR; (rfl); (assumption); (walk_at "ev"); (rfl)); (assumption))
  | (apply ed_Ii; (walk_at "ev"); (walk_at "ev"); (walk_at "cc"))
  | (apply ed_isi; (walk_at "ev"); (rfl))
  | (apply ed_I0i; (walk_at "ev"); (walk_at "ev"))
  | (apply ed_I0b; (walk_at "ev"); (walk_at "ev"))
  | (apply ed_eqi; (walk_at "ev"); (walk_at "ev"))
  | (apply ed_nei; (walk_at "ev"); (walk_at "ev"))
  | (apply ed_andF; walk_at "ev")
  | (apply ed_andV; (walk_at "ev"); (intro _; walk_at "ev"))
  | (apply ed_orT; walk_at "ev")
  | (apply ed_orV; (walk_at "ev"); (intro _; walk_at "ev"))
  | (apply ed_notT; walk_at "ev")
  | (apply ed_notF; walk_at "ev")
  | (apply ed_notV; walk_at "ev")
  | (apply ed_chain; (walk_at "ev"); (walk_at "ev"); (intro _; walk_at "ev"))
  | (apply ed_eqS; (walk_at "ev"); (walk_at "ev"); (walk_at "bb"); (walk_at "bb"))
  | (apply ed_neS; (walk_at "ev"); (walk_at "ev"); (walk_at "bb"); (walk_at "bb"))
  | (apply ed_inT; (walk_at "ev"); (walk_at "ev"); (rfl); (rfl))
  | (apply ed_niT; (walk_at "ev"); (walk_at "ev"); (rfl); (rfl))
  | (apply ed_tup; (walk_at "eva"); (walk_at "bb"))
  | (apply ed_sl; (walk_at "ev"); (walk_at "evo"); (walk_at "evo"))
  | (apply ed_eqN; (apply EvDL.rd; walk_at "edl"); (walk_at "edl"); (walk_at "bb"))
  | (apply ed_neN; (apply EvDL.rd; walk_at "edl"); (walk_at "edl"); (walk_at "bb"))
  | (apply ed_ixL; (apply edr_var; (rfl); (assumption); (assumption)); (walk_at "ev"); (first | rfl | assumption))
  | (apply ed_lenL; (apply edr_var; (rfl); (assumption); (assumption)))
  | (apply ed_call; (walk_at "eva"); (walk_at "post")))
local macro_rules | `(tactic| walk_at "edl") => `(tactic| first
  | assumption
  | (apply edl_lst; (walk_at "eva"); (walk_at "bb")))
local macro_rules | `(tactic| walk_at "eva") => `(tactic| first
  | exact eda_nil
  | (apply eda_cons; (walk_at "ev"); (walk_at "eva")))
local macro_rules | `(tactic| walk_at "evo") => `(tactic| first
  | exact eok_none
  | (apply eok_some; walk_at "ev"))
local macro_rules | `(tactic| walk_at "bb") => `(tactic| first | rfl | assumption | (simp; done) | (simp; omega) | decide +kernel)
local macro_rules | `(tactic| walk_at "et") => `(tactic| first
  | exact tk_yes
  | (apply tk_andF; walk_at "et")
  | (apply tk_and; (walk_at "et"); (intro _; walk_at "et"))
  | (apply tk_orT; walk_at "et")
  | (apply tk_or; (walk_at "et"); (intro _; walk_at "et"))
  | (apply tk_notT; walk_at "et")
  | (apply tk_notF; walk_at "et")
  | (apply tk_not; walk_at "et")
  | (apply tk_v; walk_at "ev")
  | (apply tk_vB; walk_at "ev"))
local macro_rules | `(tactic| walk_at "if") => `(tactic| first
  | (apply pst_whenF; (walk_at "et"); (walk_at "bb"))
  | (apply pst_whenT; (walk_at "et"); (walk_at "bb")))
local macro_rules | `(tactic| walk_at "post") => `(tactic| first | assumption | exact ⟨_, _, rfl, rfl⟩ | exact ⟨_, _, _, _, rfl, by omega, by omega, rfl⟩ | exact ⟨_, _, _, 0, rfl, by omega, by omega, rfl⟩)
local macro_rules | `(tactic| walk_at "cc") => `(tactic| first | assumption | decide | omega | (refine ⟨?_, ?_⟩ <;> first | decide | omega) | (exact Or.inl (by constructor <;> omega)))

/-- what stands beside S -/
def Ofs (S : List Addr) (H : Hp) : Hp := fun a => if a ∈ S then none else H a
section
variable {K : PySem.W.Frag} {σ : L2.St} {H H' : Hp} {D : Ends} {tu tz : TS} {te tl ta tb : TE} {t : TA} {S : List Addr} {a C dx : Addr} {fs : List (Str × V)} {f : Str} {v : V} {n : Nat} {Q : VK} {E : XK} {sp : Sp}
theorem ofs_ex : Ex (Ofs S H) H := fun p o h => by
  unfold Ofs at h
  split at h
  · cases h
  · exact h
theorem ofs_fr (f : Fr S H H') : Ex (Ofs S H) (Ofs S H') := fun p o h => by
  unfold Ofs at h ⊢
  split at h
  · cases h
  · rename_i hp
    rw [if_neg hp]
    exact f p o hp h
theorem ofs_get {p : Addr} {o : HO} (h : H p = some o) (hp : p ∉ S) : Ofs S H p = some o := by
  unfold Ofs
  rw [if_neg hp]
  exact h
theorem ev_fld (hs : σ[n]? = some (some (.ref a))) (ha : H a = some (.ins C dx fs)) (c : Cls K C) (na : NoAttr K C f) (hl : fs.lookup f = some v) : Ev (tFld K (tVar n) f) σ H v := fun H1 e Q q => ⟨.ref a, hs, a, C, dx, fs, v, rfl, e _ _ ha, c, na, hl, q H1 (Ex.refl H1)⟩
theorem w_fld (hs : σ[n]? = some (some (.ref a))) (ha : H a = some (.ins C dx fs)) (c : Cls K C) (na : NoAttr K C f) (hl : fs.lookup f = some v) (q : Q v H) : tFld K (tVar n) f σ H Q := ⟨.ref a, hs, a, C, dx, fs, v, rfl, ha, c, na, hl, q⟩
theorem ed_fld {d : PyData} (hs : σ[n]? = some (some (.ref a))) (ha : H a = some (.ins C dx fs)) (c : Cls K C) (na : NoAttr K C f) (hl : fs.lookup f = some v) (td : Td K H v d) : EvD K (tFld K (tVar n) f) σ H d := fun H1 e Q q => ⟨.ref a, hs, a, C, dx, fs, v, rfl, e _ _ ha, c, na, hl, q v H1 (Ex.refl H1) (td.ex e)⟩
theorem edr_fld {p : Addr} {xs : List V} {ds : List PyData} (hs : σ[n]? = some (some (.ref a))) (ha : H a = some (.ins C dx fs)) (c : Cls K C) (na : NoAttr K C f) (hl : fs.lookup f = some (.ref p)) (hp : H p = some (.lst xs)) (td : TdAll K H xs ds) : EvDR K (tFld K (tVar n) f) σ H ds := fun H1 e Q q => ⟨.ref a, hs, a, C, dx, fs, .ref p, rfl, e _ _ ha, c, na, hl, q p xs H1 (Ex.refl H1) (SqL.of (e _ _ hp)) (td.ex e)⟩
theorem w_meth {m : Str} {dvs : List V} (hs : σ[n]? = some (some (.ref a))) (ha : H a = some (.ins C dx fs)) (hl : fs.lookup m = none) (h : t σ H fun vs H2 => sp (.ref a :: (vs ++ dvs)) H2 Q E) : tMeth C m sp dvs E (tVar n) t σ H Q := ⟨.ref a, hs, a, dx, fs, rfl, ha, hl, h⟩
/-- o.f = e -/
theorem w_setf (hs : σ[n]? = some (some (.ref a))) (h : te σ H fun y H1 => ∃ C dx fs, H1 a = some (.ins C dx fs) ∧ Cls K C ∧ NoAttr K C f ∧ fs.length < 1000 ∧ D.nx σ (upd H1 a (.ins C dx (putF f y fs)))) : sFld K (tVar n) te f D σ H := by
  have e : (fun (y : V) (H1 : Hp) => tVar n σ H1 fun x H2 => ∃ a C dx fs, x = .ref a ∧ H2 a = some (.ins C dx fs) ∧ Cls K C ∧ NoAttr K C f ∧ fs.length < 1000 ∧ D.nx σ (upd H2 a (.ins C dx (putF f y fs)))) = fun y H1 => ∃ C dx fs, H1 a = some (.ins C dx fs) ∧ Cls K C ∧ NoAttr K C f ∧ fs.length < 1000 ∧ D.nx σ (upd H1 a (.ins C dx (putF f y fs))) := by
    funext y H1
    refine propext ⟨fun ⟨x, h1, a', C', dx, fs, h2, h3⟩ => ?_, fun ⟨C, dx, fs, h3⟩ => ⟨.ref a, hs, a, C, dx, fs, rfl, h3⟩⟩
    rw [hs] at h1
    cases h1
    cases h2
    exact ⟨C', dx, fs, h3⟩
  show te σ H _
  rw [e]
  exact h
/-- o.f.append(e) -/
theorem w_appF {l : Addr} {ys : List V} (hs : σ[n]? = some (some (.ref a))) (ha : H a = some (.ins C dx fs)) (c : Cls K C) (na : NoAttr K C f) (hf : fs.lookup f = some (.ref l)) (hl : H l = some (.lst ys)) (h : te σ H fun x H1 => ∃ xs, H1 l = some (.lst xs) ∧ xs.length < sizeLine ∧ D.nx σ (upd H1 l (.lst (xs ++ [x])))) :
    tDrop (tBM K "list" rAppend (tFld K (tVar n) f) (tCons te tNil)) D σ H := ⟨.ref a, hs, a, C, dx, fs, .ref l, rfl, ha, c, na, hf, .inl ⟨rfl, ys, SqL.of hl⟩, by
    show te σ H fun x H1 => rAppend (.ref l) [x] H1 fun _ H2 => D.nx σ H2
    have e : (fun (x : V) (H1 : Hp) => rAppend (.ref l) [x] H1 fun _ H2 => D.nx σ H2) = fun x H1 => ∃ xs, H1 l = some (.lst xs) ∧ xs.length < sizeLine ∧ D.nx σ (upd H1 l (.lst (xs ++ [x]))) := by
      funext x H1
      refine propext ⟨fun ⟨l2, xs, y, e1, e2, e3, e4, e5⟩ => ?_, fun ⟨xs, e3, e4, e5⟩ => ⟨l, xs, x, rfl, rfl, e3, e4, e5⟩⟩
      cases e1
      cases e2
      exact ⟨xs, e3, e4, e5⟩
    rw [e]
    exact h⟩
end
def nV (ns : List Nat) : List V := ns.map fun n => V.int ((n : Nat) : Int)
def nD (ns : List Nat) : List PyData := ns.map fun n => PyData.int ((n : Nat) : Int)
theorem nV_td {K : PySem.W.Frag} {H : Hp} : ∀ ns : List Nat, TdAll K H (nV ns) (nD ns)
  | [] => .nil
  | n :: r => .cons (.int _) (nV_td r)
section
variable {K : PySem.W.Frag} {σ : L2.St} {H H' : Hp} {D : Ends} {tu tz : TS} {te tl ta tb : TE} {t : TA} {Q : VK} {E : XK}
theorem w_mk {C : Addr} {sp : Sp} {dvs : List V} (h : t σ H fun vs H1 => ∀ x dx, H1 x = none → H1 dx = none → dx ≠ x → sp (.ref x :: (vs ++ dvs)) (upd (upd H1 dx (.own x)) x (.ins C dx [])) (fun v H2 => v = .non ∧ Q (.ref x) H2) E) : tMake C sp dvs E t σ H Q := h
end
theorem atI_zero {α : Type} {x : α} {r : List α} : atI (x :: r) 0 = some x := (show atI (x :: r) ((0 : Nat) : Int) = some x from atI_nat rfl)
def wordT : Th → Str
  | .num _ => "num"
  | .sum _ _ => "sum"
  | .cell _ => "cell"
  | .own _ => "own"
  | .par _ => "par"
theorem encT_word (t : Th) : ∃ ds, encT t = .tuple (.str (wordT t) :: ds) := by cases t <;> exact ⟨_, rfl⟩
theorem wordT_lay (t : Th) : (PyData.str (wordT t)).canLay0 = true := by cases t <;> simp [wordT]
theorem cutD_pre {ds : List PyData} {k : Nat} : cutD ds none (some (k : Int)) = ds.take k := by
  unfold cutD
  rw [HT.sIx_none, HT.sIx_nat, List.drop_zero, Nat.sub_zero]
  rcases Nat.le_total k ds.length with h | h
  · rw [Nat.min_eq_left h]
  · rw [Nat.min_eq_right h, List.take_of_length_le (Nat.le_refl _), List.take_of_length_le h]
theorem tdV {K : PySem.W.Frag} {H : Hp} {cs : List V} {cells : List Nat} (h : TdAll K H cs (nD cells)) : cs = nV cells := by
  induction cells generalizing cs with
  | nil => cases h; rfl
  | cons n r ih =>
    cases h with
    | cons a b =>
      cases a
      rw [ih b]
      rfl
def allCells : List (List Nat) := (List.range 27).map fun k => [k / 9, k / 3 % 3, k % 3]
def cellsD : List PyData := allCells.map fun c => .tuple (nD c)
theorem ifT {b : Bool} {A B : Prop} (hb : b = true) (h : A) : if b = true then A else B := by rw [if_pos hb]; exact h
theorem ifF {b : Bool} {A B : Prop} (hb : b = false) (h : B) : if b = true then A else B := by rw [if_neg (by rw [hb]; decide)]; exact h
theorem okT_wf {ps os : Nat} : ∀ (t : Th) (j : Nat), okT ps os t j = true → wfT ps os t = true ∧ dpT t + j ≤ 4
  | .num n, j, h => by simp [okT] at h; simp [wfT, dpT]; omega
  | .own n, j, h => by simp [okT] at h; simp [wfT, dpT]; omega
  | .par n, j, h => by simp [okT] at h; simp [wfT, dpT]; omega
  | .cell t, j, h => by
    simp only [okT, Bool.and_eq_true, decide_eq_true_eq] at h
    have := okT_wf t (j + 1) h.2
    simp only [wfT, dpT]
    exact ⟨this.1, by omega⟩
  | .sum a b, j, h => by
    simp only [okT, Bool.and_eq_true, decide_eq_true_eq] at h
    have h1 := okT_wf a (j + 1) h.2.1
    have h2 := okT_wf b (j + 1) h.2.2
    simp only [wfT, dpT, Bool.and_eq_true]
    exact ⟨⟨h1.1, h2.1⟩, by omega⟩
section
variable {K : PySem.W.Frag} {σ : L2.St} {H H' : Hp} {D : Ends} {tu tz : TS} {te tl ta tb : TE} {t : TT} {Q : VK}
theorem w_next (h : D.nx σ H) : tNext D σ H := h
theorem w_not {Q : Bool → Hp → Prop} (h : t σ H fun b H1 => Q (!b) H1) : tNot t σ H Q := h
theorem w_tB {Q : Bool → Hp → Prop} (h : te σ H fun x H1 => ∃ c, x = .bl c ∧ Q c H1) : tB te σ H Q := h
/-- for x in a list that is not changed -/
theorem w_forLd {j : Nat} {ds : List PyData} (h : EvDR K tl σ H ds) (Pv : Hp → Nat → L2.St → Hp → Prop) (h0 : ∀ H1, Ex H H1 → Pv H1 0 σ H1) (hk : ∀ H1 i σ' H', Pv H1 i σ' H' → Ex H1 H')
    (hs : ∀ H1 i d v σ' H', ds[i]? = some d → Ex H H1 → Td K H' v d → Pv H1 i σ' H' → tu { D with nx := Pv H1 (i + 1), ct := Pv H1 (i + 1), bk := D.nx } (σ'.set j (some v)) H')
    (hd : ∀ H1 σ' H', Ex H H1 → Pv H1 ds.length σ' H' → D.nx σ' H') : tFor (iList K tl) (gName j) tu D σ H := by
  refine h H (Ex.refl H) _ fun p ys H1 e hx hall => ?_
  have hlen := hall.length
  refine ⟨p, rfl, ⟨ys, hx⟩, for_list (Pv H1) (h0 H1 e) (fun i σ' H' _ q => ex_l (hk H1 i σ' H' q) hx) (fun i x σ' H' hi q => ?_) (fun σ' H' q => hd H1 σ' H' e (by rw [← hlen]; exact q))⟩
  obtain ⟨d, hdd, td⟩ := hall.getV hi
  exact hs H1 i d x σ' H' hdd e (td.ex (hk H1 i σ' H' q)) q
/-- xs.append(e), xs told by something -/
theorem w_appE {l : Addr} {ys : List V} (hev : ∀ Q : VK, Q (.ref l) H → ta σ H Q) (hl : H l = some (.lst ys)) (h : te σ H fun x H1 => ∃ xs, H1 l = some (.lst xs) ∧ xs.length < sizeLine ∧ D.nx σ (upd H1 l (.lst (xs ++ [x])))) :
    tDrop (tBM K "list" rAppend ta (tCons te tNil)) D σ H := hev _ ⟨.inl ⟨rfl, ys, SqL.of hl⟩, by
    show te σ H fun x H1 => rAppend (.ref l) [x] H1 fun _ H2 => D.nx σ H2
    have e : (fun (x : V) (H1 : Hp) => rAppend (.ref l) [x] H1 fun _ H2 => D.nx σ H2) = fun x H1 => ∃ xs, H1 l = some (.lst xs) ∧ xs.length < sizeLine ∧ D.nx σ (upd H1 l (.lst (xs ++ [x]))) := by
      funext x H1
      refine propext ⟨fun ⟨l2, xs, y, e1, e2, e3, e4, e5⟩ => ?_, fun ⟨xs, e3, e4, e5⟩ => ⟨l, xs, x, rfl, rfl, e3, e4, e5⟩⟩
      cases e1
      cases e2
      exact ⟨xs, e3, e4, e5⟩
    rw [e]
    exact h⟩
end
def spLaw (K : PySem.W.Frag) : Sp := fun vs H Q _ => ∃ (s : Addr) (ns : List Int), vs = [.ref s] ∧ SqL K H s (ns.map V.int) ∧ ns.length ≤ 63 ∧ ∀ H', Q (.bl true) H'
section
variable {P : Program} {w : World} {K : PySem.W.Frag} {mg : Str → Option Value} {base : Heap} (T : Tx K mg)
include T
/-- the drawing, put together -/
theorem ok_gen (gT : Fn__law_taken T P w base CX0 1 (spTaken K)) : Fn__law_program T P w base CX0 12 (spProg K) := by
  have g0 := ok_thing T gT 0
  have g1 := ok_thing T gT 1
  have g2 := ok_thing T gT 2
  have gP : Fn__law_place T P w base CX0 4 (spPlace K 1) := ok_place T g1
  have gH : Fn__law_thing T P w base CX0 4 (spThings K) := by
    constructor
    · rintro vs H Q E ⟨n, hn, r, s, ns, v, ps, os, rfl, _⟩
      rfl
    · rintro A outer s H args us vs Q E hr he hb hv ⟨n, hn, h⟩
      rcases (by omega : n = 0 ∨ n = 1 ∨ n = 2) with e | e | e
      · subst e; exact g0.run A outer s H args us vs Q E (hr.mono (by decide)) he hb hv h
      · subst e; exact g1.run A outer s H args us vs Q E (hr.mono (by decide)) he hb hv h
      · subst e; exact g2.run A outer s H args us vs Q E hr he hb hv h
  have b0 : Fn__law_body T P w base CX0 7 (spBody K 0) := ok_body T (by decide) (ok_step (n := 0) (lv := 5) T (by decide) (fun _ _ _ _ => False) (fun h => absurd h (Nat.lt_irrefl 0)) (fn_vac fun _ _ _ _ h => h) gT gH gP) gT
  have b1 : Fn__law_body T P w base CX0 9 (spBody K 1) := ok_body T (by decide) (ok_step (n := 1) (lv := 7) T (by decide) (spBody K 0) (fun _ => rfl) b0 gT gH gP) gT
  have b2 : Fn__law_body T P w base CX0 11 (spBody K 2) := ok_body T (by decide) (ok_step (n := 2) (lv := 9) T (by decide) (spBody K 1) (fun _ => rfl) b1 gT gH gP) gT
  exact ok_program T gT gP b2
/-- the looks at programs and ways, put together -/
theorem ok_np : Fn_need_program T P w base (L2.CX P w) 24 (spNP K) := by
  have gN := ok_is_number (P := P) (w := w) (base := base) T
  have gIT := ok_is_thing T gN 6
  have gIC := ok_is_call T (Nat.le_refl 8) gN gIT
  have gBo := ok_bodyN T gIT gIC 6
  have gBs := ok_bodies_of (P := P) (w := w) (base := base) (k := 0) T
  exact ok_need_program T (ok_is_work T gBo (ok_count T gBs 7))
end
end Hw

set_option maxRecDepth 100000
set_option maxHeartbeats 4000000
/-! NW: programs as texts: the words -/
namespace Hw
open PySem PySem.Spec PyProof.Rows L2 Evl
local macro_rules | `(tactic| walk_at "dd") => `(tactic| first | rfl | decide | (simp; done) | omega)
local macro_rules | `(tactic| walk_at "td") => `(tactic| first | assumption | exact Td.int _ | exact Td.bl _ | exact Td.str _ | exact Td.non | exact Td.tup (by assumption) (by assumption))
local macro_rules | `(tactic| walk_at "ev") => `(tactic| first
  | exact ed_ci | exact ed_cs | exact ed_cb | exact ed_cn
  | (apply ed_cg; assumption)
  | (apply ed_var; (rfl); (walk_at "td"))
  | (apply ed_ixT; (walk_at "ev"); (walk_at "ev"); (first | rfl | assumption))
  | (apply ed_rowI; (rfl); (assumption); (walk_at "ev"); (rfl))
  | (apply ed_ixL; (apply EvDL.rd; walk_at "edl"); (walk_at "ev"); (rfl))
  | (apply ed_intb; (walk_at "ev"))
  | (apply ed_len; walk_at "ev")
  | (apply ed_lenV; (apply ev_rowR; (rfl); (assumption); (walk_at "ev"); (rfl)); (assumption))
  | (apply ed_Ii; (walk_at "ev"); (walk_at "ev"); (walk_at "cc"))
  | (apply ed_isi; (walk_at "ev"); (rfl))
  | (apply ed_I0i; (walk_at "ev"); (walk_at "ev"))
  | (apply ed_I0b; (walk_at "ev"); (walk_at "ev"))
  | (apply ed_eqi; (walk_at "ev"); (walk_at "ev"))
  | (apply ed_nei; (walk_at "ev"); (walk_at "ev"))
  | (apply ed_andF; walk_at "ev")
  | (apply ed_andV; (walk_at "ev"); (intro _; walk_at "ev"))
  | (apply ed_orT; walk_at "ev")
  | (apply ed_orV; (walk_at "ev"); (intro _; walk_at "ev"))
  | (apply ed_notT; walk_at "ev")
  | (apply ed_notF; walk_at "ev")
  | (apply ed_notV; walk_at "ev")
  | (apply ed_chain; (walk_at "ev"); (walk_at "ev"); (intro _; walk_at "ev"))
  | (apply ed_eqS; (walk_at "ev"); (walk_at "ev"); (walk_at "bb"); (walk_at "bb"))
  | (apply ed_neS; (walk_at "ev"); (walk_at "ev"); (walk_at "bb"); (walk_at "bb"))
  | (apply ed_inT; (walk_at "ev"); (walk_at "ev"); (rfl); (rfl))
  | (apply ed_niT; (walk_at "ev"); (walk_at "ev"); (rfl); (rfl))
  | (apply ed_tup; (walk_at "eva"); (walk_at "bb"))
  | (apply ed_sl; (walk_at "ev"); (walk_at "evo"); (walk_at "evo"))
  | (apply ed_eqN; (apply EvDL.rd; walk_at "edl"); (walk_at "edl"); (walk_at "bb"))
  | (apply ed_neN; (apply EvDL.rd; walk_at "edl"); (walk_at "edl"); (walk_at "bb"))
  | (apply ed_ixL; (apply edr_var; (rfl); (assumption); (assumption)); (walk_at "ev"); (first | rfl | assumption))
  | (apply ed_lenL; (apply edr_var; (rfl); (assumption); (assumption)))
  | (apply ed_call; (walk_at "eva"); (walk_at "post")))
local macro_rules | `(tactic| walk_at "edl") => `(tactic| first
  | assumption
  | (apply edl_lst; (walk_at "eva"); (walk_at "bb")))
local macro_rules | `(tactic| walk_at "eva") => `(tactic| first
  | exact eda_nil
  | (apply eda_cons; (walk_at "ev"); (walk_at "eva")))
local macro_rules | `(tactic| walk_at "evo") => `(tactic| first
  | exact eok_none
  | (apply eok_some; walk_at "ev"))
local macro_rules | `(tactic| walk_at "bb") => `(tactic| first | rfl | assumption | (simp; done) | (simp; omega) | decide +kernel)
local macro_rules | `(tactic| walk_at "et") => `(tactic| first
  | exact tk_yes
  | (apply tk_andF; walk_at "et")
  | (apply tk_and; (walk_at "et"); (intro _; walk_at "et"))
  | (apply tk_orT; walk_at "et")
  | (apply tk_or; (walk_at "et"); (intro _; walk_at "et"))
  | (apply tk_notT; walk_at "et")
  | (apply tk_notF; walk_at "et")
  | (apply tk_not; walk_at "et")
  | (apply tk_v; walk_at "ev")
  | (apply tk_vB; walk_at "ev"))
local macro_rules | `(tactic| walk_at "if") => `(tactic| first
  | (apply pst_whenF; (walk_at "et"); (walk_at "bb"))
  | (apply pst_whenT; (walk_at "et"); (walk_at "bb")))
local macro_rules | `(tactic| walk_at "post") => `(tactic| first | assumption | exact ⟨_, _, rfl, rfl⟩ | exact ⟨_, _, _, _, rfl, by omega, by omega, rfl⟩ | exact ⟨_, _, _, 0, rfl, by omega, by omega, rfl⟩)
local macro_rules | `(tactic| walk_at "cc") => `(tactic| first | assumption | decide | omega | (refine ⟨?_, ?_⟩ <;> first | decide | omega) | (exact Or.inl (by constructor <;> omega)))

def strN (n : Nat) : Str := toString (n : Int)
def wT : Th → List Str
  | .num n => [strN n]
  | .sum a b => "+" :: (wT a ++ wT b)
  | .cell t => "cell" :: wT t
  | .own k => ["own", strN k]
  | .par k => ["par", strN k]
mutual
def wS : Stm → List Str
  | .set p t => "set" :: (wT p ++ wT t)
  | .say t => "say" :: wT t
  | .ite t a b => "if" :: (wT t ++ ((("(" : Str) :: (wB a ++ [(")" : Str)])) ++ (("(" : Str) :: (wB b ++ [(")" : Str)]))))
  | .call c ts => "call" :: strN c :: (ts.flatMap wT ++ [("." : Str)])
def wB : List Stm → List Str
  | [] => []
  | s :: r => wS s ++ wB r
end
def lnW (w : Wk) : Str := Txt.join " " (strN w.params :: strN w.owns :: wB w.body)
def txP (p : List Wk) : Str := Txt.join "\n" (p.map lnW)
theorem wB_flat : ∀ b : List Stm, wB b = b.flatMap wS
  | [] => by simp [wB]
  | s :: r => by simp [wB, wB_flat r]
theorem wT_len : ∀ t : Th, (wT t).length + 1 ≤ 3 * 2 ^ dpT t
  | .num n => by simp [wT, dpT]
  | .own n => by simp [wT, dpT]
  | .par n => by simp [wT, dpT]
  | .cell t => by
    have := wT_len t
    simp only [wT, dpT, List.length_cons, Nat.pow_succ, Nat.add_comm 1]
    omega
  | .sum a b => by
    have h1 := wT_len a
    have h2 := wT_len b
    have m1 : 2 ^ dpT a ≤ 2 ^ max (dpT a) (dpT b) := Nat.pow_le_pow_right (by decide) (Nat.le_max_left _ _)
    have m2 : 2 ^ dpT b ≤ 2 ^ max (dpT a) (dpT b) := Nat.pow_le_pow_right (by decide) (Nat.le_max_right _ _)
    simp only [wT, dpT, List.length_cons, List.length_append, Nat.pow_succ, Nat.add_comm 1]
    omega
theorem wT_le {t : Th} (h : dpT t ≤ 4) : (wT t).length ≤ 47 := by
  have := wT_len t
  have m : 2 ^ dpT t ≤ 2 ^ 4 := Nat.pow_le_pow_right (by decide) h
  omega
/-- small works -/
def ShOk (sh : List (Nat × Nat)) : Prop := sh.length ≤ 4 ∧ ∀ c, shP sh c ≤ 3 ∧ shO sh c ≤ 99
theorem flatT_len : ∀ ts : List Th, (∀ t ∈ ts, dpT t ≤ 4) → (ts.flatMap wT).length ≤ 47 * ts.length
  | [], _ => by simp
  | t :: r, h => by
    have h1 := wT_le (h t List.mem_cons_self)
    have h2 := flatT_len r fun u hu => h u (List.mem_cons_of_mem _ hu)
    simp only [List.flatMap_cons, List.length_append, List.length_cons]
    omega
mutual
theorem wS_len {sh : List (Nat × Nat)} {i : Nat} (hs : ShOk sh) : ∀ (x : Stm) (w : Nat), okS sh i x w = true → (wS x).length ≤ 150 * cntS x
  | .set p t, w, h => by
    simp only [okS, Bool.and_eq_true, decide_eq_true_eq] at h
    have h1 := wT_le (t := p) (by have := (okT_wf _ _ h.2.1).2; omega)
    have h2 := wT_le (t := t) (by have := (okT_wf _ _ h.2.2.2).2; omega)
    simp only [wS, cntS, List.length_cons, List.length_append]
    omega
  | .say t, w, h => by
    simp only [okS, Bool.and_eq_true, decide_eq_true_eq] at h
    have h2 := wT_le (t := t) (by have := (okT_wf _ _ h.2).2; omega)
    simp only [wS, cntS, List.length_cons]
    omega
  | .call c ts, w, h => by
    simp only [okS, Bool.and_eq_true, decide_eq_true_eq, List.all_eq_true] at h
    have h1 := flatT_len ts fun t ht => by have := (okT_wf _ _ (h.2.2.2.2 t ht)).2; omega
    have h2 := (hs.2 c).1
    have h3 := h.2.2.2.1
    simp only [wS, cntS, List.length_cons, List.length_append, List.length_nil]
    omega
  | .ite t a b, w, h => by
    simp only [okS, Bool.and_eq_true, decide_eq_true_eq] at h
    have h1 := wT_le (t := t) (by have := (okT_wf _ _ h.2.1).2; omega)
    have h2 := wB_len hs a (w + 1) h.2.2.1
    have h3 := wB_len hs b (w + 1) h.2.2.2
    simp only [wS, cntS, List.length_cons, List.length_append, List.length_nil]
    omega
theorem wB_len {sh : List (Nat × Nat)} {i : Nat} (hs : ShOk sh) : ∀ (b : List Stm) (w : Nat), okB sh i b w = true → (wB b).length ≤ 150 * cntB b
  | [], w, h => by simp [wB]
  | x :: r, w, h => by
    simp only [okB, Bool.and_eq_true] at h
    have h1 := wS_len hs x w h.1
    have h2 := wB_len hs r w h.2
    simp only [wB, cntB, List.length_append]
    omega
end
section
variable {K : PySem.W.Frag} {σ : L2.St} {H H' : Hp} {D : Ends} {te ta tb tl : TE} {tr : TA} {α : Type} {ds es : List PyData}
theorem strs_eq : ∀ {xs : List V} {es : List Str}, TdAll K H xs (es.map PyData.str) → xs = es.map V.str
  | [], [], _ => rfl
  | x :: xs, e :: es, .cons h1 h2 => by
    cases h1
    rw [strs_eq h2]
    rfl
  | _ :: _, [], h => by cases h
  | [], _ :: _, h => by cases h
theorem strs_td : ∀ y : List Str, TdAll K H (y.map V.str) (y.map PyData.str)
  | [] => .nil
  | a :: b => .cons (.str _) (strs_td b)
/-- words -/
def EvW (K : PySem.W.Frag) (te : TE) (σ : L2.St) (H : Hp) (es : List Str) : Prop := EvDL K te σ H (es.map PyData.str)
def spWd (K : PySem.W.Frag) (P : List PyData → List Str → Prop) : Sp := fun vs H Q _ => ∃ ds es, TdAll K H vs ds ∧ P ds es ∧ ∀ q H', H q = none → Ex H H' → H' q = some (.lst (es.map V.str)) → Q (.ref q) H'
theorem spWd_len {P : List PyData → List Str → Prop} {n : Nat} (h : ∀ ds d, P ds d → ds.length = n) (vs : List V) (H : Hp) (Q : VK) (E : XK) (q : spWd K P vs H Q E) : vs.length = n := by
  obtain ⟨ds, d, ht, hp, _⟩ := q
  rw [ht.length]
  exact h _ _ hp
theorem ew_call {P : List PyData → List Str → Prop} {E : XK} {ws : List Str} (h : EvDA K tr σ H ds) (hp : P ds ws) : EvW K (tCall (spWd K P) [] E tr) σ H ws := fun H1 a Q q =>
  h H1 a _ fun vs H2 e2 t2 => by
    rw [List.append_nil]
    exact ⟨ds, ws, t2, hp, fun p H3 hp3 e3 h3 => q p _ H3 (fresh_back e2 hp3) (e2.trans e3) h3 (strs_td _)⟩
theorem ew_cat {u v : List Str} (ha : EvW K ta σ H u) (hb : EvW K tb σ H v) (hl : u.length + v.length ≤ 50000) : EvW K (tOp rCat ta tb) σ H (u ++ v) := fun H1 a Q q =>
  ha H1 a _ fun p xs H2 hp e2 hx ht => hb H2 (a.trans e2) _ fun p' ys H3 hp' e3 hy ht' => ⟨p, p', xs, ys, rfl, rfl, e3 _ _ hx, hy, by rw [ht.length, ht'.length, List.length_map, List.length_map]; exact sz_of (by omega), fun q2 hq => q q2 (xs ++ ys) _ (fresh_back (e2.trans e3) hq) ((e2.trans e3).trans (Ex.new hq)) upd_same (by rw [List.map_append]; exact ((ht.ex e3).append ht').ex (Ex.new hq))⟩
theorem ew_catV {n : Nat} {fl : Addr} {u v : List Str} (hs : σ[n]? = some (some (.ref fl))) (hx : H fl = some (.lst (u.map V.str))) (hb : EvW K tb σ H v) (hl : u.length + v.length ≤ 50000) : EvW K (tOp rCat (tVar n) tb) σ H (u ++ v) := fun H1 a Q q =>
  ⟨.ref fl, hs, hb H1 a _ fun p' ys H3 hp' e3 hy ht' => ⟨fl, p', _, ys, rfl, rfl, (a.trans e3) _ _ hx, hy, by rw [ht'.length, List.length_map, List.length_map]; exact sz_of (by omega), fun q2 hq => q q2 (u.map V.str ++ ys) _ (fresh_back e3 hq) (e3.trans (Ex.new hq)) upd_same (by rw [List.map_append]; exact ((strs_td u).append ht').ex (Ex.new hq))⟩⟩
theorem ew_lst {ws : List Str} (h : EvDA K tr σ H (ws.map PyData.str)) (hl : ws.length ≤ 1000) : EvW K (tLst tr) σ H ws := edl_lst h (by rw [List.length_map]; omega)
theorem ew_is {u v : List Str} (h : EvW K te σ H u) (e : u = v) : EvW K te σ H v := e ▸ h
theorem ed_strN {n : Nat} (h : EvD K te σ H (.int (n : Int))) (hn : n ≤ 1000) : EvD K (tCB (fun xs H Q => ∃ i, xs = [.int i] ∧ i.natAbs.log2 < 1920 ∧ Q (.str (toString i)) H) (tCons te tNil)) σ H (.str (strN n)) := fun H1 e1 Q q =>
  h.iv H1 e1 _ fun H2 e2 => ⟨(n : Int), rfl, by have := Nat.log2_le_self n; show ((n : Int)).natAbs.log2 < 1920; rw [Int.natAbs_natCast]; omega, q _ H2 e2 (.str _)⟩
theorem w_wd {ws : List Str} {Q : VK} (h : EvW K te σ H ws) (k : ∀ p H1, H p = none → Ex H H1 → H1 p = some (.lst (ws.map V.str)) → Q (.ref p) H1) : te σ H Q := w_dl h fun p xs H1 hp e hx ht => k p H1 hp e (by rw [hx, strs_eq ht])
/-- found.extend(words) -/
theorem w_extW {n : Nat} {fl : Addr} {u v : List Str} (hs : σ[n]? = some (some (.ref fl))) (hl : H fl = some (.lst (u.map V.str))) (h : EvW K te σ H v) (hsz : u.length + v.length ≤ 50000) (k : ∀ H', Fr [fl] H H' → H' fl = some (.lst ((u ++ v).map V.str)) → D.nx σ H') :
    tDrop (tBM K "list" rExtend (tVar n) (tCons te tNil)) D σ H := ⟨.ref fl, hs, .inl ⟨rfl, _, SqL.of hl⟩, w_cons (w_dl (K := K) h fun pp xs' H2 hp e2 hx2 ht2 => w_nil ⟨fl, pp, _, xs', rfl, rfl, e2 _ _ hl, hx2, by rw [ht2.length, List.length_map, List.length_map]; exact sz_of (by omega), k _ ((Fr.of e2).trans (Fr.upd (by simp))) (by rw [upd_same, strs_eq ht2, List.map_append])⟩)⟩
/-- for x in a tuple: found.extend(words of x) -/
theorem w_forW {j n : Nat} {fl : Addr} {ws : List Str} (xs : List α) (f : α → PyData) (g : α → List Str) (h : EvD K tl σ H (.tuple (xs.map f))) (hfl : H fl = some (.lst (ws.map V.str))) (h0 : ∃ u, σ = σ.set j u) (hn : ∀ v : Option V, (σ.set j v)[n]? = some (some (.ref fl)))
    (hsz : ws.length + (xs.flatMap g).length ≤ 50000) (he : ∀ x v H', x ∈ xs → Fr [fl] H H' → Td K H' v (f x) → EvW K te (σ.set j (some v)) H' (g x))
    (k : ∀ u H', Fr [fl] H H' → H' fl = some (.lst ((ws ++ xs.flatMap g).map V.str)) → D.nx (σ.set j u) H') : tFor (iTup K tl) (gName j) (tDrop (tBM K "list" rExtend (tVar n) (tCons te tNil))) D σ H := by
  obtain ⟨u0, hu0⟩ := h0
  refine h H (Ex.refl H) _ fun v H1 e1 tv => ?_
  obtain ⟨a, ys, rfl, hx, hall⟩ := tv.tup_inv
  have hlen := hall.length
  rw [List.length_map] at hlen
  have kp : ∀ {H'}, Fr [fl] H1 H' → Keep K H1 H' := fun f1 => f1.keep fun b hb => by
    have : b = fl := by simpa using hb
    rw [this]
    exact ⟨_, e1 _ _ hfl, True.intro⟩
  refine ⟨a, rfl, ⟨ys, hx⟩, for_tup (xs := ys) (fun i σ' H' => ∃ u : Option V, σ' = σ.set j u ∧ Fr [fl] H1 H' ∧ H' fl = some (.lst ((ws ++ (xs.take i).flatMap g).map V.str))) ⟨u0, hu0, Fr.refl, by simpa using e1 _ _ hfl⟩ (fun i σ' H' _ p => ?_) (fun i x σ' H' hi p => ?_) (fun σ' H' p => ?_)⟩
  · obtain ⟨u, _, f1, _⟩ := p
    exact kp f1 a ys hx
  · obtain ⟨u, rfl, f1, hl⟩ := p
    obtain ⟨d, hdd, td⟩ := hall.getV hi
    rw [List.getElem?_map] at hdd
    obtain ⟨z, hz, rfl⟩ := Option.map_eq_some_iff.mp hdd
    have es : (σ.set j u).set j (some x) = σ.set j (some x) := List.set_set ..
    show tDrop (tBM K "list" rExtend (tVar n) (tCons te tNil)) _ ((σ.set j u).set j (some x)) H'
    rw [es]
    have hle : ((xs.take i).flatMap g).length + (g z).length ≤ (xs.flatMap g).length := by
      have e : xs = xs.take i ++ z :: xs.drop (i + 1) := by
        obtain ⟨hi, e⟩ := List.getElem?_eq_some_iff.mp hz
        rw [← e, List.getElem_cons_drop, List.take_append_drop]
      conv => rhs; rw [e]
      simp only [List.flatMap_append, List.flatMap_cons, List.length_append]
      omega
    refine w_extW (hn _) hl (he z x H' (List.mem_of_getElem? hz) ((Fr.of e1).trans f1) (td.kp (kp f1))) (by rw [List.length_append]; omega) fun H3 f3 h3 => ⟨_, rfl, f1.trans f3, ?_⟩
    rw [h3, take_snoc hz]
    simp
  · obtain ⟨u, rfl, f1, hl⟩ := p
    rw [hlen, List.take_length] at hl
    exact k u H' ((Fr.of e1).trans f1) hl
end
theorem cutD_suf {ds : List PyData} {k : Nat} : cutD ds (some (k : Int)) none = ds.drop k := by
  unfold cutD
  rw [HT.sIx_none, HT.sIx_nat]
  rcases Nat.le_total k ds.length with h | h
  · rw [Nat.min_eq_left h, List.take_of_length_le (by simp)]
  · rw [Nat.min_eq_right h, List.drop_of_length_le (Nat.le_refl _), List.drop_of_length_le h]
    simp
section
variable {K : PySem.W.Frag} {σ : L2.St} {H H' H3 : Hp} {D : Ends} {te to : TE} {tr : TA}
theorem ex_fr1 {fl : Addr} (e : Ex H H3) (hfl : H fl = none) (f : Fr [fl] H3 H') : Ex H H' := fun q o h => f q o (by simp only [List.mem_singleton]; intro e2; rw [e2, hfl] at h; cases h) (e _ _ h)
/-- found.append(a word) -/
theorem w_appW {n : Nat} {fl : Addr} {u : List Str} {s : Str} (hs : σ[n]? = some (some (.ref fl))) (hl : H fl = some (.lst (u.map V.str))) (h : EvD K te σ H (.str s)) (hsz : u.length ≤ 50000) (k : ∀ H', Fr [fl] H H' → H' fl = some (.lst ((u ++ [s]).map V.str)) → D.nx σ H') :
    tDrop (tBM K "list" rAppend (tVar n) (tCons te tNil)) D σ H := w_app hs hl (w_d (K := K) h fun v H1 e1 tv => by
  cases tv
  exact ⟨_, e1 _ _ hl, by rw [List.length_map]; exact sz_lt (by omega), k _ ((Fr.of e1).trans (Fr.upd (by simp))) (by rw [upd_same, List.map_append]; rfl)⟩)
/-- text.join(words) -/
theorem ed_join {a : Str} {ws : List Str} (ha : EvD K to σ H (.str a)) (hw : EvW K te σ H ws) (hsz : (ws.map (·.length)).sum + ws.length * a.length ≤ 16777216) : EvD K (tM1 (fun x xs H Q => ∃ a p, ∃ ys : List Str, x = .str a ∧ xs = [.ref p] ∧ (SqL K H p (ys.map V.str) ∨ SqT K H p (ys.map V.str)) ∧
      (ys.map (·.length)).sum + ys.length * a.length ≤ 16777216 ∧ Q (.str (Txt.join a ys)) H) to te) σ H (.str (Txt.join a ws)) := fun H1 e1 Q q =>
  ha H1 e1 _ fun v H2 e2 tv => by
    cases tv
    refine ⟨⟨a, rfl⟩, hw H2 (e1.trans e2) _ fun p xs H3 hp e3 hx ht => ⟨a, p, ws, rfl, rfl, .inl ?_, hsz, q _ H3 (e2.trans e3) (.str _)⟩⟩
    rw [strs_eq ht] at hx
    exact SqL.of hx
theorem ed_joinV {n : Nat} {fl : Addr} {a : Str} {ws : List Str} (ha : EvD K to σ H (.str a)) (hs : σ[n]? = some (some (.ref fl))) (hl : H fl = some (.lst (ws.map V.str))) (hsz : (ws.map (·.length)).sum + ws.length * a.length ≤ 16777216) : EvD K (tM1 (fun x xs H Q => ∃ a p, ∃ ys : List Str, x = .str a ∧ xs = [.ref p] ∧ (SqL K H p (ys.map V.str) ∨ SqT K H p (ys.map V.str)) ∧
      (ys.map (·.length)).sum + ys.length * a.length ≤ 16777216 ∧ Q (.str (Txt.join a ys)) H) to (tVar n)) σ H (.str (Txt.join a ws)) := fun H1 e1 Q q =>
  ha H1 e1 _ fun v H2 e2 tv => by
    cases tv
    exact ⟨⟨a, rfl⟩, .ref fl, hs, a, fl, ws, rfl, rfl, .inl (SqL.of ((e1.trans e2) _ _ hl)), hsz, q _ H2 e2 (.str _)⟩
end
theorem wB_part {b : List Stm} {i : Nat} {x : Stm} (h : b[i]? = some x) : (wB (b.take i)).length + (wS x).length ≤ (wB b).length := by
  have e : b = b.take i ++ x :: b.drop (i + 1) := by
    obtain ⟨hi, e⟩ := List.getElem?_eq_some_iff.mp h
    rw [← e, List.getElem_cons_drop, List.take_append_drop]
  conv => rhs; rw [e]
  rw [wB_flat, wB_flat]
  simp only [List.flatMap_append, List.flatMap_cons, List.length_append]
  omega
theorem wB_snoc {b : List Stm} {i : Nat} {x : Stm} (h : b[i]? = some x) : wB (b.take (i + 1)) = wB (b.take i) ++ wS x := by
  rw [take_snoc h, wB_flat, wB_flat]
  simp
/-! how long words and lines are -/
def goodW (z : Str) : Bool := decide (z.length ≤ 4) && (TL.tl z).all fun c => decide (33 ≤ c) && decide (c < 127)
theorem strN_good : ∀ n < 100, goodW (strN n) = true := by decide +kernel
theorem wT_good {ps os : Nat} (hp : ps ≤ 3) (ho : os ≤ 99) : ∀ t : Th, wfT ps os t = true → ∀ z ∈ wT t, goodW z = true
  | .num n, h, z, hz => by
    simp only [wfT, decide_eq_true_eq] at h
    have : z = strN n := by simpa [wT] using hz
    rw [this]; exact strN_good n (by omega)
  | .own n, h, z, hz => by
    simp only [wfT, decide_eq_true_eq] at h
    rcases (by simpa [wT] using hz : z = "own" ∨ z = strN n) with e | e <;> rw [e]
    · decide +kernel
    · exact strN_good n (by omega)
  | .par n, h, z, hz => by
    simp only [wfT, decide_eq_true_eq] at h
    rcases (by simpa [wT] using hz : z = "par" ∨ z = strN n) with e | e <;> rw [e]
    · decide +kernel
    · exact strN_good n (by omega)
  | .cell t, h, z, hz => by
    simp only [wfT] at h
    rcases (by simpa [wT] using hz : z = "cell" ∨ z ∈ wT t) with e | e
    · rw [e]; decide +kernel
    · exact wT_good hp ho t h z e
  | .sum a b, h, z, hz => by
    simp only [wfT, Bool.and_eq_true] at h
    rcases (by simpa [wT] using hz : z = "+" ∨ z ∈ wT a ∨ z ∈ wT b) with e | e | e
    · rw [e]; decide +kernel
    · exact wT_good hp ho a h.1 z e
    · exact wT_good hp ho b h.2 z e
mutual
theorem wS_good {sh : List (Nat × Nat)} {i : Nat} (hs : ShOk sh) : ∀ (x : Stm) (w : Nat), okS sh i x w = true → ∀ z ∈ wS x, goodW z = true
  | .set p t, w, h, z, hz => by
    simp only [okS, Bool.and_eq_true, decide_eq_true_eq] at h
    rcases (by simpa [wS] using hz : z = "set" ∨ z ∈ wT p ∨ z ∈ wT t) with e | e | e
    · rw [e]; decide +kernel
    · exact wT_good (hs.2 i).1 (hs.2 i).2 p (okT_wf _ _ h.2.1).1 z e
    · exact wT_good (hs.2 i).1 (hs.2 i).2 t (okT_wf _ _ h.2.2.2).1 z e
  | .say t, w, h, z, hz => by
    simp only [okS, Bool.and_eq_true, decide_eq_true_eq] at h
    rcases (by simpa [wS] using hz : z = "say" ∨ z ∈ wT t) with e | e
    · rw [e]; decide +kernel
    · exact wT_good (hs.2 i).1 (hs.2 i).2 t (okT_wf _ _ h.2).1 z e
  | .call c ts, w, h, z, hz => by
    simp only [okS, Bool.and_eq_true, decide_eq_true_eq, List.all_eq_true] at h
    have hl := hs.1
    simp only [wS, List.mem_cons, List.mem_append, List.mem_flatMap, List.not_mem_nil, or_false] at hz
    rcases hz with e | e | ⟨t, ht, e⟩ | e
    · rw [e]; decide +kernel
    · rw [e]; exact strN_good c (by omega)
    · exact wT_good (hs.2 i).1 (hs.2 i).2 t (okT_wf _ _ (h.2.2.2.2 t ht)).1 z e
    · rw [e]; decide +kernel
  | .ite t a b, w, h, z, hz => by
    simp only [okS, Bool.and_eq_true, decide_eq_true_eq] at h
    simp only [wS, List.mem_cons, List.mem_append, List.not_mem_nil, or_false] at hz
    have par : goodW "(" = true ∧ goodW ")" = true ∧ goodW "if" = true := by decide +kernel
    rcases hz with e | e | ((e | e | e) | (e | e | e))
    · rw [e]; exact par.2.2
    · exact wT_good (hs.2 i).1 (hs.2 i).2 t (okT_wf _ _ h.2.1).1 z e
    · rw [e]; exact par.1
    · exact wB_good hs a (w + 1) h.2.2.1 z e
    · rw [e]; exact par.2.1
    · rw [e]; exact par.1
    · exact wB_good hs b (w + 1) h.2.2.2 z e
    · rw [e]; exact par.2.1
theorem wB_good {sh : List (Nat × Nat)} {i : Nat} (hs : ShOk sh) : ∀ (b : List Stm) (w : Nat), okB sh i b w = true → ∀ z ∈ wB b, goodW z = true
  | [], w, h, z, hz => by simp [wB] at hz
  | x :: r, w, h, z, hz => by
    simp only [okB, Bool.and_eq_true] at h
    rcases (by simpa [wB] using hz : z ∈ wS x ∨ z ∈ wB r) with e | e
    · exact wS_good hs x w h.1 z e
    · exact wB_good hs r w h.2 z e
end
theorem good_sum : ∀ {ws : List Str}, (∀ z ∈ ws, goodW z = true) → (ws.map (·.length)).sum ≤ 4 * ws.length
  | [], _ => by simp
  | a :: r, h => by
    have h1 := h a List.mem_cons_self
    have h2 := good_sum (ws := r) fun z hz => h z (List.mem_cons_of_mem _ hz)
    simp only [goodW, Bool.and_eq_true, decide_eq_true_eq] at h1
    simp only [List.map_cons, List.sum_cons, List.length_cons]
    omega
theorem joinL_len (S : List Nat) : ∀ ps : List (List Nat), (TL.joinL S ps).length ≤ (ps.map (·.length)).sum + ps.length * S.length
  | [] => by simp [TL.joinL]
  | [p] => by simp [TL.joinL]
  | p :: q :: r => by
    have ih := joinL_len S (q :: r)
    have e : TL.joinL S (p :: q :: r) = p ++ (S ++ TL.joinL S (q :: r)) := rfl
    rw [e]
    simp only [List.length_append, List.map_cons, List.sum_cons, List.length_cons, Nat.succ_mul] at ih ⊢
    omega
theorem join_len (a : Str) (ys : List Str) : (Txt.join a ys).length ≤ (ys.map (·.length)).sum + ys.length * a.length := by
  have h := joinL_len (TL.tl a) (ys.map TL.tl)
  rw [TL.len_tl, TL.join_eq, TL.tl_join]
  rw [List.map_map, List.length_map, ← TL.len_tl] at h
  have e : (List.length ∘ TL.tl) = fun y : Str => y.length := by funext y; exact (TL.len_tl y).symm
  rw [e] at h
  exact h
theorem shOk_of {p : List Wk} (h : okP p = true) : ShOk (shapes p) := by
  refine ⟨by have := okP_len h; simp [shapes]; omega, fun c => ?_⟩
  by_cases hc : c < p.length
  · have hp : p[c]? = some p[c] := List.getElem?_eq_getElem hc
    rw [shP_get hp, shO_get hp]
    have := okP_get h hp
    exact ⟨this.1, this.2.1⟩
  · have : (shapes p).getD c (0, 0) = (0, 0) := by
      simp [shapes, List.getD, List.getElem?_eq_none (by omega : p.length ≤ c)]
    simp only [shP, shO, this]
    omega
theorem lnW_len {p : List Wk} {i : Nat} {w : Wk} (h : okP p = true) (hi : p[i]? = some w) : (lnW w).length ≤ 100000 ∧ ((strN w.params :: strN w.owns :: wB w.body).map (·.length)).sum + (strN w.params :: strN w.owns :: wB w.body).length * (" " : Str).length ≤ 100000 ∧ ∀ z ∈ strN w.params :: strN w.owns :: wB w.body, goodW z = true := by
  have g := okP_get h hi
  have hs := shOk_of h
  have hl := wB_len hs w.body 0 g.2.2.1
  have hg : ∀ z ∈ strN w.params :: strN w.owns :: wB w.body, goodW z = true := fun z hz => by
    rcases List.mem_cons.mp hz with e | hz
    · rw [e]; exact strN_good _ (by omega)
    rcases List.mem_cons.mp hz with e | hz
    · rw [e]; exact strN_good _ (by omega)
    · exact wB_good hs w.body 0 g.2.2.1 z hz
  have h1 := good_sum hg
  have e1 : (" " : Str).length = 1 := by decide +kernel
  have h2 := join_len " " (strN w.params :: strN w.owns :: wB w.body)
  rw [e1] at h2 ⊢
  simp only [List.length_cons] at h1 h2 ⊢
  refine ⟨?_, ?_, hg⟩
  · unfold lnW
    omega
  · omega
theorem goodW_c {z : Str} (h : goodW z = true) : z.length ≤ 4 ∧ ∀ c ∈ TL.tl z, 33 ≤ c ∧ c < 127 := by
  simp only [goodW, Bool.and_eq_true, decide_eq_true_eq, List.all_eq_true] at h
  exact h
theorem joinL_mem {S : List Nat} {c : Nat} : ∀ {ps : List (List Nat)}, c ∈ TL.joinL S ps → c ∈ S ∨ ∃ p ∈ ps, c ∈ p
  | [], h => by simp [TL.joinL] at h
  | [p], h => .inr ⟨p, by simp, by simpa [TL.joinL] using h⟩
  | p :: q :: r, h => by
    have e : TL.joinL S (p :: q :: r) = p ++ (S ++ TL.joinL S (q :: r)) := rfl
    rw [e, List.mem_append, List.mem_append] at h
    rcases h with h | h | h
    · exact .inr ⟨p, by simp, h⟩
    · exact .inl h
    · rcases joinL_mem h with h | ⟨x, hx, h⟩
      · exact .inl h
      · exact .inr ⟨x, List.mem_cons_of_mem _ hx, h⟩
theorem join_mem {y : Str} {ws : List Str} {c : Nat} (h : c ∈ TL.tl (Txt.join y ws)) : c ∈ TL.tl y ∨ ∃ z ∈ ws, c ∈ TL.tl z := by
  rw [TL.join_eq, TL.tl_join] at h
  rcases joinL_mem h with h | ⟨p, hp, h⟩
  · exact .inl h
  · obtain ⟨z, hz, rfl⟩ := List.mem_map.mp hp
    exact .inr ⟨z, hz, h⟩
theorem str_lay {z : Str} (h : ∀ c ∈ TL.tl z, c < 1000) : (PyData.str z).canLay0 = true := by
  simp only [PyData.canLay0, PyData.strOk, Array.all_eq_true, decide_eq_true_eq]
  intro i hi
  have := h z.cps[i] (by simp [TL.tl])
  omega
theorem tl_sp : TL.tl (" " : Str) = [32] ∧ TL.tl ("\n" : Str) = [10] := by decide +kernel
theorem lnW_c {p : List Wk} {i : Nat} {w : Wk} (h : okP p = true) (hi : p[i]? = some w) : ∀ c ∈ TL.tl (lnW w), 32 ≤ c ∧ c < 127 := fun c hc => by
  rcases join_mem hc with e | ⟨z, hz, hc⟩
  · rw [tl_sp.1] at e
    simp only [List.mem_cons, List.not_mem_nil, or_false] at e
    omega
  · have := (goodW_c ((lnW_len h hi).2.2 z hz)).2 c hc
    omega
theorem txP_lay {p : List Wk} (h : okP p = true) : (PyData.str (txP p)).canLay0 = true := str_lay fun c hc => by
  rcases join_mem hc with e | ⟨z, hz, hc⟩
  · rw [tl_sp.2] at e
    simp only [List.mem_cons, List.not_mem_nil, or_false] at e
    omega
  · obtain ⟨w, hw, rfl⟩ := List.mem_map.mp hz
    obtain ⟨i, hi⟩ := List.mem_iff_getElem?.mp hw
    have := lnW_c h hi c hc
    omega
theorem txP_rows {p : List Wk} (h : okP p = true) : Txt.split (txP p) "\n" = p.map lnW := by
  have h1 := okP_len h
  refine TL.split_join tl_sp.2 (by decide +kernel) (fun e => ?_) fun z hz hc => ?_
  · have := List.map_eq_nil_iff.mp e
    rw [this] at h1
    simp at h1
  · obtain ⟨w, hw, rfl⟩ := List.mem_map.mp hz
    obtain ⟨i, hi⟩ := List.mem_iff_getElem?.mp hw
    have := lnW_c h hi 10 hc
    omega
theorem lnW_words {p : List Wk} {i : Nat} {w : Wk} (h : okP p = true) (hi : p[i]? = some w) : Txt.split (lnW w) " " = strN w.params :: strN w.owns :: wB w.body := by
  refine TL.split_join tl_sp.1 (by decide +kernel) (by simp) fun z hz hc => ?_
  have := (goodW_c ((lnW_len h hi).2.2 z hz)).2 32 hc
  omega
def pWT (n : Nat) (ds : List PyData) (es : List Str) : Prop := ∃ (t : Th) (ps os : Nat), ds = [encT t] ∧ wfT ps os t = true ∧ ps ≤ 3 ∧ os ≤ 99 ∧ dpT t ≤ n ∧ dpT t ≤ 4 ∧ es = wT t
end Hw

set_option maxRecDepth 100000
set_option maxHeartbeats 4000000
/-! NX: thing_words, body_words, written -/
namespace Hw
open PySem PySem.Spec PyProof.Rows L2 Evl
local macro_rules | `(tactic| walk_at "dd") => `(tactic| first | rfl | decide | (simp; done) | omega)
local macro_rules | `(tactic| walk_at "td") => `(tactic| first | assumption | exact Td.int _ | exact Td.bl _ | exact Td.str _ | exact Td.non | exact Td.tup (by assumption) (by assumption))
local macro_rules | `(tactic| walk_at "ev") => `(tactic| first
  | exact ed_ci | exact ed_cs | exact ed_cb | exact ed_cn
  | (apply ed_cg; assumption)
  | (apply ed_var; (rfl); (walk_at "td"))
  | (apply ed_ixT; (walk_at "ev"); (walk_at "ev"); (first | rfl | assumption))
  | (apply ed_rowI; (rfl); (assumption); (walk_at "ev"); (rfl))
  | (apply ed_ixL; (apply EvDL.rd; walk_at "edl"); (walk_at "ev"); (rfl))
  | (apply ed_intb; (walk_at "ev"))
  | (apply ed_len; walk_at "ev")
  | (apply ed_lenV; (apply ev_rowR; (rfl); (assumption); (walk_at "ev"); (rfl)); (assumption))
  | (apply ed_Ii; (walk_at "ev"); (walk_at "ev"); (walk_at "cc"))
  | (apply ed_isi; (walk_at "ev"); (rfl))
  | (apply ed_I0i; (walk_at "ev"); (walk_at "ev"))
  | (apply ed_I0b; (walk_at "ev"); (walk_at "ev"))
  | (apply ed_eqi; (walk_at "ev"); (walk_at "ev"))
  | (apply ed_nei; (walk_at "ev"); (walk_at "ev"))
  | (apply ed_andF; walk_at "ev")
  | (apply ed_andV; (walk_at "ev"); (intro _; walk_at "ev"))
  | (apply ed_orT; walk_at "ev")
  | (apply ed_orV; (walk_at "ev"); (intro _; walk_at "ev"))
  | (apply ed_notT; walk_at "ev")
  | (apply ed_notF; walk_at "ev")
  | (apply ed_notV; walk_at "ev")
  | (apply ed_chain; (walk_at "ev"); (walk_at "ev"); (intro _; walk_at "ev"))
  | (apply ed_eqS; (walk_at "ev"); (walk_at "ev"); (walk_at "bb"); (walk_at "bb"))
  | (apply ed_neS; (walk_at "ev"); (walk_at "ev"); (walk_at "bb"); (walk_at "bb"))
  | (apply ed_inT; (walk_at "ev"); (walk_at "ev"); (rfl); (rfl))
  | (apply ed_niT; (walk_at "ev"); (walk_at "ev"); (rfl); (rfl))
  | (apply ed_tup; (walk_at "eva"); (walk_at "bb"))
  | (apply ed_sl; (walk_at "ev"); (walk_at "evo"); (walk_at "evo"))
  | (apply ed_eqN; (apply EvDL.rd; walk_at "edl"); (walk_at "edl"); (walk_at "bb"))
  | (apply ed_neN; (apply EvDL.rd; walk_at "edl"); (walk_at "edl"); (walk_at "bb"))
  | (apply ed_ixL; (apply edr_var; (rfl); (assumption); (assumption)); (walk_at "ev"); (first | rfl | assumption))
  | (apply ed_lenL; (apply edr_var; (rfl); (assumption); (assumption)))
  | (apply ed_call; (walk_at "eva"); (walk_at "post")))
local macro_rules | `(tactic| walk_at "edl") => `(tactic| first
  | assumption
  | (apply edl_lst; (walk_at "eva"); (walk_at "bb")))
local macro_rules | `(tactic| walk_at "eva") => `(tactic| first
  | exact eda_nil
  | (apply eda_cons; (walk_at "ev"); (walk_at "eva")))
local macro_rules | `(tactic| walk_at "evo") => `(tactic| first
  | exact eok_none
  | (apply eok_some; walk_at "ev"))
local macro_rules | `(tactic| walk_at "bb") => `(tactic| first | rfl | assumption | (simp; done) | (simp; omega) | decide +kernel)
local macro_rules | `(tactic| walk_at "et") => `(tactic| first
  | exact tk_yes
  | (apply tk_andF; walk_at "et")
  | (apply tk_and; (walk_at "et"); (intro _; walk_at "et"))
  | (apply tk_orT; walk_at "et")
  | (apply tk_or; (walk_at "et"); (intro _; walk_at "et"))
  | (apply tk_notT; walk_at "et")
  | (apply tk_notF; walk_at "et")
  | (apply tk_not; walk_at "et")
  | (apply tk_v; walk_at "ev")
  | (apply tk_vB; walk_at "ev"))
local macro_rules | `(tactic| walk_at "if") => `(tactic| first
  | (apply pst_whenF; (walk_at "et"); (walk_at "bb"))
  | (apply pst_whenT; (walk_at "et"); (walk_at "bb")))
local macro_rules | `(tactic| walk_at "post") => `(tactic| first | assumption | exact ⟨_, _, rfl, rfl⟩ | exact ⟨_, _, _, _, rfl, by omega, by omega, rfl⟩ | exact ⟨_, _, _, 0, rfl, by omega, by omega, rfl⟩)
local macro_rules | `(tactic| walk_at "cc") => `(tactic| first | assumption | decide | omega | (refine ⟨?_, ?_⟩ <;> first | decide | omega) | (exact Or.inl (by constructor <;> omega)))

theorem okB_in {sh : List (Nat × Nat)} {i w : Nat} : ∀ {b : List Stm} {x : Stm}, okB sh i b w = true → x ∈ b → okS sh i x w = true
  | y :: r, x, h, hm => by
    simp only [okB, Bool.and_eq_true] at h
    rcases List.mem_cons.mp hm with e | hm
    · rw [e]; exact h.1
    · exact okB_in h.2 hm
theorem cntB_in : ∀ {b : List Stm} {x : Stm}, x ∈ b → cntS x ≤ cntB b
  | y :: r, x, hm => by
    simp only [cntB]
    rcases List.mem_cons.mp hm with e | hm
    · rw [e]; omega
    · have := cntB_in hm
      omega
theorem sum_le {m : Nat} : ∀ {ws : List Str}, (∀ z ∈ ws, z.length ≤ m) → (ws.map (·.length)).sum ≤ m * ws.length
  | [], _ => by simp
  | a :: r, h => by
    have h1 := h a List.mem_cons_self
    have h2 := sum_le (ws := r) fun z hz => h z (List.mem_cons_of_mem _ hz)
    simp only [List.map_cons, List.sum_cons, List.length_cons, Nat.mul_succ]
    omega
/-- a body in brackets -/
def wIn (z : List Stm) : List Str := ("(" : Str) :: (wB z ++ [(")" : Str)])
def pWB (n : Nat) (ds : List PyData) (es : List Str) : Prop := ∃ (b : List Stm) (sh : List (Nat × Nat)) (i w : Nat), ds = [.tuple (encB b)] ∧ ShOk sh ∧ okB sh i b w = true ∧ dpB b ≤ n ∧ cntB b ≤ 100 ∧ es = wB b
def spWr (K : PySem.W.Frag) : Sp := fun vs H Q _ => ∃ (pw : V) (p : List Wk), vs = [pw] ∧ Td K H pw (encP p) ∧ okP p = true ∧ smP p ∧ ∀ H', Ex H H' → Q (.str (txP p)) H'
end Hw

set_option maxRecDepth 100000
set_option maxHeartbeats 4000000
/-! NP: texts read back, in plain Lean -/
namespace Hw
open PySem PySem.Spec PyProof.Rows L2 Evl
theorem w_while {σ : L2.St} {H : Hp} {D : Ends} {c : TT} {tb : TS} (W : Nat → L2.St → Hp → Prop) (m : Nat) (h0 : W m σ H) (h : ∀ m σ H, W m σ H → c σ H fun b H1 => if b = true then ∃ N : L2.St → Hp → Prop, (∀ σ' H', N σ' H' → ∃ m', m' < m ∧ W m' σ' H') ∧ tb { D with nx := N, ct := N, bk := D.nx } σ H1 else D.nx σ H1) : tWhile c tb D σ H := ⟨W, ⟨m, h0⟩, h⟩
/-- none: too deep; some none: no good; else what was read, and the place behind it -/
abbrev Rd (α : Type) := Option (Option (α × Nat))
def bindR {α β : Type} (r : Rd α) (g : α → Nat → Rd β) : Rd β := match r with
  | none => none
  | some none => some none
  | some (some (x, n)) => g x n
section
variable {α β : Type} {r : Rd α} {g : α → Nat → Rd β} {x : α} {n : Nat}
theorem bindR_ok : bindR (some (some (x, n))) g = g x n := rfl
theorem bindR_bad : bindR (some none) g = some none := rfl
theorem bindR_ne (h : bindR r g ≠ none) : r ≠ none := fun e => h (by rw [e]; rfl)
theorem bindR_of (h : r = some (some (x, n))) : bindR r g = g x n := by rw [h]; rfl
theorem bindR_b (h : r = some none) : bindR r g = some none := by rw [h]; rfl
theorem bindR_inv {y : β} {m : Nat} (h : bindR r g = some (some (y, m))) : ∃ x n, r = some (some (x, n)) ∧ g x n = some (some (y, m)) := by
  rcases r with _ | _ | ⟨x, n⟩
  · cases h
  · cases h
  · exact ⟨x, n, rfl, h⟩
end
def hereW (ws : List Str) (n : Nat) : Str := (ws[n]?).getD ""
def numOf (z : Str) : Option Nat := (List.range 100).find? fun m => decide (strN m = z)
def rdWord (ws : List Str) (n : Nat) : Rd Str := match ws[n]? with
  | some z => some (some (z, n + 1))
  | none => some none
def rdNum (ws : List Str) (n : Nat) : Rd Nat := bindR (rdWord ws n) fun z m => match numOf z with
  | some k => some (some (k, m))
  | none => some none
def rdT (ws : List Str) : Nat → Nat → Rd Th
  | 0, _ => none
  | d + 1, n =>
    if hereW ws n = "+" then bindR (rdT ws d (n + 1)) fun a m => bindR (rdT ws d m) fun b l => some (some (.sum a b, l))
    else if hereW ws n = "cell" then bindR (rdT ws d (n + 1)) fun a m => some (some (.cell a, m))
    else if hereW ws n = "own" then bindR (rdNum ws (n + 1)) fun k m => some (some (.own k, m))
    else if hereW ws n = "par" then bindR (rdNum ws (n + 1)) fun k m => some (some (.par k, m))
    else bindR (rdNum ws n) fun k m => some (some (.num k, m))
/-- as long as there are any -/
def itR {α : Type} (S : Nat → Rd α) (go : Nat → Bool) : Nat → Nat → Rd (List α)
  | 0, _ => none
  | k + 1, n => if go n then bindR (S n) fun x m => bindR (itR S go k m) fun r l => some (some (x :: r, l)) else some (some ([], n))
def isStepW (z : Str) : Bool := decide (z = "set") || (decide (z = "say") || (decide (z = "if") || decide (z = "call")))
def rdIn (ws : List Str) (B : Nat → Rd (List Stm)) (n : Nat) : Rd (List Stm) :=
  bindR (rdWord ws n) fun z m => if z = "(" then bindR (B m) fun b l => bindR (rdWord ws l) fun y e => if y = ")" then some (some (b, e)) else some none else some none
def rdTs (ws : List Str) (dt n : Nat) : Rd (List Th) := itR (rdT ws dt) (fun i => !decide (hereW ws i = ".")) (ws.length + 1) n
def rdS (ws : List Str) (dt : Nat) : Nat → Nat → Rd Stm
  | 0, _ => none
  | d + 1, n => bindR (rdWord ws n) fun z m =>
    if z = "call" then bindR (rdNum ws m) fun c l => bindR (rdTs ws dt l) fun ts e => some (some (.call c ts, e + 1))
    else bindR (rdT ws dt m) fun t l =>
      if z = "say" then some (some (.say t, l))
      else if z = "set" then bindR (rdT ws dt l) fun u e => some (some (.set t u, e))
      else if z = "if" then bindR (rdIn ws (fun i => itR (rdS ws dt d) (fun j => isStepW (hereW ws j)) (ws.length + 1) i) l) fun a e => bindR (rdIn ws (fun i => itR (rdS ws dt d) (fun j => isStepW (hereW ws j)) (ws.length + 1) i) e) fun b e2 => some (some (.ite t a b, e2))
      else none
def rdB (ws : List Str) (dt d n : Nat) : Rd (List Stm) := itR (rdS ws dt d) (fun j => isStepW (hereW ws j)) (ws.length + 1) n
def rdL (dt d : Nat) (ws : List Str) : Rd Wk := bindR (rdNum ws 0) fun p n => bindR (rdNum ws n) fun o m => bindR (rdB ws dt d m) fun b e => if e = ws.length then some (some (⟨p, o, b⟩, e)) else some none
/-! ### what was read lies further -/
theorem rdWord_lt {ws : List Str} {n m : Nat} {z : Str} (h : rdWord ws n = some (some (z, m))) : ws[n]? = some z ∧ m = n + 1 ∧ n < ws.length := by
  unfold rdWord at h
  cases hw : ws[n]? with
  | none => rw [hw] at h; cases h
  | some y =>
    rw [hw] at h
    cases h
    exact ⟨rfl, rfl, (List.getElem?_eq_some_iff.mp hw).1⟩
theorem rdWord_ne {ws : List Str} {n : Nat} : rdWord ws n ≠ none := by unfold rdWord; split <;> simp
theorem rdNum_ne {ws : List Str} {n : Nat} : rdNum ws n ≠ none := by
  unfold rdNum
  rcases h : rdWord ws n with _ | _ | ⟨z, m⟩
  · exact absurd h rdWord_ne
  · simp [bindR]
  · rw [bindR_ok]; split <;> simp
theorem rdNum_inv {ws : List Str} {n m k : Nat} (h : rdNum ws n = some (some (k, m))) : ws[n]? = some (strN k) ∧ m = n + 1 ∧ n < ws.length ∧ k < 100 := by
  obtain ⟨z, e, h1, h2⟩ := bindR_inv h
  obtain ⟨a, b, c⟩ := rdWord_lt h1
  cases hf : numOf z with
  | none => rw [hf] at h2; cases h2
  | some j =>
    rw [hf] at h2
    cases h2
    have p := List.find?_some hf
    have q := List.mem_range.mp (List.mem_of_find?_eq_some hf)
    simp only [decide_eq_true_eq] at p
    exact ⟨by rw [a, p], b, c, q⟩
theorem rdT_lt {ws : List Str} : ∀ {d n m : Nat} {t : Th}, rdT ws d n = some (some (t, m)) → n < m ∧ m ≤ ws.length
  | 0, _, _, _, h => by cases h
  | d + 1, n, m, t, h => by
    simp only [rdT] at h
    split at h
    · obtain ⟨a, e, h1, h2⟩ := bindR_inv h
      obtain ⟨b, l, h3, h4⟩ := bindR_inv h2
      cases h4
      have := rdT_lt h1
      have := rdT_lt h3
      omega
    split at h
    · obtain ⟨a, e, h1, h2⟩ := bindR_inv h
      cases h2
      have := rdT_lt h1
      omega
    split at h
    · obtain ⟨a, e, h1, h2⟩ := bindR_inv h
      cases h2
      have := rdNum_inv h1
      omega
    split at h
    · obtain ⟨a, e, h1, h2⟩ := bindR_inv h
      cases h2
      have := rdNum_inv h1
      omega
    · obtain ⟨a, e, h1, h2⟩ := bindR_inv h
      cases h2
      have := rdNum_inv h1
      omega
/-! ### what is written is read -/
theorem numOf_str : ∀ m < 100, numOf (strN m) = some m := by decide +kernel
theorem numOf_inv {z : Str} {k : Nat} (h : numOf z = some k) : z = strN k ∧ k < 100 := by
  have p := List.find?_some h
  have q := List.mem_range.mp (List.mem_of_find?_eq_some h)
  simp only [decide_eq_true_eq] at p
  exact ⟨p.symm, q⟩
/-- words that are read: they stand at n -/
def AtW (ws : List Str) (n : Nat) (zs : List Str) : Prop := (ws.drop n).take zs.length = zs
theorem AtW.app {ws u v : List Str} {n : Nat} (h : AtW ws n (u ++ v)) : AtW ws n u ∧ AtW ws (n + u.length) v := by
  unfold AtW at *
  rw [List.length_append, List.take_add] at h
  have hl : ((ws.drop n).take u.length).length = u.length := by
    have := congrArg List.length h
    simp only [List.length_append, List.length_take, List.length_drop] at this ⊢
    omega
  obtain ⟨h1, h2⟩ := List.append_inj h hl
  refine ⟨h1, ?_⟩
  rw [List.drop_drop] at h2
  rw [Nat.add_comm n]
  first
    | exact h2
    | (rw [Nat.add_comm]; exact h2)
theorem AtW.head {ws v : List Str} {z : Str} {n : Nat} (h : AtW ws n (z :: v)) : ws[n]? = some z ∧ AtW ws (n + 1) v := by
  obtain ⟨h1, h2⟩ := AtW.app (u := [z]) (v := v) h
  refine ⟨?_, h2⟩
  unfold AtW at h1
  have := congrArg (fun l : List Str => l[0]?) h1
  simpa [List.getElem?_take, List.getElem?_drop] using this
theorem AtW.here {ws v : List Str} {z : Str} {n : Nat} (h : AtW ws n (z :: v)) : hereW ws n = z := by
  unfold hereW
  rw [h.head.1]
  rfl
theorem AtW.word {ws v : List Str} {z : Str} {n : Nat} (h : AtW ws n (z :: v)) : rdWord ws n = some (some (z, n + 1)) := by
  unfold rdWord
  rw [h.head.1]
theorem AtW.num {ws v : List Str} {k n : Nat} (h : AtW ws n (strN k :: v)) (hk : k < 100) : rdNum ws n = some (some (k, n + 1)) := by
  unfold rdNum
  rw [bindR_of h.word]
  simp only [numOf_str k hk]
theorem strN_no : ∀ k < 100, strN k ≠ "+" ∧ strN k ≠ "cell" ∧ strN k ≠ "own" ∧ strN k ≠ "par" ∧ strN k ≠ "." := by decide +kernel
theorem rdT_of {ws : List Str} {ps os : Nat} (hp : ps ≤ 3) (ho : os ≤ 99) : ∀ (t : Th) (d n : Nat), wfT ps os t = true → dpT t < d → AtW ws n (wT t) → rdT ws d n = some (some (t, n + (wT t).length))
  | t, 0, n, _, hd, _ => by omega
  | .num k, d + 1, n, hw, hd, h => by
    simp only [wfT, decide_eq_true_eq] at hw
    simp only [wT] at h
    obtain ⟨a, b, c, e, _⟩ := strN_no k (by omega)
    simp only [rdT, h.here, a, b, c, e, if_false, bindR_of (h.num (by omega)), wT, List.length_cons, List.length_nil]
  | .own k, d + 1, n, hw, hd, h => by
    simp only [wfT, decide_eq_true_eq] at hw
    simp only [wT] at h
    have a : ("own" : Str) ≠ "+" := by decide +kernel
    have b : ("own" : Str) ≠ "cell" := by decide +kernel
    simp only [rdT, h.here, a, b, if_false, if_true, bindR_of (h.head.2.num (by omega)), wT, List.length_cons, List.length_nil]
  | .par k, d + 1, n, hw, hd, h => by
    simp only [wfT, decide_eq_true_eq] at hw
    simp only [wT] at h
    have a : ("par" : Str) ≠ "+" := by decide +kernel
    have b : ("par" : Str) ≠ "cell" := by decide +kernel
    have c : ("par" : Str) ≠ "own" := by decide +kernel
    simp only [rdT, h.here, a, b, c, if_false, if_true, bindR_of (h.head.2.num (by omega)), wT, List.length_cons, List.length_nil]
  | .cell t, d + 1, n, hw, hd, h => by
    simp only [wfT] at hw
    simp only [dpT] at hd
    simp only [wT] at h
    have a : ("cell" : Str) ≠ "+" := by decide +kernel
    have ih := rdT_of hp ho t d (n + 1) hw (by omega) h.head.2
    simp only [rdT, h.here, a, if_false, if_true, bindR_of ih, wT, List.length_cons]
    congr 3
    omega
  | .sum x y, d + 1, n, hw, hd, h => by
    simp only [wfT, Bool.and_eq_true] at hw
    simp only [dpT] at hd
    simp only [wT] at h
    have h2 := h.head.2.app
    have ih := rdT_of hp ho x d (n + 1) hw.1 (by omega) h2.1
    have ih2 := rdT_of hp ho y d _ hw.2 (by omega) h2.2
    simp only [rdT, h.here, if_true, bindR_of ih, bindR_of ih2, wT, List.length_cons, List.length_append]
    congr 3
    omega
theorem wT_ne (t : Th) : ∃ z r, wT t = z :: r := by cases t <;> simp [wT]
theorem itR_of {α : Type} {S : Nat → Rd α} {go : Nat → Bool} {ws : List Str} (f : α → List Str) : ∀ (xs : List α) (k n : Nat) (hs : ∀ x ∈ xs, ∀ i, AtW ws i (f x) → go i = true ∧ S i = some (some (x, i + (f x).length)))
    (hend : go (n + (xs.flatMap f).length) = false) (hk : xs.length < k) (h : AtW ws n (xs.flatMap f)), itR S go k n = some (some (xs, n + (xs.flatMap f).length))
  | [], k + 1, n, _, he, _, _ => by
    simp only [List.flatMap_nil, List.length_nil, Nat.add_zero] at he ⊢
    simp [itR, he]
  | x :: r, k + 1, n, hs, he, hk, h => by
    rw [List.flatMap_cons] at h he ⊢
    obtain ⟨h1, h2⟩ := h.app
    obtain ⟨g1, g2⟩ := hs x List.mem_cons_self n h1
    rw [List.length_append, ← Nat.add_assoc] at he ⊢
    have ih := itR_of f r k _ (fun y hy => hs y (List.mem_cons_of_mem _ hy)) he (by simp only [List.length_cons] at hk; omega) h2
    simp only [itR, g1, if_true, bindR_of g2, bindR_of ih]
  | _, 0, _, _, _, hk, _ => by omega
theorem wT_first : ∀ (t : Th) (ps os : Nat), ps ≤ 3 → os ≤ 99 → wfT ps os t = true → ∃ z r, wT t = z :: r ∧ z ≠ "." 
  | .num k, ps, os, _, _, h => by
    simp only [wfT, decide_eq_true_eq] at h
    exact ⟨_, _, rfl, (strN_no k (by omega)).2.2.2.2⟩
  | .own k, _, _, _, _, _ => ⟨_, _, rfl, by decide +kernel⟩
  | .par k, _, _, _, _, _ => ⟨_, _, rfl, by decide +kernel⟩
  | .cell k, _, _, _, _, _ => ⟨_, _, rfl, by decide +kernel⟩
  | .sum a b, _, _, _, _, _ => ⟨_, _, rfl, by decide +kernel⟩
theorem wS_first : ∀ x : Stm, ∃ z r, wS x = z :: r ∧ isStepW z = true
  | .set _ _ => ⟨_, _, by simp only [wS]; rfl, by decide +kernel⟩
  | .say _ => ⟨_, _, by simp only [wS]; rfl, by decide +kernel⟩
  | .ite _ _ _ => ⟨_, _, by simp only [wS]; rfl, by decide +kernel⟩
  | .call _ _ => ⟨_, _, by simp only [wS]; rfl, by decide +kernel⟩
theorem AtW.le {ws zs : List Str} {n : Nat} (h : AtW ws n zs) : n + zs.length ≤ ws.length ∨ zs = [] := by
  unfold AtW at h
  have := congrArg List.length h
  simp only [List.length_take, List.length_drop] at this
  by_cases e : zs.length = 0
  · exact .inr (List.eq_nil_of_length_eq_zero e)
  · exact .inl (by omega)
theorem flat_len {α : Type} (f : α → List Str) : ∀ xs : List α, (∀ x ∈ xs, 1 ≤ (f x).length) → xs.length ≤ (xs.flatMap f).length
  | [], _ => by simp
  | x :: r, h => by
    have := flat_len f r fun y hy => h y (List.mem_cons_of_mem _ hy)
    have := h x List.mem_cons_self
    simp only [List.flatMap_cons, List.length_append, List.length_cons]
    omega
theorem AtW.fits {ws : List Str} {n : Nat} {α : Type} {f : α → List Str} {xs : List α} (h : AtW ws n (xs.flatMap f)) (hx : ∀ x ∈ xs, 1 ≤ (f x).length) : xs.length < ws.length + 1 := by
  have := flat_len f xs hx
  rcases h.le with q | q
  · omega
  · rw [q] at this
    simp only [List.length_nil] at this
    omega
mutual
theorem rdS_of {ws : List Str} {sh : List (Nat × Nat)} {i0 : Nat} (hs : ShOk sh) {dt : Nat} (hdt : 4 < dt) : ∀ (x : Stm) (w d n : Nat), okS sh i0 x w = true → dpS x < d → AtW ws n (wS x) → rdS ws dt d n = some (some (x, n + (wS x).length))
  | x, w, 0, n, _, hd, _ => by omega
  | .set p t, w, d + 1, n, hw, hd, h => by
    simp only [okS, Bool.and_eq_true, decide_eq_true_eq] at hw
    have g1 := okT_wf _ _ hw.2.1
    have g2 := okT_wf _ _ hw.2.2.2
    simp only [wS] at h ⊢
    have h2 := h.head.2.app
    have a : ("set" : Str) ≠ "call" := by decide +kernel
    have b : ("set" : Str) ≠ "say" := by decide +kernel
    have r1 := rdT_of (hs.2 i0).1 (hs.2 i0).2 p dt _ g1.1 (by omega) h2.1
    have r2 := rdT_of (hs.2 i0).1 (hs.2 i0).2 t dt _ g2.1 (by omega) h2.2
    simp only [rdS, bindR_of h.word, a, b, if_false, if_true, bindR_of r1, bindR_of r2, List.length_cons, List.length_append]
    congr 3
    omega
  | .say t, w, d + 1, n, hw, hd, h => by
    simp only [okS, Bool.and_eq_true, decide_eq_true_eq] at hw
    have g1 := okT_wf _ _ hw.2
    simp only [wS] at h ⊢
    have a : ("say" : Str) ≠ "call" := by decide +kernel
    have r1 := rdT_of (hs.2 i0).1 (hs.2 i0).2 t dt _ g1.1 (by omega) h.head.2
    simp only [rdS, bindR_of h.word, a, if_false, if_true, bindR_of r1, List.length_cons]
    congr 3
    omega
  | .call c ts, w, d + 1, n, hw, hd, h => by
    simp only [okS, Bool.and_eq_true, decide_eq_true_eq, List.all_eq_true] at hw
    simp only [wS] at h ⊢
    have h2 := h.head.2
    have h3 := h2.head.2.app
    have hsl := hs.1
    have ht : ∀ t ∈ ts, wfT (shP sh i0) (shO sh i0) t = true ∧ dpT t < dt := fun t ht => by
      have := okT_wf _ _ (hw.2.2.2.2 t ht)
      exact ⟨this.1, by omega⟩
    have r2 : rdTs ws dt (n + 1 + 1) = _ := itR_of (S := rdT ws dt) (go := fun i => !decide (hereW ws i = ".")) wT ts (ws.length + 1) (n + 1 + 1) (fun t hm i ha => by
      obtain ⟨z, r, e, ne⟩ := wT_first t _ _ (hs.2 i0).1 (hs.2 i0).2 (ht t hm).1
      refine ⟨?_, rdT_of (hs.2 i0).1 (hs.2 i0).2 t dt i (ht t hm).1 (ht t hm).2 ha⟩
      rw [e] at ha
      simp [ha.here, ne]) (by rw [h3.2.here]; decide +kernel) (h3.1.fits fun t _ => by obtain ⟨z, r, e⟩ := wT_ne t; rw [e]; simp) h3.1
    simp only [rdS, bindR_of h.word, if_true, bindR_of (h2.num (by omega)), bindR_of r2, List.length_cons, List.length_append, List.length_nil]
    congr 3
    omega
  | .ite t a b, w, d + 1, n, hw, hd, h => by
    simp only [okS, Bool.and_eq_true, decide_eq_true_eq] at hw
    simp only [dpS] at hd
    have g1 := okT_wf _ _ hw.2.1
    simp only [wS] at h ⊢
    have h2 := h.head.2.app
    have n1 : ("if" : Str) ≠ "call" := by decide +kernel
    have n2 : ("if" : Str) ≠ "say" := by decide +kernel
    have n3 : ("if" : Str) ≠ "set" := by decide +kernel
    have r1 := rdT_of (hs.2 i0).1 (hs.2 i0).2 t dt _ g1.1 (by omega) h2.1
    have h3 := h2.2.app
    have h4 := h3.1.head.2.app
    have h5 := h3.2.head.2.app
    have i1 := rdB_of hs hdt a (w + 1) d _ hw.2.2.1 (by omega) h4.1 (by rw [h4.2.here]; decide +kernel)
    have i2 := rdB_of hs hdt b (w + 1) d _ hw.2.2.2 (by omega) h5.1 (by rw [h5.2.here]; decide +kernel)
    have r2 : rdIn ws (fun i => rdB ws dt d i) (n + 1 + (wT t).length) = some (some (a, n + 1 + (wT t).length + (("(" : Str) :: (wB a ++ [(")" : Str)])).length)) := by
      unfold rdIn
      rw [bindR_of h3.1.word, if_pos rfl, bindR_of i1, bindR_of h4.2.word, if_pos rfl]
      simp only [List.length_cons, List.length_append, List.length_nil]
      congr 3
      omega
    have r3 : rdIn ws (fun i => rdB ws dt d i) (n + 1 + (wT t).length + (("(" : Str) :: (wB a ++ [(")" : Str)])).length) = some (some (b, n + 1 + (wT t).length + (("(" : Str) :: (wB a ++ [(")" : Str)])).length + (("(" : Str) :: (wB b ++ [(")" : Str)])).length)) := by
      unfold rdIn
      rw [bindR_of h3.2.word, if_pos rfl, bindR_of i2, bindR_of h5.2.word, if_pos rfl]
      simp only [List.length_cons, List.length_append, List.length_nil]
      congr 3
      omega
    have r2' : rdIn ws (fun i => itR (rdS ws dt d) (fun j => isStepW (hereW ws j)) (ws.length + 1) i) (n + 1 + (wT t).length) = _ := r2
    have r3' : rdIn ws (fun i => itR (rdS ws dt d) (fun j => isStepW (hereW ws j)) (ws.length + 1) i) (n + 1 + (wT t).length + (("(" : Str) :: (wB a ++ [(")" : Str)])).length) = _ := r3
    simp only [rdS, bindR_of h.word, n1, n2, n3, if_false, if_true, bindR_of r1, bindR_of r2', bindR_of r3']
    simp only [List.length_cons, List.length_append, List.length_nil]
    congr 3
    omega
theorem rdB_of {ws : List Str} {sh : List (Nat × Nat)} {i0 : Nat} (hs : ShOk sh) {dt : Nat} (hdt : 4 < dt) : ∀ (b : List Stm) (w d n : Nat), okB sh i0 b w = true → dpB b < d → AtW ws n (wB b) → isStepW (hereW ws (n + (wB b).length)) = false → rdB ws dt d n = some (some (b, n + (wB b).length))
  | b, w, d, n, hw, hd, h, he => by
    have hall : ∀ x ∈ b, ∀ i, AtW ws i (wS x) → rdS ws dt d i = some (some (x, i + (wS x).length)) := fun x hx i ha => by
      have h1 := okB_in hw hx
      have h2 := dpB_mem hx
      exact rdS_of hs hdt x w d i h1 (by omega) ha
    rw [wB_flat] at h he ⊢
    refine itR_of wS b (ws.length + 1) n (fun x hx i ha => ⟨?_, hall x hx i ha⟩) he (h.fits fun x _ => by obtain ⟨z, r, e, _⟩ := wS_first x; rw [e]; simp) h
    obtain ⟨z, r, e, st⟩ := wS_first x
    rw [e] at ha
    rw [ha.here]
    exact st
end
theorem AtW.all {ws : List Str} : AtW ws 0 ws := by simp [AtW]
/-- a line that was written -/
theorem rdL_of {sh : List (Nat × Nat)} {i0 dt d : Nat} (hs : ShOk sh) (hdt : 4 < dt) {w : Wk} (hp : w.params < 100) (ho : w.owns < 100) (hb : okB sh i0 w.body 0 = true) (hd : dpB w.body < d) : rdL dt d (strN w.params :: strN w.owns :: wB w.body) = some (some (w, (strN w.params :: strN w.owns :: wB w.body).length)) := by
  have h : AtW (strN w.params :: strN w.owns :: wB w.body) 0 (strN w.params :: strN w.owns :: wB w.body) := AtW.all
  have h2 := h.head.2
  have h3 := h2.head.2
  have r := rdB_of hs hdt w.body 0 d _ hb hd h3 (by
    have e : hereW (strN w.params :: strN w.owns :: wB w.body) (0 + 1 + 1 + (wB w.body).length) = "" := by
      unfold hereW
      rw [List.getElem?_eq_none (by simp only [List.length_cons]; omega)]
      rfl
    rw [e]
    decide +kernel)
  unfold rdL
  rw [bindR_of (h.num hp), bindR_of (h2.num ho), bindR_of r, if_pos (by simp; omega)]
  simp only [List.length_cons]
  congr 3
  omega
end Hw

set_option maxRecDepth 100000
set_option maxHeartbeats 4000000
/-! NR: texts read back: the reader's walk -/
namespace Hw
open PySem PySem.Spec PyProof.Rows L2 Evl
local macro_rules | `(tactic| walk_at "dd") => `(tactic| first | rfl | decide | (simp; done) | omega)
local macro_rules | `(tactic| walk_at "td") => `(tactic| first | assumption | exact Td.int _ | exact Td.bl _ | exact Td.str _ | exact Td.non | exact Td.tup (by assumption) (by assumption))
local macro_rules | `(tactic| walk_at "ev") => `(tactic| first
  | exact ed_ci | exact ed_cs | exact ed_cb | exact ed_cn
  | (apply ed_cg; assumption)
  | (apply ed_var; (rfl); (walk_at "td"))
  | (apply ed_ixT; (walk_at "ev"); (walk_at "ev"); (first | rfl | assumption))
  | (apply ed_rowI; (rfl); (assumption); (walk_at "ev"); (rfl))
  | (apply ed_ixL; (apply EvDL.rd; walk_at "edl"); (walk_at "ev"); (rfl))
  | (apply ed_intb; (walk_at "ev"))
  | (apply ed_len; walk_at "ev")
  | (apply ed_lenV; (apply ev_rowR; (rfl); (assumption); (walk_at "ev"); (rfl)); (assumption))
  | (apply ed_Ii; (walk_at "ev"); (walk_at "ev"); (walk_at "cc"))
  | (apply ed_isi; (walk_at "ev"); (rfl))
  | (apply ed_I0i; (walk_at "ev"); (walk_at "ev"))
  | (apply ed_I0b; (walk_at "ev"); (walk_at "ev"))
  | (apply ed_eqi; (walk_at "ev"); (walk_at "ev"))
  | (apply ed_nei; (walk_at "ev"); (walk_at "ev"))
  | (apply ed_andF; walk_at "ev")
  | (apply ed_andV; (walk_at "ev"); (intro _; walk_at "ev"))
  | (apply ed_orT; walk_at "ev")
  | (apply ed_orV; (walk_at "ev"); (intro _; walk_at "ev"))
  | (apply ed_notT; walk_at "ev")
  | (apply ed_notF; walk_at "ev")
  | (apply ed_notV; walk_at "ev")
  | (apply ed_chain; (walk_at "ev"); (walk_at "ev"); (intro _; walk_at "ev"))
  | (apply ed_eqS; (walk_at "ev"); (walk_at "ev"); (walk_at "bb"); (walk_at "bb"))
  | (apply ed_neS; (walk_at "ev"); (walk_at "ev"); (walk_at "bb"); (walk_at "bb"))
  | (apply ed_inT; (walk_at "ev"); (walk_at "ev"); (rfl); (rfl))
  | (apply ed_niT; (walk_at "ev"); (walk_at "ev"); (rfl); (rfl))
  | (apply ed_tup; (walk_at "eva"); (walk_at "bb"))
  | (apply ed_sl; (walk_at "ev"); (walk_at "evo"); (walk_at "evo"))
  | (apply ed_eqN; (apply EvDL.rd; walk_at "edl"); (walk_at "edl"); (walk_at "bb"))
  | (apply ed_neN; (apply EvDL.rd; walk_at "edl"); (walk_at "edl"); (walk_at "bb"))
  | (apply ed_ixL; (apply edr_var; (rfl); (assumption); (assumption)); (walk_at "ev"); (first | rfl | assumption))
  | (apply ed_lenL; (apply edr_var; (rfl); (assumption); (assumption)))
  | (apply ed_call; (walk_at "eva"); (walk_at "post")))
local macro_rules | `(tactic| walk_at "edl") => `(tactic| first
  | assumption
  | (apply edl_lst; (walk_at "eva"); (walk_at "bb")))
local macro_rules | `(tactic| walk_at "eva") => `(tactic| first
  | exact eda_nil
  | (apply eda_cons; (walk_at "ev"); (walk_at "eva")))
local macro_rules | `(tactic| walk_at "evo") => `(tactic| first
  | exact eok_none
  | (apply eok_some; walk_at "ev"))
local macro_rules | `(tactic| walk_at "bb") => `(tactic| first | rfl | assumption | (simp; done) | (simp; omega) | decide +kernel)
local macro_rules | `(tactic| walk_at "et") => `(tactic| first
  | exact tk_yes
  | (apply tk_andF; walk_at "et")
  | (apply tk_and; (walk_at "et"); (intro _; walk_at "et"))
  | (apply tk_orT; walk_at "et")
  | (apply tk_or; (walk_at "et"); (intro _; walk_at "et"))
  | (apply tk_notT; walk_at "et")
  | (apply tk_notF; walk_at "et")
  | (apply tk_not; walk_at "et")
  | (apply tk_v; walk_at "ev")
  | (apply tk_vB; walk_at "ev"))
local macro_rules | `(tactic| walk_at "if") => `(tactic| first
  | (apply pst_whenF; (walk_at "et"); (walk_at "bb"))
  | (apply pst_whenT; (walk_at "et"); (walk_at "bb")))
local macro_rules | `(tactic| walk_at "post") => `(tactic| first | assumption | exact ⟨_, _, rfl, rfl⟩ | exact ⟨_, _, _, _, rfl, by omega, by omega, rfl⟩ | exact ⟨_, _, _, 0, rfl, by omega, by omega, rfl⟩)
local macro_rules | `(tactic| walk_at "cc") => `(tactic| first | assumption | decide | omega | (refine ⟨?_, ?_⟩ <;> first | decide | omega) | (exact Or.inl (by constructor <;> omega)))

/-- a line that is read -/
def lnFs (wl : Addr) (n row : Nat) : List (Str × V) := [("words", .ref wl), ("at", .int (n : Int)), ("row", .int (row : Int))]
def wdOk (ws : List Str) : Prop := ws.length ≤ 40000 ∧ ∀ z ∈ ws, z.length ≤ 40000 ∧ (PyData.str z).canLay0 = true
structure LnAt (K : PySem.W.Frag) (a wl : Addr) (ws : List Str) (n row : Nat) (H : Hp) : Prop where
  ob : ∃ dx, H a = some (.ins (He.ga K "Line") dx (lnFs wl n row))
  wd : H wl = some (.lst (ws.map V.str))
  ok : wdOk ws
section
variable {K : PySem.W.Frag} {a wl : Addr} {ws : List Str} {n row : Nat} {H H' : Hp}
theorem LnAt.ex (h : LnAt K a wl ws n row H) (e : Ex H H') : LnAt K a wl ws n row H' := by
  obtain ⟨dx, o⟩ := h.ob
  exact ⟨⟨dx, e _ _ o⟩, e _ _ h.wd, h.ok⟩
theorem LnAt.ne (h : LnAt K a wl ws n row H) : wl ≠ a := fun e => by
  obtain ⟨dx, o⟩ := h.ob
  have := h.wd
  rw [e, o] at this
  cases this
theorem LnAt.set {m : Nat} {dx : Addr} (h : LnAt K a wl ws n row H) : LnAt K a wl ws m row (upd H a (.ins (He.ga K "Line") dx (lnFs wl m row))) := ⟨⟨dx, upd_same⟩, by rw [upd_ne h.ne]; exact h.wd, h.ok⟩
theorem LnAt.keep (h : LnAt K a wl ws n row H) (f : Fr [a] H H') : Keep K H H' := f.keep fun b hb => by
  have : b = a := by simpa using hb
  obtain ⟨dx, o⟩ := h.ob
  rw [this]
  exact ⟨_, o, True.intro⟩
theorem LnAt.here (h : LnAt K a wl ws n row H) (i : Nat) : (PyData.str (hereW ws i)).canLay0 = true ∧ (hereW ws i).length ≤ 40000 := by
  unfold hereW
  cases hw : ws[i]? with
  | none => exact ⟨by decide +kernel, by decide +kernel⟩
  | some z => exact ⟨(h.ok.2 z (List.mem_of_getElem? hw)).2, (h.ok.2 z (List.mem_of_getElem? hw)).1⟩
end
/-- what is to hold where a line is refused -/
def BadT (K : PySem.W.Frag) (row : Nat) (E : XK) (a : Addr) (H : Hp) : Prop := ∀ H1 d, Fr [a] H H1 → H1 d = none → E (.ref (He.ga K "BadText")) (some d) (upd H1 d (.xd [("row", .int (row : Int))]))
theorem BadT.fr {K : PySem.W.Frag} {row : Nat} {E : XK} {a : Addr} {H H' : Hp} (h : BadT K row E a H) (f : Fr [a] H H') : BadT K row E a H' := by
  first
    | exact fun H1 d g => h H1 d (f.trans g)
    | exact h
def spHere (K : PySem.W.Frag) : Sp := fun vs H Q _ => ∃ (a wl : Addr) (ws : List Str) (n row : Nat), vs = [.ref a] ∧ LnAt K a wl ws n row H ∧ ∀ H', Ex H H' → Q (.str (hereW ws n)) H'
def spMust (K : PySem.W.Frag) : Sp := fun vs H Q E => ∃ (a wl : Addr) (ws : List Str) (n row : Nat) (b : Bool), vs = [.ref a, .bl b] ∧ LnAt K a wl ws n row H ∧ (b = true → ∀ H', Ex H H' → Q .non H') ∧ (b = false → BadT K row E a H)
/-- a reader's method -/
def spRd (K : PySem.W.Frag) {α : Type} (f : List Str → Nat → Rd α) (enc : α → PyData) : Sp := fun vs H Q E => ∃ (a wl : Addr) (ws : List Str) (n row : Nat), vs = [.ref a] ∧ LnAt K a wl ws n row H ∧ f ws n ≠ none ∧ (f ws n = some none → BadT K row E a H) ∧
  ∀ x m v H', f ws n = some (some (x, m)) → LnAt K a wl ws m row H' → Fr [a] H H' → Td K H' v (enc x) → Q v H'
theorem spRd_len {K : PySem.W.Frag} {α : Type} {f : List Str → Nat → Rd α} {enc : α → PyData} (vs : List V) (H : Hp) (Q : VK) (E : XK) (h : spRd K f enc vs H Q E) : vs.length = 1 := by
  obtain ⟨_, _, _, _, _, rfl, _⟩ := h
  rfl
section
variable {K : PySem.W.Frag} {σ : L2.St} {H H' : Hp} {D : Ends} {te tl ta tb : TE} {t : TT} {E : XK} {a wl : Addr} {ws : List Str} {n row : Nat} {α : Type} {f : List Str → Nat → Rd α} {enc : α → PyData} {Q : VK}
/-- such a call -/
theorem w_rd {m : Str} {i : Nat} (hs : σ[i]? = some (some (.ref a))) (hL : LnAt K a wl ws n row H) (hm : (lnFs wl n row).lookup m = none) (hne : f ws n ≠ none) (hb : f ws n = some none → BadT K row E a H)
    (k : ∀ x l v H', f ws n = some (some (x, l)) → LnAt K a wl ws l row H' → Fr [a] H H' → Td K H' v (enc x) → Q v H') : tMeth (He.ga K "Line") m (spRd K f enc) [] E (tVar i) tNil σ H Q := by
  obtain ⟨dx, hob⟩ := hL.ob
  exact w_meth hs hob hm (w_nil ⟨a, wl, ws, n, row, rfl, hL, hne, hb, fun x l v H' h1 h2 h3 h4 => k x l v H' h1 h2 h3 h4⟩)
/-- self.here() -/
theorem ed_here {i : Nat} (hs : σ[i]? = some (some (.ref a))) (hL : LnAt K a wl ws n row H) : EvD K (tMeth (He.ga K "Line") "here" (spHere K) [] E (tVar i) tNil) σ H (.str (hereW ws n)) := fun H1 e1 Q q => by
  have L1 := hL.ex e1
  obtain ⟨dx, hob⟩ := L1.ob
  exact w_meth hs hob (by rfl) (w_nil ⟨a, wl, ws, n, row, rfl, L1, fun H2 e2 => q _ H2 e2 (.str _)⟩)
theorem ed_lenS {z : Str} (h : EvD K te σ H (.str z)) (hz : z.length ≤ 40000) : EvD K (tCB (fun xs H Q => ∃ z, xs = [.str z] ∧ z.length ≤ sizeLine ∧ Q (.int z.length) H) (tCons te tNil)) σ H (.int (z.length : Int)) := fun H1 e1 Q q =>
  h.sv H1 e1 _ fun H2 e2 => ⟨z, rfl, sz_of (by omega), q _ H2 e2 (.int _)⟩
theorem ed_ixS {z : Str} {i : Int} {c : Nat} (ha : EvD K ta σ H (.str z)) (hb : EvD K tb σ H (.int i)) (hz : z.length ≤ 40000) (hc : atI z.cps.toList i = some c) : EvD K (tOp rIxS ta tb) σ H (.str ⟨#[c]⟩) := fun H1 e1 Q q =>
  ha.sv H1 e1 _ fun H2 e2 => hb.iv H2 (e1.trans e2) _ fun H3 e3 => ⟨z, i, c, rfl, rfl, sz_of (by omega), hc, q _ H3 (e2.trans e3) (.str _)⟩
theorem ed_niS {z : Str} {c : Nat} (ha : EvD K ta σ H (.str ⟨#[c]⟩)) (hb : EvD K tb σ H (.str z)) : EvD K (tOp (fun x y H Q => ∃ (c : Nat) (z : Str), x = .str ⟨#[c]⟩ ∧ y = .str z ∧ Q (.bl (!decide (c ∈ z.cps.toList))) H) ta tb) σ H (.bool (!decide (c ∈ z.cps.toList))) := fun H1 e1 Q q =>
  ha.sv H1 e1 _ fun H2 e2 => hb.sv H2 (e1.trans e2) _ fun H3 e3 => ⟨c, z, rfl, rfl, q _ H3 (e2.trans e3) (.bl _)⟩
theorem ed_intS {z : Str} {i : Int} (h : EvD K te σ H (.str z)) (hi : PySem.intText? z = some i) (hz : z.length ≤ 640) : EvD K (tCB (fun xs H Q => ∃ a n, xs = [.str a] ∧ PySem.intText? a = some n ∧ a.length ≤ 640 ∧ Q (.int n) H) (tCons te tNil)) σ H (.int i) := fun H1 e1 Q q =>
  h.sv H1 e1 _ fun H2 e2 => ⟨z, i, rfl, hi, hz, q _ H2 e2 (.int _)⟩
/-- [c for c in a text if t] -/
theorem edl_lcS {j : Nat} {vs : List Nat} {z : Str} (p : Nat → Bool) (h : EvD K tl σ H (.str z)) (hz : z.length ≤ 40000) (hw : ∀ x, wipe ((wipe σ vs).set j (some x)) vs = wipe σ vs)
    (ht : ∀ (c : Nat) H1, Ex H H1 → EvTK K t ((wipe σ vs).set j (some (.str ⟨#[c]⟩))) H1 (p c)) (he : ∀ (c : Nat) H1, Ex H H1 → EvD K te ((wipe σ vs).set j (some (.str ⟨#[c]⟩))) H1 (.str ⟨#[c]⟩)) :
    EvDL K (tLc (iStr tl) (gName j) t te vs) σ H ((z.cps.toList.filter p).map fun c => PyData.str ⟨#[c]⟩) := fun H0 e Q q => h.sv H0 e _ fun H1 e1 => by
  have hsz : z.cps.toList.length = z.cps.size := by simp
  have hzl : z.cps.toList.length ≤ 40000 := by rw [hsz]; exact hz
  refine ⟨z, rfl, fun Dl hD => ?_⟩
  refine lc_it walk_str (fun i H' => Cd K H1 Dl (((z.cps.toList.take i).filter p).map fun c => PyData.str ⟨#[c]⟩) H') ⟨hD, Ex.new hD, [], upd_same, by simpa using TdAll.nil⟩ (fun _ _ _ _ => True.intro) (fun i x H2 H' hi c y => ?_) (fun H' c => ?_)
  · obtain ⟨rfl, k, hk, rfl⟩ := y
    refine ⟨hw _, ?_⟩
    have hk2 : z.cps.toList[i]? = some k := by rw [Array.getElem?_toList]; exact hk
    have := cd_step (te := te) (e := PyData.str ⟨#[k]⟩) c (by have := filt_len (xs := z.cps.toList) (p := p) (g := fun c => PyData.str ⟨#[c]⟩) i; omega) (ht k H1 (e.trans e1)) (fun hb => he k H1 (e.trans e1))
    rw [filt_snoc hk2]
    exact this
  · obtain ⟨c1, c2, acc, c3, c4⟩ := c
    rw [← hsz, List.take_length] at c4
    exact q Dl acc H' (fresh_back e1 c1) (e1.trans c2) c3 c4
/-- while ..: found.append(..), by what is read -/
theorem w_itR {c : TT} {tb : TS} {go : Nat → Bool} {S : Nat → Rd α} {fl : Addr} (hfa : fl ≠ a) (hfw : fl ≠ wl)
    (hc : ∀ m H1, LnAt K a wl ws m row H1 → EvTK K c σ H1 (go m))
    (hb : ∀ m vs H1 N, LnAt K a wl ws m row H1 → Fr [a, fl] H H1 → H1 fl = some (.lst vs) → vs.length ≤ 50000 → S m ≠ none → (S m = some none → BadT K row E a H1) → (∀ x l v H2, S m = some (some (x, l)) → LnAt K a wl ws l row H2 → Fr [a] H1 H2 → Td K H2 v (enc x) → N σ (upd H2 fl (.lst (vs ++ [v])))) → tb { D with nx := N, ct := N, bk := D.nx } σ H1)
    (k : Nat) (hk : k ≤ 50000) (hL : LnAt K a wl ws n row H) (hf : H fl = some (.lst [])) (hne : itR S go k n ≠ none) (hbad : itR S go k n = some none → ∀ H1, Fr [a, fl] H H1 → BadT K row E a H1)
    (hd : ∀ xs m vs H1, itR S go k n = some (some (xs, m)) → LnAt K a wl ws m row H1 → Fr [a, fl] H H1 → H1 fl = some (.lst vs) → TdAll K H1 vs (xs.map enc) → D.nx σ H1) : tWhile c tb D σ H := by
  refine w_while (fun i σ' H1 => σ' = σ ∧ ∃ (m : Nat) (vs : List V) (xs : List α), LnAt K a wl ws m row H1 ∧ Fr [a, fl] H H1 ∧ H1 fl = some (.lst vs) ∧ TdAll K H1 vs (xs.map enc) ∧ xs.length + i ≤ k ∧
    itR S go i m ≠ none ∧ (itR S go i m = some none → itR S go k n = some none) ∧ ∀ r l, itR S go i m = some (some (r, l)) → itR S go k n = some (some (xs ++ r, l))) k ⟨rfl, n, [], [], hL, Fr.refl, hf, .nil, by simp, hne, id, fun r l h => h⟩ ?_
  rintro i σ' H1 ⟨rfl, m, vs, xs, L1, f1, hl, td, hle, h1, h2, h3⟩
  refine w_t (K := K) (hc m H1 L1) fun H2 e2 => ?_
  have L2 := L1.ex e2
  cases i with
  | zero => exact absurd rfl h1
  | succ i =>
    cases hg : go m with
    | false =>
      refine ifF rfl ?_
      have e : itR S go (i + 1) m = some (some ([], m)) := by simp [itR, hg]
      have := h3 [] m e
      rw [List.append_nil] at this
      exact hd xs m vs H2 this L2 (f1.trans (Fr.of e2)) (e2 _ _ hl) (td.ex e2)
    | true =>
      refine ifT rfl ⟨fun σ2 H3 => σ2 = σ' ∧ ∃ (m : Nat) (vs : List V) (xs : List α), LnAt K a wl ws m row H3 ∧ Fr [a, fl] H H3 ∧ H3 fl = some (.lst vs) ∧ TdAll K H3 vs (xs.map enc) ∧ xs.length + i ≤ k ∧
        itR S go i m ≠ none ∧ (itR S go i m = some none → itR S go k n = some none) ∧ ∀ r l, itR S go i m = some (some (r, l)) → itR S go k n = some (some (xs ++ r, l)), fun σ2 H3 h => ⟨i, by omega, h⟩, ?_⟩
      have e : itR S go (i + 1) m = bindR (S m) fun x l => bindR (itR S go i l) fun r e => some (some (x :: r, e)) := by simp [itR, hg]
      rw [e] at h1 h2 h3
      have hvl := td.length
      rw [List.length_map] at hvl
      refine hb m vs H2 _ L2 (f1.trans (Fr.of e2)) (e2 _ _ hl) (by omega) (bindR_ne h1) (fun hx => hbad (h2 (bindR_b hx)) H2 (f1.trans (Fr.of e2))) fun x l v H3 hx L3 f3 tv => ?_
      rw [bindR_of hx] at h1 h2 h3
      have kp := L2.keep f3
      have hl3 : H3 fl = some (.lst vs) := f3 _ _ (by simpa using hfa) (e2 _ _ hl)
      have kq : Keep K H3 (upd H3 fl (.lst (vs ++ [v]))) := Keep.upd hl3 True.intro
      obtain ⟨dx3, ob3⟩ := L3.ob
      refine ⟨rfl, l, vs ++ [v], xs ++ [x], ⟨⟨dx3, by rw [upd_ne hfa.symm]; exact ob3⟩, by rw [upd_ne hfw.symm]; exact L3.wd, L3.ok⟩, ((f1.trans (Fr.of e2)).trans (f3.sub (by simp))).trans (Fr.upd (by simp)), upd_same, ?_, by rw [List.length_append]; simp only [List.length_cons, List.length_nil]; omega, bindR_ne h1, fun h => h2 (bindR_b h), fun r e h => ?_⟩
      · rw [List.map_append]
        exact (((td.ex e2).kp kp).kp kq).snoc (tv.kp kq)
      · rw [h3 (x :: r) e (bindR_of h)]
        simp
theorem w_at1 {i : Nat} (hs : σ[i]? = some (some (.ref a))) (hL : LnAt K a wl ws n row H) (hc : Cls K (He.ga K "Line")) (hn : NoAttr K (He.ga K "Line") "at") (k : ∀ H', LnAt K a wl ws (n + 1) row H' → Fr [a] H H' → D.nx σ H') :
    sFld K (tVar i) (tOp (rI0 fun i j => .int (i + j)) (tFld K (tVar i) "at") (tC (.int 1))) "at" D σ H := by
  obtain ⟨dx, hob⟩ := hL.ob
  refine w_setf hs (w_d (K := K) (d := .int ((n : Int) + 1)) (ed_I0i (ed_fld hs hob hc hn (by rfl) (.int _)) ed_ci) fun v H3 e3 tv => ?_)
  cases tv
  refine ⟨_, dx, _, e3 _ _ hob, hc, hn, by show 3 < 1000; decide, ?_⟩
  have ep : putF ("at" : Str) (V.int ((n : Int) + 1)) (lnFs wl n row) = lnFs wl (n + 1) row := by rfl
  rw [ep]
  exact k _ ((hL.ex e3).set (m := n + 1) (dx := dx)) ((Fr.of e3).trans (Fr.upd (by simp)))
end
section
variable {P : Program} {w : World} {K : PySem.W.Frag} {mg : Str → Option Value} {base : Heap} (T : Tx K mg)
include T
theorem ok_here : Fn_Line_here T P w base CX0 1 (spHere K) := by
  refine T.F_Line_here.ok sc_Line_here (fun vs H Q E h => by obtain ⟨_, _, _, _, _, rfl, _⟩ := h; rfl) fun cdv A outer s0 H vs Q E hr h => ?_
  obtain ⟨a, wl, ws, n, row, rfl, hL, k⟩ := h
  obtain ⟨dx, hob⟩ := hL.ob
  refine ⟨_, (pss_one (ps_ret (pe_ifExp (pt_cmpR op_lt (kpe_fld K (pv 0)) (pe_callB (kc_len K) rfl T.b_len PySem.boot_len (pa_cons (kpe_fld K (pv 0)) pa_nil)) (nomark _)) (pe_ix (kix_list K) (kpe_fld K (pv 0)) (kpe_fld K (pv 0)) (fun _ _ => rfl)) pe_str))), ?_⟩
  refine w_ret (w_if (w_t (K := K) (b := decide ((n : Int) < (ws.length : Int))) (tk_v (ed_I0b (ed_fld rfl hob T.c_Line T.na_Line_at (by rfl) (.int _)) (ed_is (ed_lenV (ev_fld rfl hob T.c_Line T.na_Line_words (by rfl)) (SqL.of hL.wd)) (by rw [List.length_map])))) fun H1 e1 => ?_))
  by_cases h : n < ws.length
  · refine ifT (by simpa using h) ?_
    have hz : ws[n]? = some ws[n] := List.getElem?_eq_getElem h
    have L1 := hL.ex e1
    refine w_d (K := K) (ed_ixL (i := (n : Int)) (d := .str ws[n]) (edr_fld rfl (e1 _ _ hob) T.c_Line T.na_Line_words (by rfl) L1.wd (strs_td ws)) (ed_fld rfl (e1 _ _ hob) T.c_Line T.na_Line_at (by rfl) (.int _)) (atI_nat (by rw [List.getElem?_map, hz]; rfl))) fun v H2 e2 tv => ?_
    cases tv
    have := k H2 (e1.trans e2)
    rw [hereW, hz] at this
    exact this
  · refine ifF (by simpa using h) (w_c ?_)
    have := k H1 e1
    rw [hereW, List.getElem?_eq_none (by omega)] at this
    exact this
theorem ok_word {lv : Nat} (hlv : 1 ≤ lv) (GM : Fn_Line_must T P w base (L2.CX P w) lv (spMust K)) : Fn_Line_word T P w base (L2.CX P w) (lv + 1) (spRd K rdWord PyData.str) := by
  have G_Line_must := GM
  refine T.F_Line_word.ok sc_Line_word spRd_len fun cdv A outer s0 H vs Q E hr h => ?_
  obtain ⟨a, wl, ws, n, row, rfl, hL, hne, hbad, k⟩ := h
  obtain ⟨dx, hob⟩ := hL.ob
  refine ⟨_, (pss_cons (ps_expr (pe_meth (pv 0) T.c_Line T.m_Line_must G_Line_must (hr.mono (by omega)) T.bd_Line_must .nil (passes_call (takes_of rfl rfl rfl rfl) (fun _ _ _ _ h => h)) (pa_cons (pe_cmpR op_lt (kpe_fld K (pv 0)) (pe_callB (kc_len K) rfl T.b_len PySem.boot_len (pa_cons (kpe_fld K (pv 0)) pa_nil)) (nomark _)) pa_nil)))
  (pss_cons (ps_fld (pv 0) (pe_op op_add (kpe_fld K (pv 0)) pe_int) rfl)
  (pss_one (ps_ret (pe_ix (kix_list K) (kpe_fld K (pv 0)) (pe_op op_sub (kpe_fld K (pv 0)) pe_int) (fun _ _ => rfl)))))), ?_⟩
  refine w_seq (w_drop (w_meth rfl hob (by rfl) (w_cons (w_d (K := K) (d := .bool (decide (n < ws.length))) (ed_is (ed_I0b (ed_fld rfl hob T.c_Line T.na_Line_at (by rfl) (.int _)) (ed_is (ed_lenV (ev_fld rfl hob T.c_Line T.na_Line_words (by rfl)) (SqL.of hL.wd)) (by rw [List.length_map]))) (by simp)) fun v H1 e1 tv => w_nil ?_))))
  cases tv
  refine ⟨a, wl, ws, n, row, _, rfl, hL.ex e1, fun hlt H2 e2 => ?_, fun hge => (hbad ?_).fr (Fr.of e1)⟩
  · have hlt : n < ws.length := by simpa using hlt
    have hz : ws[n]? = some ws[n] := List.getElem?_eq_getElem hlt
    have e12 := e1.trans e2
    refine w_seq (w_at1 rfl (hL.ex e12) T.c_Line T.na_Line_at fun H4 L4 f4 => ?_)
    obtain ⟨dx4, hob4⟩ := L4.ob
    dsimp only
    refine w_ret (w_d (K := K) (d := .str ws[n]) (ed_ixL (i := (n : Int)) (edr_fld rfl hob4 T.c_Line T.na_Line_words (by rfl) L4.wd (strs_td ws)) (ed_is (ed_I0i (ed_fld rfl hob4 T.c_Line T.na_Line_at (by rfl) (.int _)) ed_ci) (by simp)) (atI_nat (by rw [List.getElem?_map, hz]; rfl))) fun v H5 e5 tv => ?_)
    exact k ws[n] (n + 1) v H5 (by unfold rdWord; rw [hz]) (L4.ex e5) (((Fr.of e12).trans f4).trans (Fr.of e5)) tv
  · have hge : ws.length ≤ n := by simpa using hge
    unfold rdWord
    rw [List.getElem?_eq_none hge]
end
end Hw

set_option maxRecDepth 100000
set_option maxHeartbeats 4000000
/-! BT: a line is refused -/
namespace Hw
open PySem PySem.Spec PyProof.Rows L2 Evl
local macro_rules | `(tactic| walk_at "dd") => `(tactic| first | rfl | decide | (simp; done) | omega)
local macro_rules | `(tactic| walk_at "td") => `(tactic| first | assumption | exact Td.int _ | exact Td.bl _ | exact Td.str _ | exact Td.non | exact Td.tup (by assumption) (by assumption))
local macro_rules | `(tactic| walk_at "ev") => `(tactic| first
  | exact ed_ci | exact ed_cs | exact ed_cb | exact ed_cn
  | (apply ed_cg; assumption)
  | (apply ed_var; (rfl); (walk_at "td"))
  | (apply ed_ixT; (walk_at "ev"); (walk_at "ev"); (first | rfl | assumption))
  | (apply ed_rowI; (rfl); (assumption); (walk_at "ev"); (rfl))
  | (apply ed_ixL; (apply EvDL.rd; walk_at "edl"); (walk_at "ev"); (rfl))
  | (apply ed_intb; (walk_at "ev"))
  | (apply ed_len; walk_at "ev")
  | (apply ed_lenV; (apply ev_rowR; (rfl); (assumption); (walk_at "ev"); (rfl)); (assumption))
  | (apply ed_Ii; (walk_at "ev"); (walk_at "ev"); (walk_at "cc"))
  | (apply ed_isi; (walk_at "ev"); (rfl))
  | (apply ed_I0i; (walk_at "ev"); (walk_at "ev"))
  | (apply ed_I0b; (walk_at "ev"); (walk_at "ev"))
  | (apply ed_eqi; (walk_at "ev"); (walk_at "ev"))
  | (apply ed_nei; (walk_at "ev"); (walk_at "ev"))
  | (apply ed_andF; walk_at "ev")
  | (apply ed_andV; (walk_at "ev"); (intro _; walk_at "ev"))
  | (apply ed_orT; walk_at "ev")
  | (apply ed_orV; (walk_at "ev"); (intro _; walk_at "ev"))
  | (apply ed_notT; walk_at "ev")
  | (apply ed_notF; walk_at "ev")
  | (apply ed_notV; walk_at "ev")
  | (apply ed_chain; (walk_at "ev"); (walk_at "ev"); (intro _; walk_at "ev"))
  | (apply ed_eqS; (walk_at "ev"); (walk_at "ev"); (walk_at "bb"); (walk_at "bb"))
  | (apply ed_neS; (walk_at "ev"); (walk_at "ev"); (walk_at "bb"); (walk_at "bb"))
  | (apply ed_inT; (walk_at "ev"); (walk_at "ev"); (rfl); (rfl))
  | (apply ed_niT; (walk_at "ev"); (walk_at "ev"); (rfl); (rfl))
  | (apply ed_tup; (walk_at "eva"); (walk_at "bb"))
  | (apply ed_sl; (walk_at "ev"); (walk_at "evo"); (walk_at "evo"))
  | (apply ed_eqN; (apply EvDL.rd; walk_at "edl"); (walk_at "edl"); (walk_at "bb"))
  | (apply ed_neN; (apply EvDL.rd; walk_at "edl"); (walk_at "edl"); (walk_at "bb"))
  | (apply ed_ixL; (apply edr_var; (rfl); (assumption); (assumption)); (walk_at "ev"); (first | rfl | assumption))
  | (apply ed_lenL; (apply edr_var; (rfl); (assumption); (assumption)))
  | (apply ed_call; (walk_at "eva"); (walk_at "post")))
local macro_rules | `(tactic| walk_at "edl") => `(tactic| first
  | assumption
  | (apply edl_lst; (walk_at "eva"); (walk_at "bb")))
local macro_rules | `(tactic| walk_at "eva") => `(tactic| first
  | exact eda_nil
  | (apply eda_cons; (walk_at "ev"); (walk_at "eva")))
local macro_rules | `(tactic| walk_at "evo") => `(tactic| first
  | exact eok_none
  | (apply eok_some; walk_at "ev"))
local macro_rules | `(tactic| walk_at "bb") => `(tactic| first | rfl | assumption | (simp; done) | (simp; omega) | decide +kernel)
local macro_rules | `(tactic| walk_at "et") => `(tactic| first
  | exact tk_yes
  | (apply tk_andF; walk_at "et")
  | (apply tk_and; (walk_at "et"); (intro _; walk_at "et"))
  | (apply tk_orT; walk_at "et")
  | (apply tk_or; (walk_at "et"); (intro _; walk_at "et"))
  | (apply tk_notT; walk_at "et")
  | (apply tk_notF; walk_at "et")
  | (apply tk_not; walk_at "et")
  | (apply tk_v; walk_at "ev")
  | (apply tk_vB; walk_at "ev"))
local macro_rules | `(tactic| walk_at "if") => `(tactic| first
  | (apply pst_whenF; (walk_at "et"); (walk_at "bb"))
  | (apply pst_whenT; (walk_at "et"); (walk_at "bb")))
local macro_rules | `(tactic| walk_at "post") => `(tactic| first | assumption | exact ⟨_, _, rfl, rfl⟩ | exact ⟨_, _, _, _, rfl, by omega, by omega, rfl⟩ | exact ⟨_, _, _, 0, rfl, by omega, by omega, rfl⟩)
local macro_rules | `(tactic| walk_at "cc") => `(tactic| first | assumption | decide | omega | (refine ⟨?_, ?_⟩ <;> first | decide | omega) | (exact Or.inl (by constructor <;> omega)))

/-- BadText.__init__ of one that is being made -/
def spBtI (K : PySem.W.Frag) : Sp := fun vs H Q _ => ∃ (a : Addr) (row : Nat), vs = [.ref a, .int (row : Int)] ∧ H a = some (exo a (He.ga K "BadText") none) ∧
  ∀ d, H d = none → d ≠ a → Q .non (upd (upd H d (exd d [("row", .int (row : Int))])) a (exo a (He.ga K "BadText") (some d)))
section
variable {P : Program} {w : World} {K : PySem.W.Frag} {mg : Str → Option Value} {base : Heap} (T : Tx K mg)
include T
theorem ok_btI : Fn_BadText___init__ T P w base CX0 1 (spBtI K) := by
  refine T.F_BadText___init__.ok sc_BadText___init__ (fun vs H Q E h => by obtain ⟨_, _, rfl, _⟩ := h; rfl) fun cdv A outer s0 H vs Q E hr h => ?_
  obtain ⟨a, row, rfl, ha, k⟩ := h
  refine ⟨_, pss_cons (ps_expr (pe_heinit rfl T.g_HandError T.hs0_HandError T.hr0_HandError (fcB_ok T.hv0_HandError) (pa_cons (pv 0) (pa_cons (pv 1) pa_nil)))) (pss_one (ps_ost (pv 0) (pv 1))), ?_⟩
  refine w_seq (w_drop (w_cons (w_v rfl (w_cons (w_v rfl (w_nil ⟨a, He.ga K "BadText", _, rfl, by simp, oexB_ok T.ox_BadText, ha, ?_⟩))))))
  exact ⟨.int (row : Int), rfl, .ref a, rfl, a, He.ga K "BadText", rfl, oexB_ok T.ox_BadText, T.on_BadText_row, .inl ⟨ha, fun d hd hne => k d hd hne⟩⟩
theorem ok_must : Fn_Line_must T P w base (L2.CX P w) 3 (spMust K) := by
  have GI_BadText := ok_btI (P := P) (w := w) (base := base) T
  refine T.F_Line_must.ok sc_Line_must (fun vs H Q E h => by obtain ⟨_, _, _, _, _, _, rfl, _⟩ := h; rfl) fun cdv A outer s0 H vs Q E hr h => ?_
  obtain ⟨a, wl, ws, n, row, b, rfl, hL, k, kb⟩ := h
  refine ⟨_, (pss_one (ps_if (pt_not (pt_val (pv 1)))
    (pss_one (ps_raise rfl (takes_of rfl rfl rfl rfl) (pmk_oex (oexB_ok T.ox_BadText) T.oi_BadText T.of_BadText GI_BadText (hr.mono (by omega)) T.bd_BadText___init__ .nil pass0 rfl T.g_BadText (pa_cons (kpe_fld K (pv 0)) pa_nil))))
    pss_nil)), ?_⟩
  obtain ⟨dx, hob⟩ := hL.ob
  cases b with
  | true => exact w_ifs (w_t (K := K) (b := false) (tk_is (tk_not (tk_vB (ed_var rfl (.bl true)))) rfl) fun H1 e1 => ifF rfl (w_next (k rfl H1 e1)))
  | false =>
    refine w_ifs (w_t (K := K) (b := true) (tk_is (tk_not (tk_vB (ed_var rfl (.bl false)))) rfl) fun H1 e1 => ifT rfl ?_)
    refine w_cons (w_fld rfl (e1 _ _ hob) T.c_Line T.na_Line_row (by rfl) (w_nil ⟨by simp, fun x hx => ⟨x, row, rfl, upd_same, fun d hd hne => ⟨rfl, d, [("row", .int (row : Int))], upd_same, ?_, ?_, ?_⟩⟩⟩))
    · rw [upd_ne hne]
      exact upd_same
    · rw [upd_ne hne] at hd
      exact hd
    · rw [upd_ne hne] at hd
      have e : upd (del (upd (upd (upd H1 x (exo x (He.ga K "BadText") none)) d (exd d [("row", .int (row : Int))])) x (exo x (He.ga K "BadText") (some d))) x) d (.xd [("row", .int (row : Int))]) = upd H1 d (.xd [("row", .int (row : Int))]) := by
        funext b
        by_cases e1 : b = d
        · subst e1; rw [upd_same, upd_same]
        · rw [upd_ne e1, upd_ne e1]
          by_cases e2 : b = x
          · subst e2; rw [del_same, hx]
          · rw [del_ne e2, upd_ne e2, upd_ne e1, upd_ne e2]
      rw [e]
      exact kb rfl H1 d (Fr.of e1) hd
end
end Hw

set_option maxRecDepth 100000
set_option maxHeartbeats 4000000
/-! NR2: numbers and things that are read -/
namespace Hw
open PySem PySem.Spec PyProof.Rows L2 Evl
local macro_rules | `(tactic| walk_at "dd") => `(tactic| first | rfl | decide | (simp; done) | omega)
local macro_rules | `(tactic| walk_at "td") => `(tactic| first | assumption | exact Td.int _ | exact Td.bl _ | exact Td.str _ | exact Td.non | exact Td.tup (by assumption) (by assumption))
local macro_rules | `(tactic| walk_at "ev") => `(tactic| first
  | exact ed_ci | exact ed_cs | exact ed_cb | exact ed_cn
  | (apply ed_cg; assumption)
  | (apply ed_var; (rfl); (walk_at "td"))
  | (apply ed_ixT; (walk_at "ev"); (walk_at "ev"); (first | rfl | assumption))
  | (apply ed_rowI; (rfl); (assumption); (walk_at "ev"); (rfl))
  | (apply ed_ixL; (apply EvDL.rd; walk_at "edl"); (walk_at "ev"); (rfl))
  | (apply ed_intb; (walk_at "ev"))
  | (apply ed_len; walk_at "ev")
  | (apply ed_lenV; (apply ev_rowR; (rfl); (assumption); (walk_at "ev"); (rfl)); (assumption))
  | (apply ed_Ii; (walk_at "ev"); (walk_at "ev"); (walk_at "cc"))
  | (apply ed_isi; (walk_at "ev"); (rfl))
  | (apply ed_I0i; (walk_at "ev"); (walk_at "ev"))
  | (apply ed_I0b; (walk_at "ev"); (walk_at "ev"))
  | (apply ed_eqi; (walk_at "ev"); (walk_at "ev"))
  | (apply ed_nei; (walk_at "ev"); (walk_at "ev"))
  | (apply ed_andF; walk_at "ev")
  | (apply ed_andV; (walk_at "ev"); (intro _; walk_at "ev"))
  | (apply ed_orT; walk_at "ev")
  | (apply ed_orV; (walk_at "ev"); (intro _; walk_at "ev"))
  | (apply ed_notT; walk_at "ev")
  | (apply ed_notF; walk_at "ev")
  | (apply ed_notV; walk_at "ev")
  | (apply ed_chain; (walk_at "ev"); (walk_at "ev"); (intro _; walk_at "ev"))
  | (apply ed_eqS; (walk_at "ev"); (walk_at "ev"); (walk_at "bb"); (walk_at "bb"))
  | (apply ed_neS; (walk_at "ev"); (walk_at "ev"); (walk_at "bb"); (walk_at "bb"))
  | (apply ed_inT; (walk_at "ev"); (walk_at "ev"); (rfl); (rfl))
  | (apply ed_niT; (walk_at "ev"); (walk_at "ev"); (rfl); (rfl))
  | (apply ed_tup; (walk_at "eva"); (walk_at "bb"))
  | (apply ed_sl; (walk_at "ev"); (walk_at "evo"); (walk_at "evo"))
  | (apply ed_eqN; (apply EvDL.rd; walk_at "edl"); (walk_at "edl"); (walk_at "bb"))
  | (apply ed_neN; (apply EvDL.rd; walk_at "edl"); (walk_at "edl"); (walk_at "bb"))
  | (apply ed_ixL; (apply edr_var; (rfl); (assumption); (assumption)); (walk_at "ev"); (first | rfl | assumption))
  | (apply ed_lenL; (apply edr_var; (rfl); (assumption); (assumption)))
  | (apply ed_call; (walk_at "eva"); (walk_at "post")))
local macro_rules | `(tactic| walk_at "edl") => `(tactic| first
  | assumption
  | (apply edl_lst; (walk_at "eva"); (walk_at "bb")))
local macro_rules | `(tactic| walk_at "eva") => `(tactic| first
  | exact eda_nil
  | (apply eda_cons; (walk_at "ev"); (walk_at "eva")))
local macro_rules | `(tactic| walk_at "evo") => `(tactic| first
  | exact eok_none
  | (apply eok_some; walk_at "ev"))
local macro_rules | `(tactic| walk_at "bb") => `(tactic| first | rfl | assumption | (simp; done) | (simp; omega) | decide +kernel)
local macro_rules | `(tactic| walk_at "et") => `(tactic| first
  | exact tk_yes
  | (apply tk_andF; walk_at "et")
  | (apply tk_and; (walk_at "et"); (intro _; walk_at "et"))
  | (apply tk_orT; walk_at "et")
  | (apply tk_or; (walk_at "et"); (intro _; walk_at "et"))
  | (apply tk_notT; walk_at "et")
  | (apply tk_notF; walk_at "et")
  | (apply tk_not; walk_at "et")
  | (apply tk_v; walk_at "ev")
  | (apply tk_vB; walk_at "ev"))
local macro_rules | `(tactic| walk_at "if") => `(tactic| first
  | (apply pst_whenF; (walk_at "et"); (walk_at "bb"))
  | (apply pst_whenT; (walk_at "et"); (walk_at "bb")))
local macro_rules | `(tactic| walk_at "post") => `(tactic| first | assumption | exact ⟨_, _, rfl, rfl⟩ | exact ⟨_, _, _, _, rfl, by omega, by omega, rfl⟩ | exact ⟨_, _, _, 0, rfl, by omega, by omega, rfl⟩)
local macro_rules | `(tactic| walk_at "cc") => `(tactic| first | assumption | decide | omega | (refine ⟨?_, ?_⟩ <;> first | decide | omega) | (exact Or.inl (by constructor <;> omega)))

theorem figs_eq : ("0123456789" : Str).cps.toList = [48, 49, 50, 51, 52, 53, 54, 55, 56, 57] := by decide +kernel
def isFig (c : Nat) : Bool := decide (c ∈ ("0123456789" : Str).cps.toList)
theorem isFig_iff {c : Nat} : isFig c = true ↔ 48 ≤ c ∧ c < 58 := by
  unfold isFig
  rw [figs_eq]
  simp only [List.mem_cons, List.not_mem_nil, or_false, decide_eq_true_eq]
  omega
/-- the first look at a number's word, and the second -/
def figB (z : Str) : Bool := (decide ((1 : Int) ≤ (z.length : Int)) && decide ((z.length : Int) ≤ 2)) && (z.cps.toList.filter fun c => !isFig c).isEmpty
def zeroB (z : Str) : Bool := !decide ((z.cps.toList.headD 0) = 48) || decide (z = "0")
theorem num_facts : ∀ m < 100, figB (strN m) = true ∧ zeroB (strN m) = true ∧ PySem.intText? (strN m) = some (m : Int) ∧ (strN m).length ≤ 2 := by decide +kernel
theorem one_fig : ∀ c < 58, 48 ≤ c → (⟨#[c]⟩ : Str) = strN (c - 48) := by decide +kernel
theorem two_fig : ∀ c < 58, 49 ≤ c → ∀ d < 58, 48 ≤ d → (⟨#[c, d]⟩ : Str) = strN (10 * (c - 48) + (d - 48)) := by decide +kernel
theorem zero_ne : ∀ d < 58, (⟨#[48, d]⟩ : Str) ≠ "0" := by decide +kernel
theorem num_conv {z : Str} (h1 : figB z = true) (h2 : zeroB z = true) : ∃ k, k < 100 ∧ z = strN k := by
  obtain ⟨⟨l⟩⟩ := z
  simp only [figB, Bool.and_eq_true, decide_eq_true_eq, List.isEmpty_iff, List.filter_eq_nil_iff, Bool.not_eq_true', Bool.not_eq_true, Str.length, List.size_toArray] at h1
  obtain ⟨⟨a, b⟩, c⟩ := h1
  have hf : ∀ x ∈ l, 48 ≤ x ∧ x < 58 := fun x hx => by
    have := c x hx
    rw [Bool.not_eq_false] at this
    exact isFig_iff.mp this
  match l, a, b, hf, h2 with
  | [x], _, _, hf, _ =>
    have hx := hf x (by simp)
    exact ⟨x - 48, by omega, one_fig x hx.2 hx.1⟩
  | [x, y], _, _, hf, h2 =>
    have hx := hf x (by simp)
    have hy := hf y (by simp)
    by_cases e : x = 48
    · subst e
      simp only [zeroB, List.headD_cons, decide_true, Bool.not_true, Bool.false_or, decide_eq_true_eq] at h2
      exact absurd h2 (zero_ne y hy.2)
    · exact ⟨10 * (x - 48) + (y - 48), by omega, two_fig x hx.2 (by omega) y hy.2 hy.1⟩
  | [], a, _, _, _ => simp at a
  | x :: y :: u :: r, _, b, _, _ =>
    simp only [List.length_cons] at b
    omega
theorem numOf_bad {z : Str} (h : (figB z && zeroB z) = false) : numOf z = none := by
  cases hn : numOf z with
  | none => rfl
  | some k =>
    obtain ⟨e, hk⟩ := numOf_inv hn
    obtain ⟨f1, f2, _⟩ := num_facts k hk
    rw [e, f1, f2] at h
    cases h
theorem figB_fig {z : Str} (h : figB z = true) : ∃ c, z.cps.toList[0]? = some c ∧ z.cps.toList.headD 0 = c := by
  obtain ⟨⟨l⟩⟩ := z
  simp only [figB, Bool.and_eq_true, decide_eq_true_eq, Str.length, List.size_toArray] at h
  cases l with
  | nil => simp at h
  | cons x r => exact ⟨x, rfl, rfl⟩
theorem sign0 {c : Nat} : PyData.eqv (.str ⟨#[c]⟩) (.str "0") = decide (c = 48) := by
  have e : ("0" : Str) = ⟨#[48]⟩ := by decide +kernel
  rw [e]
  simp only [PyData.eqv]
  by_cases h : c = 48
  · subst h; simp
  · simp [h]
theorem eqv_str2 {x y : Str} : PyData.eqv (.str x) (.str y) = decide (x = y) := by
  simp only [PyData.eqv]
  by_cases h : x = y <;> simp [h]
theorem sign_lay {z : Str} {c : Nat} (h : (PyData.str z).canLay0 = true) (hc : c ∈ z.cps.toList) : (PyData.str ⟨#[c]⟩).canLay0 = true := by
  simp only [PyData.canLay0, PyData.strOk, Array.all_eq_true, decide_eq_true_eq] at h ⊢
  intro i hi
  obtain ⟨j, hj, e⟩ := List.mem_iff_getElem.mp hc
  have := h j (by simpa using hj)
  simp at hi
  subst hi
  simp only [Array.getElem_toList] at e
  show c < _
  omega
theorem signs_lay {z : Str} {p : Nat → Bool} (h : (PyData.str z).canLay0 = true) : PyData.canLayAll0 ((z.cps.toList.filter p).map fun c => PyData.str ⟨#[c]⟩) = true := by
  have e : ((z.cps.toList.filter p).map fun c => PyData.str ⟨#[c]⟩) = ((z.cps.toList.filter p).map fun c => (⟨#[c]⟩ : Str)).map PyData.str := by rw [List.map_map]; rfl
  rw [e]
  refine strs_lay _ fun s hs => ?_
  obtain ⟨c, hc, rfl⟩ := List.mem_map.mp hs
  exact sign_lay h (List.mem_filter.mp hc).1
section
variable {P : Program} {w : World} {K : PySem.W.Frag} {mg : Str → Option Value} {base : Heap} (T : Tx K mg)
include T
theorem ok_numb {lv : Nat} (hlv : 1 ≤ lv) (GM : Fn_Line_must T P w base (L2.CX P w) lv (spMust K)) (GW : Fn_Line_word T P w base (L2.CX P w) (lv + 1) (spRd K rdWord PyData.str)) : Fn_Line_number T P w base (L2.CX P w) (lv + 2) (spRd K rdNum fun k => .int (k : Int)) := by
  have G_Line_must := GM
  have G_Line_word := GW
  refine T.F_Line_number.ok sc_Line_number spRd_len fun cdv A outer s0 H vs Q E hr h => ?_
  obtain ⟨a, wl, ws, n, row, rfl, hL, hne, hbad, k⟩ := h
  refine ⟨_, (pss_cons (ps_set (i := 1) sc_Line_number.nd rfl (Or.inl rfl) (pe_meth0 (pv 0) T.c_Line T.m_Line_word G_Line_word (hr.mono (by omega)) T.bd_Line_word .nil (passes_call (takes_of rfl rfl rfl rfl) (fun _ _ _ _ h => h))))
  (pss_cons (ps_expr (pe_meth (pv 0) T.c_Line T.m_Line_must G_Line_must (hr.mono (by omega)) T.bd_Line_must .nil (passes_call (takes_of rfl rfl rfl rfl) (fun _ _ _ _ h => h)) (pa_cons (pe_and (pe_chain op_le op_le pe_int (pe_callB call_len_str rfl T.b_len PySem.boot_len (pa_cons (pv 1) pa_nil)) (pe_gint rfl T.g_MOST_FIGURES)) (pe_one (pe_cmpR (kop_eq K hr.units) (pe_lc (own := [("sign", 2)]) (g := gName 2) (tt := _) rfl sc_Line_number.nd (pi_str (pv 1)) (blkOk_by (N := ["self", "word", "sign"]) (sc := defScope s_Line_number) (by decide +kernel)) (fun _ _ _ _ _ => (pg_name (i := 2) sc_Line_number.nd rfl (Or.inl rfl))) (fun _ _ _ _ _ => (pts_one (pt_cmpR op_notIn_sign (pv 2) (pe_gstr rfl T.g_FIGURES) rfl))) (fun _ _ _ _ _ => (pv 2))) (pe_lst pa_nil) (nomark _)))) pa_nil)))
  (pss_cons (ps_expr (pe_meth (pv 0) T.c_Line T.m_Line_must G_Line_must (hr.mono (by omega)) T.bd_Line_must .nil (passes_call (takes_of rfl rfl rfl rfl) (fun _ _ _ _ h => h)) (pa_cons (pe_or (pe_cmpR (kop_ne K hr.units) (pe_ix ix_str (pv 1) pe_int (fun _ _ => rfl)) pe_str (nomark _)) (pe_one (pe_cmpR (kop_eq K hr.units) (pv 1) pe_str (nomark _)))) pa_nil)))
  (pss_one (ps_ret (pe_callTy call_int_str rfl T.b_int (by decide +kernel) (pa_cons (pv 1) pa_nil))))))), ?_⟩
  refine w_seq (w_asg (w_rd rfl hL (by rfl) rdWord_ne (fun h => hbad (bindR_b h)) fun z m v H1 hz L1 f1 tv => ?_))
  cases tv
  have er : rdNum ws n = match numOf z with
    | some k => some (some (k, m))
    | none => some none := bindR_of hz
  obtain ⟨hwz, hm, hlt⟩ := rdWord_lt hz
  have hzo := hL.ok.2 z (List.mem_of_getElem? hwz)
  obtain ⟨dx1, hob1⟩ := L1.ob
  dsimp only
  refine w_seq (w_drop (w_meth rfl hob1 (by rfl) (w_cons (w_d (K := K) (d := .bool (figB z)) ?_ fun v H2 e2 tv => w_nil ?_))))
  · refine ed_andV (ed_chain (i := 1) (k := 2) ed_ci (ed_lenS (ed_var rfl (.str _)) hzo.1) fun _ => ed_ci) fun _ => ed_is (ed_eqN (EvDL.rd (edl_lcS (p := fun c => !isFig c) (ed_var rfl (.str _)) hzo.1 (fun _ => rfl) (fun c H3 e3 => tk_v (ed_niS (ed_var rfl (.str _)) ed_cs)) (fun c H3 e3 => ed_var rfl (.str _)))) (edl_lst eda_nil (by decide)) ?_) ?_
    · exact signs_lay hzo.2
    · simp
  cases tv
  refine ⟨a, wl, ws, m, row, _, rfl, L1.ex e2, fun hb1 H3 e3 => ?_, fun hb1 => ?_⟩
  · have e23 := e2.trans e3
    have L3 := L1.ex e23
    obtain ⟨dx3, hob3⟩ := L3.ob
    obtain ⟨c0, hc0, hd0⟩ := figB_fig hb1
    refine w_seq (w_drop (w_meth rfl hob3 (by rfl) (w_cons (w_d (K := K) (d := .bool (zeroB z)) ?_ fun v H4 e4 tv => w_nil ?_))))
    · refine ed_is (ed_orV (ed_neS (ed_ixS (i := 0) (c := c0) (ed_var rfl (.str _)) ed_ci hzo.1 (atI_nat hc0)) ed_cs ?_ (by decide +kernel)) fun _ => ed_eqS (ed_var rfl (.str _)) ed_cs hzo.2 (by decide +kernel)) ?_
      · exact sign_lay hzo.2 (List.mem_of_getElem? hc0)
      · rw [sign0, eqv_str2]
        unfold zeroB
        rw [hd0]
    cases tv
    have L4 := L3.ex e4
    refine ⟨a, wl, ws, m, row, _, rfl, L4, fun hb2 H5 e5 => ?_, fun hb2 => ?_⟩
    · obtain ⟨kk, hk, rfl⟩ := num_conv hb1 hb2
      rw [numOf_str kk hk] at er
      obtain ⟨_, _, hi, hl⟩ := num_facts kk hk
      refine w_ret (w_d (K := K) (ed_intS (ed_var rfl (.str _)) hi (by omega)) fun v H6 e6 tv => ?_)
      exact k kk m v H6 er ((L4.ex e5).ex e6) (f1.trans (Fr.of ((e23.trans e4).trans (e5.trans e6)))) tv
    · rw [numOf_bad (by rw [hb2]; simp)] at er
      exact (hbad er).fr (f1.trans (Fr.of (e23.trans e4)))
  · rw [numOf_bad (by rw [hb1]; simp)] at er
    exact (hbad er).fr (f1.trans (Fr.of e2))
theorem thg_step {lv d : Nat} (hlv : 1 ≤ lv) (GH : Fn_Line_here T P w base CX0 1 (spHere K)) (GN : Fn_Line_number T P w base (L2.CX P w) (lv + 2) (spRd K rdNum fun k => .int (k : Int)))
    (GT : Fn_Line_thing_here T P w base (L2.CX P w) (lv + 2 + d) (spRd K (fun ws => rdT ws d) encT)) : Fn_Line_thing_here T P w base (L2.CX P w) (lv + 2 + d + 1) (spRd K (fun ws => rdT ws (d + 1)) encT) := by
  have G_Line_here := GH
  have G_Line_number := GN
  have G_Line_thing_here := GT
  refine T.F_Line_thing_here.ok sc_Line_thing_here spRd_len fun cdv A outer s0 H vs Q E hr h => ?_
  obtain ⟨a, wl, ws, n, row, rfl, hL, hne, hbad, k⟩ := h
  dsimp only at hne hbad k
  refine ⟨_, (pss_cons (ps_set (i := 1) sc_Line_thing_here.nd rfl (Or.inl rfl) (pe_meth0 (pv 0) T.c_Line T.m_Line_here G_Line_here (hr.mono (by omega)) T.bd_Line_here .nil pass0))
  (pss_cons (ps_if (pt_cmpR (kop_ni K) (pv 1) (pe_tup (pa_cons pe_str (pa_cons pe_str (pa_cons pe_str (pa_cons pe_str pa_nil))))) rfl)
    (pss_one (ps_ret (pe_tup (pa_cons pe_str (pa_cons (pe_meth0 (pv 0) T.c_Line T.m_Line_number G_Line_number (hr.mono (by omega)) T.bd_Line_number .nil (passes_call (takes_of rfl rfl rfl rfl) (fun _ _ _ _ h => h))) pa_nil)))))
    pss_nil)
  (pss_cons (ps_fld (pv 0) (pe_op op_add (kpe_fld K (pv 0)) pe_int) rfl)
  (pss_cons (ps_if (pt_cmpR (kop_eq K hr.units) (pv 1) pe_str (nomark _))
    (pss_cons (ps_set (i := 2) sc_Line_thing_here.nd rfl (Or.inl rfl) (pe_meth0 (pv 0) T.c_Line T.m_Line_thing_here G_Line_thing_here (hr.mono (by omega)) T.bd_Line_thing_here .nil (passes_call (takes_of rfl rfl rfl rfl) (fun _ _ _ _ h => h))))
    (pss_one (ps_ret (pe_tup (pa_cons pe_str (pa_cons (pv 2) (pa_cons (pe_meth0 (pv 0) T.c_Line T.m_Line_thing_here G_Line_thing_here (hr.mono (by omega)) T.bd_Line_thing_here .nil (passes_call (takes_of rfl rfl rfl rfl) (fun _ _ _ _ h => h))) pa_nil)))))))
    pss_nil)
  (pss_one (ps_ret (pe_tup (pa_cons (pv 1) (pa_cons (pe_ifExp (pt_cmpR (kop_eq K hr.units) (pv 1) pe_str (nomark _)) (pe_meth0 (pv 0) T.c_Line T.m_Line_thing_here G_Line_thing_here (hr.mono (by omega)) T.bd_Line_thing_here .nil (passes_call (takes_of rfl rfl rfl rfl) (fun _ _ _ _ h => h))) (pe_meth0 (pv 0) T.c_Line T.m_Line_number G_Line_number (hr.mono (by omega)) T.bd_Line_number .nil (passes_call (takes_of rfl rfl rfl rfl) (fun _ _ _ _ h => h)))) pa_nil))))))))), ?_⟩
  refine w_seq (w_asg (w_d (K := K) (ed_here rfl hL) fun v H1 e1 tv => ?_))
  cases tv
  have L1 := hL.ex e1
  have hz := hL.here n
  generalize hzz : hereW ws n = z at hz
  dsimp only
  refine seq_cut (fun σ' H' => (z = "+" ∨ z = "cell" ∨ z = "own" ∨ z = "par") ∧ σ' = [some (.ref a), some (.str z), none] ∧ Ex H H') ?_ fun N hN => ?_
  · rintro σ' H2 ⟨h4, rfl, e2⟩
    have L2 := hL.ex e2
    refine w_seq (w_at1 rfl L2 T.c_Line T.na_Line_at fun H3 L3 f3 => ?_)
    have f03 := (Fr.of e2).trans f3
    dsimp only
    by_cases hp : z = "+"
    · subst hp
      have er : rdT ws (d + 1) n = bindR (rdT ws d (n + 1)) fun a m => bindR (rdT ws d m) fun b l => some (some (.sum a b, l)) := by simp [rdT, hzz]
      rw [er] at hne hbad k
      refine w_seq (w_ifs (w_t (K := K) (b := true) (tk_is (tk_v (ed_eqS (ed_var rfl (.str _)) ed_cs hz.1 (by decide +kernel))) (by simp)) fun H4 e4 => ifT rfl ?_))
      refine w_seq (w_asg (w_rd rfl (L3.ex e4) (by rfl) (bindR_ne hne) (fun h => (hbad (bindR_b h)).fr (f03.trans (Fr.of e4))) fun x m v H5 hx L5 f5 tv => ?_))
      rw [bindR_of hx] at hne hbad k
      have f05 := (f03.trans (Fr.of e4)).trans f5
      dsimp only
      refine w_ret (w_tup (w_cons (w_c (w_cons (w_v rfl (w_cons (w_rd rfl L5 (by rfl) (bindR_ne hne) (fun h => (hbad (bindR_b h)).fr f05) fun y l u H6 hy L6 f6 tu => w_nil ⟨by show 3 ≤ sizeLine; decide, fun p hp => ?_⟩)))))))
      exact k _ l _ _ (by rw [bindR_of hy]) (L6.ex (Ex.new hp)) ((f05.trans f6).trans (Fr.of (Ex.new hp))) (td_new hp (tdall3 (.str _) (tv.kp (L5.keep f6)) tu))
    · refine w_seq (w_ifs (w_t (K := K) (b := false) (tk_is (tk_v (ed_eqS (ed_var rfl (.str _)) ed_cs hz.1 (by decide +kernel))) (by rw [eqv_str2]; simp [hp])) fun H4 e4 => ifF rfl (w_next ?_)))
      have L4 := L3.ex e4
      have f04 := f03.trans (Fr.of e4)
      dsimp only
      by_cases hc : z = "cell"
      · subst hc
        have er : rdT ws (d + 1) n = bindR (rdT ws d (n + 1)) fun a m => some (some (.cell a, m)) := by simp [rdT, hzz, hp]
        rw [er] at hne hbad k
        refine w_ret (w_tup (w_cons (w_v rfl (w_cons (w_if (w_t (K := K) (b := true) (tk_is (tk_v (ed_eqS (ed_var rfl (.str _)) ed_cs hz.1 (by decide +kernel))) (by simp)) fun H5 e5 => ifT rfl (w_rd rfl (L4.ex e5) (by rfl) (bindR_ne hne) (fun h => (hbad (bindR_b h)).fr (f04.trans (Fr.of e5))) fun x m v H6 hx L6 f6 tv => w_nil ⟨by show 2 ≤ sizeLine; decide, fun p hp => ?_⟩)))))))
        exact k _ m _ _ (by rw [bindR_of hx]) (L6.ex (Ex.new hp)) (((f04.trans (Fr.of e5)).trans f6).trans (Fr.of (Ex.new hp))) (td_new hp (tdall2 (.str _) tv))
      · refine w_ret (w_tup (w_cons (w_v rfl (w_cons (w_if (w_t (K := K) (b := false) (tk_is (tk_v (ed_eqS (ed_var rfl (.str _)) ed_cs hz.1 (by decide +kernel))) (by rw [eqv_str2]; simp [hc])) fun H5 e5 => ifF rfl ?_))))))
        have f05 := f04.trans (Fr.of e5)
        rcases h4 with e | e | e | e
        · exact absurd e hp
        · exact absurd e hc
        · subst e
          have er : rdT ws (d + 1) n = bindR (rdNum ws (n + 1)) fun a m => some (some (.own a, m)) := by simp [rdT, hzz, hp, hc]
          rw [er] at hne hbad k
          refine w_rd rfl (L4.ex e5) (by rfl) (bindR_ne hne) (fun h => (hbad (bindR_b h)).fr f05) fun x m v H6 hx L6 f6 tv => w_nil ⟨by show 2 ≤ sizeLine; decide, fun p hp => ?_⟩
          exact k _ m _ _ (by rw [bindR_of hx]) (L6.ex (Ex.new hp)) ((f05.trans f6).trans (Fr.of (Ex.new hp))) (td_new hp (tdall2 (.str _) tv))
        · subst e
          have hno : ("par" : Str) ≠ "own" := by decide +kernel
          have er : rdT ws (d + 1) n = bindR (rdNum ws (n + 1)) fun a m => some (some (.par a, m)) := by simp [rdT, hzz, hp, hc, hno]
          rw [er] at hne hbad k
          refine w_rd rfl (L4.ex e5) (by rfl) (bindR_ne hne) (fun h => (hbad (bindR_b h)).fr f05) fun x m v H6 hx L6 f6 tv => w_nil ⟨by show 2 ≤ sizeLine; decide, fun p hp => ?_⟩
          exact k _ m _ _ (by rw [bindR_of hx]) (L6.ex (Ex.new hp)) ((f05.trans f6).trans (Fr.of (Ex.new hp))) (td_new hp (tdall2 (.str _) tv))
  · refine w_ifs (w_t (K := K) (b := !(decide (("+" : Str) = z) || (decide (("cell" : Str) = z) || (decide (("own" : Str) = z) || (decide (("par" : Str) = z) || false))))) (tk_v (ed_is (ed_niT (ed_var rfl (.str _)) (ed_tup (eda_cons ed_cs (eda_cons ed_cs (eda_cons ed_cs (eda_cons ed_cs eda_nil)))) (by decide)) rfl rfl) (by simp only [List.any_cons, List.any_nil, eqv_str2]))) fun H2 e2 => ?_)
    by_cases h4 : z = "+" ∨ z = "cell" ∨ z = "own" ∨ z = "par"
    · refine ifF (by rcases h4 with e | e | e | e <;> subst e <;> decide +kernel) (w_next (hN _ _ ⟨h4, rfl, e1.trans e2⟩))
    · have hh : z ≠ "+" ∧ z ≠ "cell" ∧ z ≠ "own" ∧ z ≠ "par" := by simpa [not_or] using h4
      have er : rdT ws (d + 1) n = bindR (rdNum ws n) fun a m => some (some (.num a, m)) := by simp [rdT, hzz, hh.1, hh.2.1, hh.2.2.1, hh.2.2.2]
      rw [er] at hne hbad k
      refine ifT (by simp [Ne.symm hh.1, Ne.symm hh.2.1, Ne.symm hh.2.2.1, Ne.symm hh.2.2.2]) ?_
      refine w_ret (w_tup (w_cons (w_c (w_cons (w_rd rfl (L1.ex e2) (by rfl) (bindR_ne hne) (fun h => (hbad (bindR_b h)).fr (Fr.of (e1.trans e2))) fun x m v H6 hx L6 f6 tv => w_nil ⟨by show 2 ≤ sizeLine; decide, fun p hp => ?_⟩)))))
      exact k _ m _ _ (by rw [bindR_of hx]) (L6.ex (Ex.new hp)) (((Fr.of (e1.trans e2)).trans f6).trans (Fr.of (Ex.new hp))) (td_new hp (tdall2 (.str _) tv))
theorem ok_thg {lv : Nat} (hlv : 1 ≤ lv) (GH : Fn_Line_here T P w base CX0 1 (spHere K)) (GN : Fn_Line_number T P w base (L2.CX P w) (lv + 2) (spRd K rdNum fun k => .int (k : Int))) : ∀ d : Nat, Fn_Line_thing_here T P w base (L2.CX P w) (lv + 2 + d) (spRd K (fun ws => rdT ws d) encT)
  | 0 => fn_vac fun vs H Q E h => by
    obtain ⟨_, _, _, _, _, _, _, hne, _⟩ := h
    exact hne rfl
  | d + 1 => thg_step T hlv GH GN (ok_thg hlv GH GN d)
end
end Hw

set_option maxRecDepth 100000
set_option maxHeartbeats 4000000
/-! NR3: steps, lines and texts that are read -/
namespace Hw
open PySem PySem.Spec PyProof.Rows L2 Evl
local macro_rules | `(tactic| walk_at "dd") => `(tactic| first | rfl | decide | (simp; done) | omega)
local macro_rules | `(tactic| walk_at "td") => `(tactic| first | assumption | exact Td.int _ | exact Td.bl _ | exact Td.str _ | exact Td.non | exact Td.tup (by assumption) (by assumption))
local macro_rules | `(tactic| walk_at "ev") => `(tactic| first
  | exact ed_ci | exact ed_cs | exact ed_cb | exact ed_cn
  | (apply ed_cg; assumption)
  | (apply ed_var; (rfl); (walk_at "td"))
  | (apply ed_ixT; (walk_at "ev"); (walk_at "ev"); (first | rfl | assumption))
  | (apply ed_rowI; (rfl); (assumption); (walk_at "ev"); (rfl))
  | (apply ed_ixL; (apply EvDL.rd; walk_at "edl"); (walk_at "ev"); (rfl))
  | (apply ed_intb; (walk_at "ev"))
  | (apply ed_len; walk_at "ev")
  | (apply ed_lenV; (apply ev_rowR; (rfl); (assumption); (walk_at "ev"); (rfl)); (assumption))
  | (apply ed_Ii; (walk_at "ev"); (walk_at "ev"); (walk_at "cc"))
  | (apply ed_isi; (walk_at "ev"); (rfl))
  | (apply ed_I0i; (walk_at "ev"); (walk_at "ev"))
  | (apply ed_I0b; (walk_at "ev"); (walk_at "ev"))
  | (apply ed_eqi; (walk_at "ev"); (walk_at "ev"))
  | (apply ed_nei; (walk_at "ev"); (walk_at "ev"))
  | (apply ed_andF; walk_at "ev")
  | (apply ed_andV; (walk_at "ev"); (intro _; walk_at "ev"))
  | (apply ed_orT; walk_at "ev")
  | (apply ed_orV; (walk_at "ev"); (intro _; walk_at "ev"))
  | (apply ed_notT; walk_at "ev")
  | (apply ed_notF; walk_at "ev")
  | (apply ed_notV; walk_at "ev")
  | (apply ed_chain; (walk_at "ev"); (walk_at "ev"); (intro _; walk_at "ev"))
  | (apply ed_eqS; (walk_at "ev"); (walk_at "ev"); (walk_at "bb"); (walk_at "bb"))
  | (apply ed_neS; (walk_at "ev"); (walk_at "ev"); (walk_at "bb"); (walk_at "bb"))
  | (apply ed_inT; (walk_at "ev"); (walk_at "ev"); (rfl); (rfl))
  | (apply ed_niT; (walk_at "ev"); (walk_at "ev"); (rfl); (rfl))
  | (apply ed_tup; (walk_at "eva"); (walk_at "bb"))
  | (apply ed_sl; (walk_at "ev"); (walk_at "evo"); (walk_at "evo"))
  | (apply ed_eqN; (apply EvDL.rd; walk_at "edl"); (walk_at "edl"); (walk_at "bb"))
  | (apply ed_neN; (apply EvDL.rd; walk_at "edl"); (walk_at "edl"); (walk_at "bb"))
  | (apply ed_ixL; (apply edr_var; (rfl); (assumption); (assumption)); (walk_at "ev"); (first | rfl | assumption))
  | (apply ed_lenL; (apply edr_var; (rfl); (assumption); (assumption)))
  | (apply ed_call; (walk_at "eva"); (walk_at "post")))
local macro_rules | `(tactic| walk_at "edl") => `(tactic| first
  | assumption
  | (apply edl_lst; (walk_at "eva"); (walk_at "bb")))
local macro_rules | `(tactic| walk_at "eva") => `(tactic| first
  | exact eda_nil
  | (apply eda_cons; (walk_at "ev"); (walk_at "eva")))
local macro_rules | `(tactic| walk_at "evo") => `(tactic| first
  | exact eok_none
  | (apply eok_some; walk_at "ev"))
local macro_rules | `(tactic| walk_at "bb") => `(tactic| first | rfl | assumption | (simp; done) | (simp; omega) | decide +kernel)
local macro_rules | `(tactic| walk_at "et") => `(tactic| first
  | exact tk_yes
  | (apply tk_andF; walk_at "et")
  | (apply tk_and; (walk_at "et"); (intro _; walk_at "et"))
  | (apply tk_orT; walk_at "et")
  | (apply tk_or; (walk_at "et"); (intro _; walk_at "et"))
  | (apply tk_notT; walk_at "et")
  | (apply tk_notF; walk_at "et")
  | (apply tk_not; walk_at "et")
  | (apply tk_v; walk_at "ev")
  | (apply tk_vB; walk_at "ev"))
local macro_rules | `(tactic| walk_at "if") => `(tactic| first
  | (apply pst_whenF; (walk_at "et"); (walk_at "bb"))
  | (apply pst_whenT; (walk_at "et"); (walk_at "bb")))
local macro_rules | `(tactic| walk_at "post") => `(tactic| first | assumption | exact ⟨_, _, rfl, rfl⟩ | exact ⟨_, _, _, _, rfl, by omega, by omega, rfl⟩ | exact ⟨_, _, _, 0, rfl, by omega, by omega, rfl⟩)
local macro_rules | `(tactic| walk_at "cc") => `(tactic| first | assumption | decide | omega | (refine ⟨?_, ?_⟩ <;> first | decide | omega) | (exact Or.inl (by constructor <;> omega)))

section
variable {K : PySem.W.Frag} {H : Hp} {Q : VK} {z s : Str}
theorem rEqM_S (hz : (PyData.str z).canLay0 = true) (hs : (PyData.str s).canLay0 = true) (q : Q (.bl (decide (z = s))) H) : rEqM K (.str z) (.str s) H Q :=
  ⟨.str z, .str s, .str _, .str _, hz, hs, by simp [PyData.depth], by rw [eqv_str2]; exact q⟩
end
theorem rdS_succ {ws : List Str} {dt d n : Nat} : rdS ws dt (d + 1) n = bindR (rdWord ws n) fun z m =>
    if z = "call" then bindR (rdNum ws m) fun c l => bindR (rdTs ws dt l) fun ts e => some (some (.call c ts, e + 1))
    else bindR (rdT ws dt m) fun t l =>
      if z = "say" then some (some (.say t, l))
      else if z = "set" then bindR (rdT ws dt l) fun u e => some (some (.set t u, e))
      else if z = "if" then bindR (rdIn ws (rdB ws dt d) l) fun a e => bindR (rdIn ws (rdB ws dt d) e) fun b e2 => some (some (.ite t a b, e2))
      else none := by
  rw [rdS]
  rfl
section
variable {P : Program} {w : World} {K : PySem.W.Frag} {mg : Str → Option Value} {base : Heap} (T : Tx K mg)
include T
theorem ok_inner {lv lw : Nat} {B : List Str → Nat → Rd (List Stm)} (h1 : 2 ≤ lv) (h2 : 1 ≤ lw) (hlw : lw ≤ lv) (GM : Fn_Line_must T P w base (L2.CX P w) lw (spMust K)) (GW : Fn_Line_word T P w base (L2.CX P w) (lw + 1) (spRd K rdWord PyData.str)) (hlv : lw + 1 ≤ lv)
    (GB : Fn_Line_steps_here T P w base (L2.CX P w) lv (spRd K B fun b => .tuple (encB b))) : Fn_Line_inner T P w base (L2.CX P w) (lv + 1) (spRd K (fun ws => rdIn ws (B ws)) fun b => .tuple (encB b)) := by
  have G_Line_must := GM
  have G_Line_word := GW
  have G_Line_steps_here := GB
  refine T.F_Line_inner.ok sc_Line_inner spRd_len fun cdv A outer s0 H vs Q E hr h => ?_
  obtain ⟨a, wl, ws, n, row, rfl, hL, hne, hbad, k⟩ := h
  dsimp only at hne hbad k
  obtain ⟨dx, hob⟩ := hL.ob
  refine ⟨_, (pss_cons (ps_expr (pe_meth (pv 0) T.c_Line T.m_Line_must G_Line_must (hr.mono (by omega)) T.bd_Line_must .nil (passes_call (takes_of rfl rfl rfl rfl) (fun _ _ _ _ h => h)) (pa_cons (pe_cmpR (kop_eq K hr.units) (pe_meth0 (pv 0) T.c_Line T.m_Line_word G_Line_word (hr.mono (by omega)) T.bd_Line_word .nil (passes_call (takes_of rfl rfl rfl rfl) (fun _ _ _ _ h => h))) pe_str (nomark _)) pa_nil)))
  (pss_cons (ps_set (i := 1) sc_Line_inner.nd rfl (Or.inl rfl) (pe_meth0 (pv 0) T.c_Line T.m_Line_steps_here G_Line_steps_here (hr.mono (by omega)) T.bd_Line_steps_here .nil (passes_call (takes_of rfl rfl rfl rfl) (fun _ _ _ _ h => h))))
  (pss_cons (ps_expr (pe_meth (pv 0) T.c_Line T.m_Line_must G_Line_must (hr.mono (by omega)) T.bd_Line_must .nil (passes_call (takes_of rfl rfl rfl rfl) (fun _ _ _ _ h => h)) (pa_cons (pe_cmpR (kop_eq K hr.units) (pe_meth0 (pv 0) T.c_Line T.m_Line_word G_Line_word (hr.mono (by omega)) T.bd_Line_word .nil (passes_call (takes_of rfl rfl rfl rfl) (fun _ _ _ _ h => h))) pe_str (nomark _)) pa_nil)))
  (pss_one (ps_ret (pv 1)))))), ?_⟩
  unfold rdIn at hne hbad k
  refine w_seq (w_drop (w_meth rfl hob (by rfl) (w_cons (w_op (w_rd rfl hL (by rfl) rdWord_ne (fun h => hbad (bindR_b h)) fun z m v H1 hz L1 f1 tv => w_c ?_)))))
  cases tv
  rw [bindR_of hz] at hne hbad k
  have hzo := (L1.ok.2 z (List.mem_of_getElem? (rdWord_lt hz).1)).2
  refine rEqM_S hzo (by decide +kernel) (w_nil ⟨a, wl, ws, m, row, _, rfl, L1, fun hb H2 e2 => ?_, fun hb => ?_⟩)
  · have hz1 : z = "(" := by simpa using hb
    rw [if_pos hz1] at hne hbad k
    refine w_seq (w_asg (w_rd rfl (L1.ex e2) (by rfl) (bindR_ne hne) (fun h => (hbad (bindR_b h)).fr (f1.trans (Fr.of e2))) fun b l u H3 hb2 L3 f3 tu => ?_))
    rw [bindR_of hb2] at hne hbad k
    have f03 := (f1.trans (Fr.of e2)).trans f3
    obtain ⟨dx3, hob3⟩ := L3.ob
    dsimp only
    refine w_seq (w_drop (w_meth rfl hob3 (by rfl) (w_cons (w_op (w_rd rfl L3 (by rfl) rdWord_ne (fun h => (hbad (bindR_b h)).fr f03) fun y e v H4 hy L4 f4 tv => w_c ?_)))))
    cases tv
    rw [bindR_of hy] at hne hbad k
    have hyo := (L4.ok.2 y (List.mem_of_getElem? (rdWord_lt hy).1)).2
    have f04 := f03.trans f4
    refine rEqM_S hyo (by decide +kernel) (w_nil ⟨a, wl, ws, e, row, _, rfl, L4, fun hb3 H5 e5 => ?_, fun hb3 => ?_⟩)
    · have hy1 : y = ")" := by simpa using hb3
      rw [if_pos hy1] at k
      exact w_ret (w_v rfl (k b e u H5 rfl (L4.ex e5) (f04.trans (Fr.of e5)) ((tu.kp (L3.keep f4)).ex e5)))
    · have hy1 : y ≠ ")" := by simpa using hb3
      rw [if_neg hy1] at hbad
      exact (hbad rfl).fr f04
  · have hz1 : z ≠ "(" := by simpa using hb
    rw [if_neg hz1] at hbad
    exact (hbad rfl).fr f1
theorem ok_sth {lv dt d : Nat} (h1 : 1 ≤ lv) (GH : Fn_Line_here T P w base CX0 1 (spHere K)) (GS : Fn_Line_step T P w base (L2.CX P w) lv (spRd K (fun ws => rdS ws dt d) encS)) : Fn_Line_steps_here T P w base (L2.CX P w) (lv + 1) (spRd K (fun ws => rdB ws dt d) fun b => .tuple (encB b)) := by
  have G_Line_here := GH
  have G_Line_step := GS
  refine T.F_Line_steps_here.ok sc_Line_steps_here spRd_len fun cdv A outer s0 H vs Q E hr h => ?_
  obtain ⟨a, wl, ws, n, row, rfl, hL, hne, hbad, k⟩ := h
  dsimp only at hne hbad k
  obtain ⟨dx, hob⟩ := hL.ob
  have hlen := hL.ok.1
  refine ⟨_, (pss_cons (ps_set (i := 1) sc_Line_steps_here.nd rfl (Or.inl rfl) (pe_lst pa_nil))
  (pss_cons (ps_while (passes_of rfl) (pt_cmpR (kop_in K) (pe_meth0 (pv 0) T.c_Line T.m_Line_here G_Line_here (hr.mono (by omega)) T.bd_Line_here .nil pass0) (pe_tup (pa_cons pe_str (pa_cons pe_str (pa_cons pe_str (pa_cons pe_str pa_nil))))) rfl)
    (pss_one (ps_expr (pe_bm PySem.F.plainAttrs_list PySem.F.slot_list_append PySem.F.type_list_append mt_append (pv 1) (pa_cons (pe_meth0 (pv 0) T.c_Line T.m_Line_step G_Line_step (hr.mono (by omega)) T.bd_Line_step .nil (passes_call (takes_of rfl rfl rfl rfl) (fun _ _ _ _ h => h))) pa_nil)))))
  (pss_one (ps_ret (pe_callTy (kc_tuple K) rfl T.b_tuple (by decide +kernel) (pa_cons (pv 1) pa_nil)))))), ?_⟩
  refine w_seq (w_asg (w_lst (w_nil ⟨Nat.zero_le _, fun fl hfl => ?_⟩)))
  have nfa : fl ≠ a := fun e => by rw [e, hob] at hfl; cases hfl
  have nfw : fl ≠ wl := fun e => by rw [e, hL.wd] at hfl; cases hfl
  have e1 : Ex H (upd H fl (.lst [])) := Ex.new hfl
  have hf1 : upd H fl (.lst []) fl = some (.lst []) := upd_same
  have L1 := hL.ex e1
  have fr0 : ∀ {H'}, Fr [a, fl] (upd H fl (.lst [])) H' → Fr [a] H H' := fun f p o hp ho => by
    have np : p ≠ fl := fun e => by rw [e, hfl] at ho; cases ho
    refine f p o (by simp only [List.mem_cons, List.not_mem_nil, or_false] at hp ⊢; exact fun h => h.elim hp np) (e1 _ _ ho)
  generalize upd H fl (.lst []) = H1 at *
  dsimp only
  refine w_seq (w_itR (S := rdS ws dt d) (enc := encS) (go := fun j => isStepW (hereW ws j)) nfa nfw (fun m H2 L2 => ?_) (fun m vs H2 N L2 f2 hl hvl hne2 hbad2 kk => ?_) (ws.length + 1) (by omega) L1 hf1 hne (fun h H2 f2 => (hbad h).fr (fr0 f2)) fun xs m vs H2 hx L2 f2 hl tds => ?_)
  · refine tk_v (ed_is (ed_inT (ed_here rfl L2) (ed_tup (eda_cons ed_cs (eda_cons ed_cs (eda_cons ed_cs (eda_cons ed_cs eda_nil)))) (by decide)) rfl rfl) ?_)
    simp only [List.any_cons, List.any_nil, eqv_str2, Bool.or_false, isStepW]
    congr 1
    generalize hereW ws m = z
    simp only [eq_comm]
  · exact w_app rfl hl (w_rd rfl L2 (by rfl) hne2 hbad2 fun x l v H3 hx L3 f3 tv => ⟨vs, f3 _ _ (by simpa using nfa) hl, sz_lt (by omega), kk x l v H3 hx L3 f3 tv⟩)
  · dsimp only
    refine w_ret (w_d (K := K) (ed_tupL (edr_var rfl (SqL.of hl) tds)) fun v H3 e3 tv => ?_)
    rw [← encB_map] at tv
    exact k xs m v H3 hx (L2.ex e3) ((fr0 f2).trans (Fr.of e3)) tv
theorem ok_lstep {lv lw li dt d : Nat} (h2 : 1 ≤ lw) (hlw : lw + 2 + dt ≤ lv) (hli : li ≤ lv) (GH : Fn_Line_here T P w base CX0 1 (spHere K)) (GW : Fn_Line_word T P w base (L2.CX P w) (lw + 1) (spRd K rdWord PyData.str)) (GN : Fn_Line_number T P w base (L2.CX P w) (lw + 2) (spRd K rdNum fun k => .int (k : Int)))
    (GT : Fn_Line_thing_here T P w base (L2.CX P w) (lw + 2 + dt) (spRd K (fun ws => rdT ws dt) encT))
    (GI : Fn_Line_inner T P w base (L2.CX P w) li (spRd K (fun ws => rdIn ws (rdB ws dt d)) fun b => .tuple (encB b))) : Fn_Line_step T P w base (L2.CX P w) (lv + 1) (spRd K (fun ws => rdS ws dt (d + 1)) encS) := by
  have G_Line_here := GH
  have G_Line_word := GW
  have G_Line_number := GN
  have G_Line_thing_here := GT
  have G_Line_inner := GI
  refine T.F_Line_step.ok sc_Line_step spRd_len fun cdv A outer s0 H vs Q E hr h => ?_
  obtain ⟨a, wl, ws, n, row, rfl, hL, hne, hbad, k⟩ := h
  dsimp only at hne hbad k
  obtain ⟨dx, hob⟩ := hL.ob
  have hlen := hL.ok.1
  refine ⟨_, (pss_cons (ps_set (i := 1) sc_Line_step.nd rfl (Or.inl rfl) (pe_meth0 (pv 0) T.c_Line T.m_Line_word G_Line_word (hr.mono (by omega)) T.bd_Line_word .nil (passes_call (takes_of rfl rfl rfl rfl) (fun _ _ _ _ h => h))))
  (pss_cons (ps_if (pt_cmpR (kop_eq K hr.units) (pv 1) pe_str (nomark _))
    (pss_cons (ps_set (i := 2) sc_Line_step.nd rfl (Or.inl rfl) (pe_meth0 (pv 0) T.c_Line T.m_Line_number G_Line_number (hr.mono (by omega)) T.bd_Line_number .nil (passes_call (takes_of rfl rfl rfl rfl) (fun _ _ _ _ h => h))))
    (pss_cons (ps_set (i := 3) sc_Line_step.nd rfl (Or.inl rfl) (pe_lst pa_nil))
    (pss_cons (ps_while (passes_of rfl) (pt_cmpR (kop_ne K hr.units) (pe_meth0 (pv 0) T.c_Line T.m_Line_here G_Line_here (hr.mono (by omega)) T.bd_Line_here .nil pass0) pe_str (nomark _))
      (pss_one (ps_expr (pe_bm PySem.F.plainAttrs_list PySem.F.slot_list_append PySem.F.type_list_append mt_append (pv 3) (pa_cons (pe_meth0 (pv 0) T.c_Line T.m_Line_thing_here G_Line_thing_here (hr.mono (by omega)) T.bd_Line_thing_here .nil (passes_call (takes_of rfl rfl rfl rfl) (fun _ _ _ _ h => h))) pa_nil)))))
    (pss_cons (ps_fld (pv 0) (pe_op op_add (kpe_fld K (pv 0)) pe_int) rfl)
    (pss_one (ps_ret (pe_tup (pa_cons (pv 1) (pa_cons (pv 2) (pa_cons (pe_callTy (kc_tuple K) rfl T.b_tuple (by decide +kernel) (pa_cons (pv 3) pa_nil)) pa_nil))))))))))
    pss_nil)
  (pss_cons (ps_set (i := 4) sc_Line_step.nd rfl (Or.inl rfl) (pe_meth0 (pv 0) T.c_Line T.m_Line_thing_here G_Line_thing_here (hr.mono (by omega)) T.bd_Line_thing_here .nil (passes_call (takes_of rfl rfl rfl rfl) (fun _ _ _ _ h => h))))
  (pss_cons (ps_if (pt_cmpR (kop_eq K hr.units) (pv 1) pe_str (nomark _))
    (pss_one (ps_ret (pe_tup (pa_cons (pv 1) (pa_cons (pv 4) pa_nil)))))
    pss_nil)
  (pss_cons (ps_if (pt_cmpR (kop_eq K hr.units) (pv 1) pe_str (nomark _))
    (pss_one (ps_ret (pe_tup (pa_cons (pv 1) (pa_cons (pv 4) (pa_cons (pe_meth0 (pv 0) T.c_Line T.m_Line_thing_here G_Line_thing_here (hr.mono (by omega)) T.bd_Line_thing_here .nil (passes_call (takes_of rfl rfl rfl rfl) (fun _ _ _ _ h => h))) pa_nil))))))
    pss_nil)
  (pss_cons (ps_set (i := 5) sc_Line_step.nd rfl (Or.inl rfl) (pe_meth0 (pv 0) T.c_Line T.m_Line_inner G_Line_inner (hr.mono (by omega)) T.bd_Line_inner .nil (passes_call (takes_of rfl rfl rfl rfl) (fun _ _ _ _ h => h))))
  (pss_one (ps_ret (pe_tup (pa_cons (pv 1) (pa_cons (pv 4) (pa_cons (pv 5) (pa_cons (pe_meth0 (pv 0) T.c_Line T.m_Line_inner G_Line_inner (hr.mono (by omega)) T.bd_Line_inner .nil (passes_call (takes_of rfl rfl rfl rfl) (fun _ _ _ _ h => h))) pa_nil))))))))))))), ?_⟩
  rw [rdS_succ] at hne hbad k
  refine w_seq (w_asg (w_rd rfl hL (by rfl) rdWord_ne (fun h => hbad (bindR_b h)) fun z m v H1 hz L1 f1 tv => ?_))
  cases tv
  rw [bindR_of hz] at hne hbad k
  have hzo := (L1.ok.2 z (List.mem_of_getElem? (rdWord_lt hz).1)).2
  dsimp only
  by_cases hc : z = "call"
  · subst hc
    rw [if_pos rfl] at hne hbad k
    refine w_seq (w_ifs (w_t (K := K) (b := true) (tk_is (tk_v (ed_eqS (ed_var rfl (.str _)) ed_cs hzo (by decide +kernel))) (by simp)) fun H2 e2 => ifT rfl ?_))
    refine w_seq (w_asg (w_rd rfl (L1.ex e2) (by rfl) rdNum_ne (fun h => (hbad (bindR_b h)).fr (f1.trans (Fr.of e2))) fun c l v H3 hx L3 f3 tv => ?_))
    cases tv
    rw [bindR_of hx] at hne hbad k
    have f03 := (f1.trans (Fr.of e2)).trans f3
    refine w_seq (w_asg (w_lst (w_nil ⟨Nat.zero_le _, fun fl hfl => ?_⟩)))
    have nfa : fl ≠ a := fun e => by obtain ⟨dx3, hob3⟩ := L3.ob; rw [e, hob3] at hfl; cases hfl
    have nfw : fl ≠ wl := fun e => by rw [e, L3.wd] at hfl; cases hfl
    have e4 : Ex H3 (upd H3 fl (.lst [])) := Ex.new hfl
    have hf4 : upd H3 fl (.lst []) fl = some (.lst []) := upd_same
    have L4 := L3.ex e4
    have fr0 : ∀ {H'}, Fr [a, fl] (upd H3 fl (.lst [])) H' → Fr [a] H3 H' := fun f p o hp ho => by
      have np : p ≠ fl := fun e => by rw [e, hfl] at ho; cases ho
      refine f p o (by simp only [List.mem_cons, List.not_mem_nil, or_false] at hp ⊢; exact fun h => h.elim hp np) (e4 _ _ ho)
    generalize upd H3 fl (.lst []) = H4 at *
    dsimp only
    refine w_seq (w_itR (S := rdT ws dt) (enc := encT) (go := fun i => !decide (hereW ws i = ".")) nfa nfw (fun m H2 L2 => ?_) (fun m vs H2 N L2 f2 hl hvl hne2 hbad2 kk => ?_) (ws.length + 1) (by omega) L4 hf4 (bindR_ne hne) (fun h H2 f2 => (hbad (bindR_b h)).fr (f03.trans (fr0 f2))) fun xs m2 vs H5 hx2 L5 f5 hl tds => ?_)
    · exact tk_is (tk_v (ed_neS (ed_here rfl L2) ed_cs (L2.here m).1 (by decide +kernel))) (by rw [eqv_str2])
    · exact w_app rfl hl (w_rd rfl L2 (by rfl) hne2 hbad2 fun x l v H3 hx L3 f3 tv => ⟨vs, f3 _ _ (by simpa using nfa) hl, sz_lt (by omega), kk x l v H3 hx L3 f3 tv⟩)
    · have hx3 : rdTs ws dt l = some (some (xs, m2)) := hx2
      rw [bindR_of hx3] at k
      dsimp only
      refine w_seq (w_at1 rfl L5 T.c_Line T.na_Line_at fun H6 L6 f6 => ?_)
      dsimp only
      have kp : Keep K H5 H6 := L5.keep f6
      have hl6 : H6 fl = some (.lst vs) := f6 _ _ (by simpa using nfa) hl
      refine w_ret (w_d (K := K) (d := .tuple [.str "call", .int (c : Int), .tuple (xs.map encT)]) (ed_tup (eda_cons (ed_var rfl (.str _)) (eda_cons (ed_var rfl (.int _)) (eda_cons (ed_tupL (edr_var rfl (SqL.of hl6) (tds.kp kp))) eda_nil))) (by simp)) fun v H7 e7 tv => ?_)
      exact k _ (m2 + 1) v H7 rfl (L6.ex e7) (((f03.trans (fr0 f5)).trans f6).trans (Fr.of e7)) (by simpa only [encS] using tv)
  · rw [if_neg hc] at hne hbad k
    refine w_seq (w_ifs (w_t (K := K) (b := false) (tk_is (tk_v (ed_eqS (ed_var rfl (.str _)) ed_cs hzo (by decide +kernel))) (by rw [eqv_str2]; simp [hc])) fun H2 e2 => ifF rfl (w_next ?_)))
    refine w_seq (w_asg (w_rd rfl (L1.ex e2) (by rfl) (bindR_ne hne) (fun h => (hbad (bindR_b h)).fr (f1.trans (Fr.of e2))) fun t l v H3 hx L3 f3 tv => ?_))
    rw [bindR_of hx] at hne hbad k
    have f03 := (f1.trans (Fr.of e2)).trans f3
    dsimp only
    by_cases hs : z = "say"
    · subst hs
      rw [if_pos rfl] at k
      refine w_seq (w_ifs (w_t (K := K) (b := true) (tk_is (tk_v (ed_eqS (ed_var rfl (.str _)) ed_cs hzo (by decide +kernel))) (by simp)) fun H4 e4 => ifT rfl ?_))
      refine w_ret (w_d (K := K) (d := .tuple [.str "say", encT t]) (ed_tup (eda_cons (ed_var rfl (.str _)) (eda_cons (ed_var rfl (tv.ex e4)) eda_nil)) (by simp)) fun u H5 e5 tu => ?_)
      exact k _ l u H5 rfl ((L3.ex e4).ex e5) (f03.trans (Fr.of (e4.trans e5))) (by simpa only [encS] using tu)
    · rw [if_neg hs] at hne hbad k
      refine w_seq (w_ifs (w_t (K := K) (b := false) (tk_is (tk_v (ed_eqS (ed_var rfl (.str _)) ed_cs hzo (by decide +kernel))) (by rw [eqv_str2]; simp [hs])) fun H4 e4 => ifF rfl (w_next ?_)))
      have L4 := L3.ex e4
      have t4 := tv.ex e4
      have f04 := f03.trans (Fr.of e4)
      dsimp only
      by_cases ht : z = "set"
      · subst ht
        rw [if_pos rfl] at hne hbad k
        refine w_seq (w_ifs (w_t (K := K) (b := true) (tk_is (tk_v (ed_eqS (ed_var rfl (.str _)) ed_cs hzo (by decide +kernel))) (by simp)) fun H5 e5 => ifT rfl ?_))
        refine w_ret (w_tup (w_cons (w_v rfl (w_cons (w_v rfl (w_cons (w_rd rfl (L4.ex e5) (by rfl) (bindR_ne hne) (fun h => (hbad (bindR_b h)).fr (f04.trans (Fr.of e5))) fun x e u H6 hy L6 f6 tu => w_nil ⟨by show 3 ≤ sizeLine; decide, fun p hp => ?_⟩)))))))
        have td9 := td_new hp (tdall3 (.str "set") ((t4.ex e5).kp ((L4.ex e5).keep f6)) tu)
        exact k _ e _ _ (by rw [bindR_of hy]) (L6.ex (Ex.new hp)) (((f04.trans (Fr.of e5)).trans f6).trans (Fr.of (Ex.new hp))) (by simpa only [encS] using td9)
      · rw [if_neg ht] at hne hbad k
        refine w_seq (w_ifs (w_t (K := K) (b := false) (tk_is (tk_v (ed_eqS (ed_var rfl (.str _)) ed_cs hzo (by decide +kernel))) (by rw [eqv_str2]; simp [ht])) fun H5 e5 => ifF rfl (w_next ?_)))
        have hi : z = "if" := by
          by_cases hi : z = "if"
          · exact hi
          · rw [if_neg hi] at hne
            exact absurd rfl hne
        subst hi
        rw [if_pos rfl] at hne hbad k
        have L5 := L4.ex e5
        have f05 := f04.trans (Fr.of e5)
        dsimp only
        refine w_seq (w_asg (w_rd rfl L5 (by rfl) (bindR_ne hne) (fun h => (hbad (bindR_b h)).fr f05) fun b1 e1 u1 H6 hy L6 f6 tu1 => ?_))
        rw [bindR_of hy] at hne hbad k
        have f06 := f05.trans f6
        dsimp only
        refine w_ret (w_tup (w_cons (w_v rfl (w_cons (w_v rfl (w_cons (w_v rfl (w_cons (w_rd rfl L6 (by rfl) (bindR_ne hne) (fun h => (hbad (bindR_b h)).fr f06) fun b2 e2 u2 H7 hy2 L7 f7 tu2 => w_nil ⟨by show 4 ≤ sizeLine; decide, fun p hp => ?_⟩)))))))))
        have k67 := L6.keep f7
        have ta9 : TdAll K H7 _ [.str "if", encT t, .tuple (encB b1), .tuple (encB b2)] := .cons (.str "if") (.cons (((t4.ex e5).kp (L5.keep f6)).kp k67) (.cons (tu1.kp k67) (.cons tu2 .nil)))
        have td9 := td_new hp ta9
        exact k _ e2 _ _ (by rw [bindR_of hy2]) (L7.ex (Ex.new hp)) ((f06.trans f7).trans (Fr.of (Ex.new hp))) (by simpa only [encS] using td9)
end
/-! ### lines and rows -/
def rdRows (dt d : Nat) : Nat → List (List Str) → Option (Sum Nat (List Wk))
  | _, [] => some (.inr [])
  | i, ws :: r => match rdL dt d ws with
    | none => none
    | some none => some (.inl i)
    | some (some (w, _)) => match rdRows dt d (i + 1) r with
      | some (.inr p) => some (.inr (w :: p))
      | x => x
def rowsOf (tx : Str) : List (List Str) := (Txt.split tx "\n").map fun l => Txt.split l " "
/-- lines that may be read -/
def txOk (tx : Str) : Prop := tx.length ≤ 2000000 ∧ (Txt.split tx "\n").length ≤ 1000 ∧ ∀ l ∈ Txt.split tx "\n", l.length ≤ 2000000 ∧ wdOk (Txt.split l " ")
def BadR (K : PySem.W.Frag) (row : Nat) (E : XK) (H : Hp) : Prop := ∀ H1 d, Ex H H1 → H1 d = none → E (.ref (He.ga K "BadText")) (some d) (upd H1 d (.xd [("row", .int (row : Int))]))
theorem BadR.bad {K : PySem.W.Frag} {row : Nat} {E : XK} {a : Addr} {H H' : Hp} (h : BadR K row E H) (e : Ex H H') (ha : H a = none) : BadT K row E a H' := by
  first
    | exact fun H1 d g => h H1 d (ex_fr1 e ha g)
    | exact h
def spRead (K : PySem.W.Frag) (dt d : Nat) : Sp := fun vs H Q E => ∃ tx : Str, vs = [.str tx] ∧ txOk tx ∧ rdRows dt d 0 (rowsOf tx) ≠ none ∧ (∀ i, rdRows dt d 0 (rowsOf tx) = some (.inl i) → BadR K i E H) ∧
  ∀ p, rdRows dt d 0 (rowsOf tx) = some (.inr p) → smP p ∧ (okP p = true → ∀ v H', Ex H H' → Td K H' v (encP p) → Q v H') ∧ (okP p = false → ∀ H', Ex H H' → E (.ref (He.ga K "BadProgram")) none H')
def spLnI (K : PySem.W.Frag) : Sp := fun vs H Q _ => ∃ (x dx : Addr) (z : Str) (row : Nat), vs = [.ref x, .str z, .int (row : Int)] ∧ H x = some (.ins (He.ga K "Line") dx []) ∧ z.length ≤ 2000000 ∧ wdOk (Txt.split z " ") ∧ ∀ wl H', LnAt K x wl (Txt.split z " ") 0 row H' → Fr [x] H H' → Q .non H'
section
variable {P : Program} {w : World} {K : PySem.W.Frag} {mg : Str → Option Value} {base : Heap} (T : Tx K mg)
include T
theorem ok_linit : Fn_Line___init__ T P w base CX0 1 (spLnI K) := by
  refine T.F_Line___init__.ok sc_Line___init__ (fun vs H Q E h => by obtain ⟨_, _, _, _, rfl, _⟩ := h; rfl) fun cdv A outer s0 H vs Q E hr h => ?_
  obtain ⟨x, dx, z, row, rfl, hx, hz, hwd, k⟩ := h
  refine ⟨_, (pss_cons (ps_fld (pv 0) (pe_split (pv 1) pe_str) rfl)
  (pss_cons (ps_fld (pv 0) pe_int rfl)
  (pss_one (ps_fld (pv 0) (pv 2) rfl)))), ?_⟩
  have hsz : z.length + 2 ≤ sizeLine := Nat.le_trans (Nat.add_le_add_right hz 2) (by decide)
  refine w_seq (w_setf rfl (w_v rfl ⟨⟨z, rfl⟩, w_c ⟨z, " ", rfl, rfl, by decide +kernel, hsz, fun wl hwl => ⟨He.ga K "Line", dx, [], ?_, T.c_Line, T.na_Line_words, by show 0 < 1000; decide, ?_⟩⟩⟩))
  · rw [upd_ne (fun e => by rw [e, hwl] at hx; cases hx)]
    exact hx
  have nwx : wl ≠ x := fun e => by rw [e, hx] at hwl; cases hwl
  have hx1 : upd (upd H wl (.lst ((Txt.split z " ").map V.str))) x (.ins (He.ga K "Line") dx (putF "words" (V.ref wl) [])) x = some (.ins (He.ga K "Line") dx [("words", .ref wl)]) := upd_same
  have hw1 : upd (upd H wl (.lst ((Txt.split z " ").map V.str))) x (.ins (He.ga K "Line") dx (putF "words" (V.ref wl) [])) wl = some (.lst ((Txt.split z " ").map V.str)) := by rw [upd_ne nwx]; exact upd_same
  have f1 : Fr [x] H (upd (upd H wl (.lst ((Txt.split z " ").map V.str))) x (.ins (He.ga K "Line") dx (putF "words" (V.ref wl) []))) := (Fr.of (Ex.new hwl)).trans (Fr.upd (by simp))
  generalize upd (upd H wl (.lst ((Txt.split z " ").map V.str))) x (.ins (He.ga K "Line") dx (putF "words" (V.ref wl) [])) = H1 at *
  dsimp only
  refine w_seq (w_setf rfl (w_c ⟨He.ga K "Line", dx, _, hx1, T.c_Line, T.na_Line_at, by show 1 < 1000; decide, ?_⟩))
  have hx2 : upd H1 x (.ins (He.ga K "Line") dx (putF "at" (V.int 0) [("words", .ref wl)])) x = some (.ins (He.ga K "Line") dx [("words", .ref wl), ("at", .int 0)]) := upd_same
  have hw2 : upd H1 x (.ins (He.ga K "Line") dx (putF "at" (V.int 0) [("words", .ref wl)])) wl = some (.lst ((Txt.split z " ").map V.str)) := by rw [upd_ne nwx]; exact hw1
  have f2 : Fr [x] H (upd H1 x (.ins (He.ga K "Line") dx (putF "at" (V.int 0) [("words", .ref wl)]))) := f1.trans (Fr.upd (by simp))
  generalize upd H1 x (.ins (He.ga K "Line") dx (putF "at" (V.int 0) [("words", .ref wl)])) = H2 at *
  dsimp only
  refine w_setf rfl (w_v rfl ⟨He.ga K "Line", dx, _, hx2, T.c_Line, T.na_Line_row, by show 2 < 1000; decide, ?_⟩)
  exact k wl _ ⟨⟨dx, upd_same⟩, by rw [upd_ne nwx]; exact hw2, hwd⟩ (f2.trans (Fr.upd (by simp)))
end
end Hw

set_option maxRecDepth 100000
set_option maxHeartbeats 4000000
/-! NR4: a text that is read -/
namespace Hw
open PySem PySem.Spec PyProof.Rows L2 Evl
local macro_rules | `(tactic| walk_at "dd") => `(tactic| first | rfl | decide | (simp; done) | omega)
local macro_rules | `(tactic| walk_at "td") => `(tactic| first | assumption | exact Td.int _ | exact Td.bl _ | exact Td.str _ | exact Td.non | exact Td.tup (by assumption) (by assumption))
local macro_rules | `(tactic| walk_at "ev") => `(tactic| first
  | exact ed_ci | exact ed_cs | exact ed_cb | exact ed_cn
  | (apply ed_cg; assumption)
  | (apply ed_var; (rfl); (walk_at "td"))
  | (apply ed_ixT; (walk_at "ev"); (walk_at "ev"); (first | rfl | assumption))
  | (apply ed_rowI; (rfl); (assumption); (walk_at "ev"); (rfl))
  | (apply ed_ixL; (apply EvDL.rd; walk_at "edl"); (walk_at "ev"); (rfl))
  | (apply ed_intb; (walk_at "ev"))
  | (apply ed_len; walk_at "ev")
  | (apply ed_lenV; (apply ev_rowR; (rfl); (assumption); (walk_at "ev"); (rfl)); (assumption))
  | (apply ed_Ii; (walk_at "ev"); (walk_at "ev"); (walk_at "cc"))
  | (apply ed_isi; (walk_at "ev"); (rfl))
  | (apply ed_I0i; (walk_at "ev"); (walk_at "ev"))
  | (apply ed_I0b; (walk_at "ev"); (walk_at "ev"))
  | (apply ed_eqi; (walk_at "ev"); (walk_at "ev"))
  | (apply ed_nei; (walk_at "ev"); (walk_at "ev"))
  | (apply ed_andF; walk_at "ev")
  | (apply ed_andV; (walk_at "ev"); (intro _; walk_at "ev"))
  | (apply ed_orT; walk_at "ev")
  | (apply ed_orV; (walk_at "ev"); (intro _; walk_at "ev"))
  | (apply ed_notT; walk_at "ev")
  | (apply ed_notF; walk_at "ev")
  | (apply ed_notV; walk_at "ev")
  | (apply ed_chain; (walk_at "ev"); (walk_at "ev"); (intro _; walk_at "ev"))
  | (apply ed_eqS; (walk_at "ev"); (walk_at "ev"); (walk_at "bb"); (walk_at "bb"))
  | (apply ed_neS; (walk_at "ev"); (walk_at "ev"); (walk_at "bb"); (walk_at "bb"))
  | (apply ed_inT; (walk_at "ev"); (walk_at "ev"); (rfl); (rfl))
  | (apply ed_niT; (walk_at "ev"); (walk_at "ev"); (rfl); (rfl))
  | (apply ed_tup; (walk_at "eva"); (walk_at "bb"))
  | (apply ed_sl; (walk_at "ev"); (walk_at "evo"); (walk_at "evo"))
  | (apply ed_eqN; (apply EvDL.rd; walk_at "edl"); (walk_at "edl"); (walk_at "bb"))
  | (apply ed_neN; (apply EvDL.rd; walk_at "edl"); (walk_at "edl"); (walk_at "bb"))
  | (apply ed_ixL; (apply edr_var; (rfl); (assumption); (assumption)); (walk_at "ev"); (first | rfl | assumption))
  | (apply ed_lenL; (apply edr_var; (rfl); (assumption); (assumption)))
  | (apply ed_call; (walk_at "eva"); (walk_at "post")))
local macro_rules | `(tactic| walk_at "edl") => `(tactic| first
  | assumption
  | (apply edl_lst; (walk_at "eva"); (walk_at "bb")))
local macro_rules | `(tactic| walk_at "eva") => `(tactic| first
  | exact eda_nil
  | (apply eda_cons; (walk_at "ev"); (walk_at "eva")))
local macro_rules | `(tactic| walk_at "evo") => `(tactic| first
  | exact eok_none
  | (apply eok_some; walk_at "ev"))
local macro_rules | `(tactic| walk_at "bb") => `(tactic| first | rfl | assumption | (simp; done) | (simp; omega) | decide +kernel)
local macro_rules | `(tactic| walk_at "et") => `(tactic| first
  | exact tk_yes
  | (apply tk_andF; walk_at "et")
  | (apply tk_and; (walk_at "et"); (intro _; walk_at "et"))
  | (apply tk_orT; walk_at "et")
  | (apply tk_or; (walk_at "et"); (intro _; walk_at "et"))
  | (apply tk_notT; walk_at "et")
  | (apply tk_notF; walk_at "et")
  | (apply tk_not; walk_at "et")
  | (apply tk_v; walk_at "ev")
  | (apply tk_vB; walk_at "ev"))
local macro_rules | `(tactic| walk_at "if") => `(tactic| first
  | (apply pst_whenF; (walk_at "et"); (walk_at "bb"))
  | (apply pst_whenT; (walk_at "et"); (walk_at "bb")))
local macro_rules | `(tactic| walk_at "post") => `(tactic| first | assumption | exact ⟨_, _, rfl, rfl⟩ | exact ⟨_, _, _, _, rfl, by omega, by omega, rfl⟩ | exact ⟨_, _, _, 0, rfl, by omega, by omega, rfl⟩)
local macro_rules | `(tactic| walk_at "cc") => `(tactic| first | assumption | decide | omega | (refine ⟨?_, ?_⟩ <;> first | decide | omega) | (exact Or.inl (by constructor <;> omega)))

section
variable {K : PySem.W.Frag} {H : Hp} {E : XK}
/-- Line(text, row) -/
theorem mkLine_go {z : Str} {row : Nat} {R : Addr → Hp → Prop} (hz : z.length ≤ 2000000) (hw : wdOk (Txt.split z " ")) (h : ∀ x wl H2, H x = none → Ex H H2 → LnAt K x wl (Txt.split z " ") 0 row H2 → R x H2) :
    ∀ x dx, H x = none → H dx = none → dx ≠ x → spLnI K (.ref x :: ([.str z, .int (row : Int)] ++ [])) (upd (upd H dx (.own x)) x (.ins (He.ga K "Line") dx [])) (fun v H2 => v = .non ∧ R x H2) E := fun x dx hx hdx hne => by
  refine ⟨x, dx, z, row, rfl, upd_same, hz, hw, fun wl H' hL f => ⟨rfl, h x wl H' hx (fun q o hq => ?_) hL⟩⟩
  have n1 : q ≠ x := fun e => by rw [e, hx] at hq; cases hq
  have n2 : q ≠ dx := fun e => by rw [e, hdx] at hq; cases hq
  exact f q o (by simpa using n1) (by rw [upd_ne n1, upd_ne n2]; exact hq)
end
/-- what is left to be read behind i rows -/
theorem rdRows_step {dt d i : Nat} {ws : List Str} {r : List (List Str)} : rdRows dt d i (ws :: r) = match rdL dt d ws with
    | none => none
    | some none => some (.inl i)
    | some (some (w, _)) => match rdRows dt d (i + 1) r with
      | some (.inr p) => some (.inr (w :: p))
      | x => x := rfl
/-- where rows are read: the works so far, and what is told of the rest, is what is told of all -/
def RwAt (dt d : Nat) (rows : List (List Str)) (i : Nat) (p : List Wk) : Prop := rdRows dt d i (rows.drop i) ≠ none ∧ (∀ j, rdRows dt d i (rows.drop i) = some (.inl j) → rdRows dt d 0 rows = some (.inl j)) ∧ ∀ q, rdRows dt d i (rows.drop i) = some (.inr q) → rdRows dt d 0 rows = some (.inr (p ++ q))
theorem RwAt.go {dt d i : Nat} {rows : List (List Str)} {p : List Wk} {ws : List Str} (h : RwAt dt d rows i p) (hi : rows[i]? = some ws) : rdL dt d ws ≠ none ∧ (rdL dt d ws = some none → rdRows dt d 0 rows = some (.inl i)) ∧ ∀ w e, rdL dt d ws = some (some (w, e)) → RwAt dt d rows (i + 1) (p ++ [w]) := by
  obtain ⟨h1, h2, h3⟩ := h
  have ed : rows.drop i = ws :: rows.drop (i + 1) := by
    obtain ⟨hl, e⟩ := List.getElem?_eq_some_iff.mp hi
    rw [List.drop_eq_getElem_cons hl, e]
  rw [ed, rdRows_step] at h1 h2 h3
  refine ⟨fun e => h1 (by rw [e]), fun e => h2 i (by rw [e]), fun w l e => ?_⟩
  rw [e] at h1 h2 h3
  dsimp only at h1 h2 h3
  refine ⟨fun z => h1 (by rw [z]), fun j z => h2 j (by rw [z]), fun q z => ?_⟩
  have := h3 (w :: q) (by rw [z])
  rw [this]
  simp
section
variable {P : Program} {w : World} {K : PySem.W.Frag} {mg : Str → Option Value} {base : Heap} (T : Tx K mg)
include T
theorem ok_read {lv dt d lw : Nat} (hlw : 1 ≤ lw) (h1 : lw + 2 ≤ lv) (h24 : 24 ≤ lv) (GI : Fn_Line___init__ T P w base CX0 1 (spLnI K)) (GM : Fn_Line_must T P w base (L2.CX P w) lw (spMust K)) (GN : Fn_Line_number T P w base (L2.CX P w) (lw + 2) (spRd K rdNum fun k => .int (k : Int)))
    (GB : Fn_Line_steps_here T P w base (L2.CX P w) lv (spRd K (fun ws => rdB ws dt d) fun b => .tuple (encB b))) (GP : Fn_need_program T P w base (L2.CX P w) 24 (spNP K)) : Fn_read T P w base (L2.CX P w) (lv + 1) (spRead K dt d) := by
  have G_Line___init__ := GI
  have G_Line_must := GM
  have G_Line_number := GN
  have G_Line_steps_here := GB
  have G_need_program := GP
  refine T.F_read.ok sc_read (fun vs H Q E h => by obtain ⟨_, rfl, _⟩ := h; rfl) fun cdv A outer s0 H vs Q E hr h => ?_
  obtain ⟨tx, rfl, hok, hne, hbad, k⟩ := h
  obtain ⟨ho1, ho2, ho3⟩ := hok
  have hsz : tx.length + 2 ≤ sizeLine := Nat.le_trans (Nat.add_le_add_right ho1 2) (by decide)
  refine ⟨_, (pss_cons (ps_set (i := 1) sc_read.nd rfl (Or.inl rfl) (pe_lst pa_nil))
  (pss_cons (ps_set (i := 2) sc_read.nd rfl (Or.inl rfl) (pe_split (pv 0) pe_str))
  (pss_cons (ps_for (passes_of rfl) rfl (pi_range1 rfl T.b_range (pa_cons (pe_callB (kc_len K) rfl T.b_len PySem.boot_len (pa_cons (pv 2) pa_nil)) pa_nil)) (pg_name (i := 3) sc_read.nd rfl (Or.inl rfl))
    (pss_cons (ps_set (i := 4) sc_read.nd rfl (Or.inl rfl) (pe_make T.mk_Line G_Line___init__ (hr.mono (by omega)) (by rfl) T.g_Line T.bd_Line___init__ .nil pass0 (pa_cons (pe_ix (kix_list K) (pv 2) (pv 3) (fun _ _ => rfl)) (pa_cons (pv 3) pa_nil))))
    (pss_cons (ps_set (i := 5) sc_read.nd rfl (Or.inl rfl) (pe_meth0 (pv 4) T.c_Line T.m_Line_number G_Line_number (hr.mono (by omega)) T.bd_Line_number .nil (passes_call (takes_of rfl rfl rfl rfl) (fun _ _ _ _ h => h))))
    (pss_cons (ps_set (i := 6) sc_read.nd rfl (Or.inl rfl) (pe_meth0 (pv 4) T.c_Line T.m_Line_number G_Line_number (hr.mono (by omega)) T.bd_Line_number .nil (passes_call (takes_of rfl rfl rfl rfl) (fun _ _ _ _ h => h))))
    (pss_cons (ps_set (i := 7) sc_read.nd rfl (Or.inl rfl) (pe_meth0 (pv 4) T.c_Line T.m_Line_steps_here G_Line_steps_here (hr.mono (by omega)) T.bd_Line_steps_here .nil (passes_call (takes_of rfl rfl rfl rfl) (fun _ _ _ _ h => h))))
    (pss_cons (ps_expr (pe_meth (pv 4) T.c_Line T.m_Line_must G_Line_must (hr.mono (by omega)) T.bd_Line_must .nil (passes_call (takes_of rfl rfl rfl rfl) (fun _ _ _ _ h => h)) (pa_cons (pe_cmpR op_eq (kpe_fld K (pv 4)) (pe_callB (kc_len K) rfl T.b_len PySem.boot_len (pa_cons (kpe_fld K (pv 4)) pa_nil)) (nomark _)) pa_nil)))
    (pss_one (ps_expr (pe_bm PySem.F.plainAttrs_list PySem.F.slot_list_append PySem.F.type_list_append mt_append (pv 1) (pa_cons (pe_tup (pa_cons (pv 5) (pa_cons (pv 6) (pa_cons (pv 7) pa_nil)))) pa_nil))))))))))
  (pss_cons (ps_expr (pe_call G_need_program (hr.mono (by omega)) (by rfl) T.g_need_program T.k_need_program T.bd_need_program .nil (passes_call (takes_of rfl rfl rfl rfl) (fun _ _ _ _ h => h)) (pa_cons (pe_callTy (kc_tuple K) rfl T.b_tuple (by decide +kernel) (pa_cons (pv 1) pa_nil)) pa_nil)))
  (pss_one (ps_ret (pe_callTy (kc_tuple K) rfl T.b_tuple (by decide +kernel) (pa_cons (pv 1) pa_nil)))))))), ?_⟩
  refine w_seq (w_asg (w_lst (w_nil ⟨Nat.zero_le _, fun fl hfl => ?_⟩)))
  have e1 : Ex H (upd H fl (.lst [])) := Ex.new hfl
  have hf1 : upd H fl (.lst []) fl = some (.lst []) := upd_same
  generalize upd H fl (.lst []) = H1 at *
  dsimp only
  refine w_seq (w_asg (w_v rfl ⟨⟨tx, rfl⟩, w_c ⟨tx, "\n", rfl, rfl, by decide +kernel, hsz, fun rl hrl => ?_⟩⟩))
  have e2 : Ex H1 (upd H1 rl (.lst ((Txt.split tx "\n").map V.str))) := Ex.new hrl
  have hr2 : upd H1 rl (.lst ((Txt.split tx "\n").map V.str)) rl = some (.lst ((Txt.split tx "\n").map V.str)) := upd_same
  have nrf : rl ≠ fl := fun e => by rw [e, hf1] at hrl; cases hrl
  have hf2 := e2 _ _ hf1
  have e02 := e1.trans e2
  generalize upd H1 rl (.lst ((Txt.split tx "\n").map V.str)) = H2 at *
  dsimp only
  generalize hL : Txt.split tx "\n" = L at *
  have hrows : rowsOf tx = L.map fun l => Txt.split l " " := by unfold rowsOf; rw [hL]
  generalize rowsOf tx = rows at *
  refine w_seq (w_forR (K := K) (n := L.length) (eda_cons (ed_is (ed_lenL (edr_var rfl (SqL.of hr2) (strs_td L))) (by rw [List.length_map])) eda_nil) (by omega) (fun i σ' H' => ∃ (u3 u4 u5 u6 u7 : Option V) (vs : List V) (p : List Wk), σ' = [some (.str tx), some (.ref fl), some (.ref rl), u3, u4, u5, u6, u7] ∧ Ex H H' ∧ H' rl = some (.lst (L.map V.str)) ∧ H' fl = some (.lst vs) ∧ TdAll K H' vs (p.map encW) ∧ p.length = i ∧ RwAt dt d rows i p) ?_ ?_ ?_)
  · intro H3 e3
    exact ⟨_, _, _, _, _, [], [], rfl, e02.trans e3, e3 _ _ hr2, e3 _ _ hf2, .nil, rfl, hne, fun j h => h, fun q h => h⟩
  · rintro i σ' H3 hi ⟨u3, u4, u5, u6, u7, vs, p, rfl, e3, hr3, hf3, tp3, hpl, RW⟩
    have hli : L[i]? = some L[i] := List.getElem?_eq_getElem hi
    have hz := ho3 _ (List.getElem_mem hi)
    have hri : rows[i]? = some (Txt.split L[i] " ") := by rw [hrows, List.getElem?_map, hli]; rfl
    obtain ⟨g1, g2, g3⟩ := RW.go hri
    generalize hws : Txt.split L[i] " " = ws at *
    have hB : ∀ {a : Addr} {H' : Hp}, H a = none → Ex H H' → rdL dt d ws = some none → BadT K i E a H' := fun ha he e => (hbad i (g2 e)).bad he ha
    unfold rdL at g1 g3 hB
    dsimp only
    refine w_seq (w_asg (w_mk (w_cons (w_d (K := K) (d := .str L[i]) (ed_ixL (i := (i : Int)) (edr_var rfl (SqL.of hr3) (strs_td L)) (ed_var rfl (.int _)) (atI_nat (by rw [List.getElem?_map, hli]; rfl))) fun v H4 e4 tv => w_cons (w_v rfl (w_nil ?_))))))
    cases tv
    refine mkLine_go hz.1 (by rw [hws]; exact hz.2) fun a wl H5 ha e5 L5 => ?_
    rw [hws] at L5
    have e35 := e4.trans e5
    have ha0 : H a = none := fresh_back (e3.trans e4) ha
    have nfa : fl ≠ a := fun e => by rw [← e, e4 _ _ hf3] at ha; cases ha
    have nra : rl ≠ a := fun e => by rw [← e, e4 _ _ hr3] at ha; cases ha
    have exA : ∀ {H' : Hp}, Fr [a] H5 H' → Ex H H' := fun f => ex_fr1 ((e3.trans e35)) ha0 f
    dsimp only
    refine w_seq (w_asg (w_rd rfl L5 (by rfl) rdNum_ne (fun h => hB ha0 (e3.trans e35) (bindR_b h)) fun pp m v H6 hx L6 f6 tv => ?_))
    cases tv
    rw [bindR_of hx] at g1 g3
    have hB2 := fun {a : Addr} {H' : Hp} h1 h2 h3 => @hB a H' h1 h2 (by rw [bindR_of hx]; exact h3)
    dsimp only
    refine w_seq (w_asg (w_rd rfl L6 (by rfl) rdNum_ne (fun h => hB2 ha0 (exA f6) (bindR_b h)) fun oo m2 v H7 hx2 L7 f7 tv => ?_))
    cases tv
    rw [bindR_of hx2] at g1 g3
    have hB3 := fun {a : Addr} {H' : Hp} h1 h2 h3 => @hB2 a H' h1 h2 (by rw [bindR_of hx2]; exact h3)
    have f57 := f6.trans f7
    dsimp only
    refine w_seq (w_asg (w_rd rfl L7 (by rfl) (bindR_ne g1) (fun h => hB3 ha0 (exA f57) (bindR_b h)) fun bb m3 bv H8 hx3 L8 f8 tb => ?_))
    rw [bindR_of hx3] at g1 g3
    have hB4 := fun {a : Addr} {H' : Hp} h1 h2 h3 => @hB3 a H' h1 h2 (by rw [bindR_of hx3]; exact h3)
    have f58 := f57.trans f8
    obtain ⟨dx8, hob8⟩ := L8.ob
    dsimp only
    refine w_seq (w_drop (w_meth rfl hob8 (by rfl) (w_cons (w_d (K := K) (d := .bool (decide (m3 = ws.length))) (ed_is (ed_eqi (ed_fld rfl hob8 T.c_Line T.na_Line_at (by rfl) (.int _)) (ed_is (ed_lenV (ev_fld rfl hob8 T.c_Line T.na_Line_words (by rfl)) (SqL.of L8.wd)) (by rw [List.length_map]))) (by simp; omega)) fun v H9 e9 tv => w_nil ?_))))
    cases tv
    refine ⟨a, wl, ws, m3, i, _, rfl, L8.ex e9, fun hb H10 e10 => ?_, fun hb => ?_⟩
    · have hm : m3 = ws.length := by simpa using hb
      rw [if_pos hm] at g3
      have e810 := e9.trans e10
      have hf10 : H10 fl = some (.lst vs) := e810 _ _ (f58 _ _ (by simpa using nfa) (e35 _ _ hf3))
      have hr10 : H10 rl = some (.lst (L.map V.str)) := e810 _ _ (f58 _ _ (by simpa using nra) (e35 _ _ hr3))
      have tp10 : TdAll K H10 vs (p.map encW) := ((tp3.ex e35).kp (L5.keep f58)).ex e810
      have tb10 := tb.ex e810
      have hvl := tp10.length
      rw [List.length_map] at hvl
      refine w_app rfl hf10 (w_tup (w_cons (w_v rfl (w_cons (w_v rfl (w_cons (w_v rfl (w_nil ⟨by show 3 ≤ sizeLine; decide, fun q hq => ⟨vs, Ex.new hq _ _ hf10, sz_lt (by omega), ?_⟩⟩))))))))
      have tq := td_new hq (tdall3 (.int (pp : Int)) (.int (oo : Int)) tb10)
      have hfq : upd H10 q (.tup [V.int (pp : Int), V.int (oo : Int), bv]) fl = some (.lst vs) := Ex.new hq _ _ hf10
      have tp11 := tp10.ex (Ex.new (o := .tup [V.int (pp : Int), V.int (oo : Int), bv]) hq)
      have hrq : upd H10 q (.tup [V.int (pp : Int), V.int (oo : Int), bv]) rl = some (.lst (L.map V.str)) := Ex.new hq _ _ hr10
      have exq : Ex H (upd H10 q (.tup [V.int (pp : Int), V.int (oo : Int), bv])) := ((exA f58).trans e810).trans (Ex.new hq)
      generalize upd H10 q (.tup [V.int (pp : Int), V.int (oo : Int), bv]) = H11 at *
      have kq : Keep K H11 (upd H11 fl (.lst (vs ++ [.ref q]))) := Keep.upd hfq True.intro
      refine ⟨_, _, _, _, _, vs ++ [.ref q], p ++ [⟨pp, oo, bb⟩], rfl, Ex.mut exq hfl, by rw [upd_ne nrf]; exact hrq, upd_same, ?_, by rw [List.length_append]; simp only [List.length_cons, List.length_nil]; omega, g3 ⟨pp, oo, bb⟩ m3 rfl⟩
      rw [List.map_append]
      exact (tp11.kp kq).snoc (tq.kp kq)
    · have hm : m3 ≠ ws.length := by simpa using hb
      exact hB4 ha0 ((exA f58).trans e9) (by rw [if_neg hm])
  · rintro σ' H3 ⟨u3, u4, u5, u6, u7, vs, p, rfl, e3, hr3, hf3, tp3, hpl, RW⟩
    have hrl0 : rows.length = L.length := by rw [hrows, List.length_map]
    have hp : rdRows dt d 0 rows = some (.inr p) := by
      have := RW.2.2 [] (by rw [List.drop_of_length_le (by omega)]; rfl)
      rw [List.append_nil] at this
      exact this
    obtain ⟨sm, kg, kb⟩ := k p hp
    dsimp only
    refine w_seq (w_drop (w_call (w_cons (w_d (K := K) (d := encP p) (ed_tupL (edr_var rfl (SqL.of hf3) tp3)) fun v H4 e4 tv => w_nil ⟨p, .cons tv .nil, sm, fun ho H5 e5 => ?_, fun ho H5 e5 => kb ho H5 ((e3.trans e4).trans e5)⟩))))
    exact w_ret (w_d (K := K) (d := encP p) (ed_tupL (edr_var rfl (SqL.of ((e4.trans e5) _ _ hf3)) (tp3.ex (e4.trans e5)))) fun u H6 e6 tu => kg ho u H6 (((e3.trans e4).trans e5).trans e6) tu)
end
end Hw

set_option maxRecDepth 100000
set_option maxHeartbeats 4000000
/-! LT: the law's own text of a program -/
namespace Hw
open PySem PySem.Spec PyProof.Rows L2 Evl
local macro_rules | `(tactic| walk_at "dd") => `(tactic| first | rfl | decide | (simp; done) | omega)
local macro_rules | `(tactic| walk_at "td") => `(tactic| first | assumption | exact Td.int _ | exact Td.bl _ | exact Td.str _ | exact Td.non | exact Td.tup (by assumption) (by assumption))
local macro_rules | `(tactic| walk_at "ev") => `(tactic| first
  | exact ed_ci | exact ed_cs | exact ed_cb | exact ed_cn
  | (apply ed_cg; assumption)
  | (apply ed_var; (rfl); (walk_at "td"))
  | (apply ed_ixT; (walk_at "ev"); (walk_at "ev"); (first | rfl | assumption))
  | (apply ed_rowI; (rfl); (assumption); (walk_at "ev"); (rfl))
  | (apply ed_ixL; (apply EvDL.rd; walk_at "edl"); (walk_at "ev"); (rfl))
  | (apply ed_intb; (walk_at "ev"))
  | (apply ed_len; walk_at "ev")
  | (apply ed_lenV; (apply ev_rowR; (rfl); (assumption); (walk_at "ev"); (rfl)); (assumption))
  | (apply ed_Ii; (walk_at "ev"); (walk_at "ev"); (walk_at "cc"))
  | (apply ed_isi; (walk_at "ev"); (rfl))
  | (apply ed_I0i; (walk_at "ev"); (walk_at "ev"))
  | (apply ed_I0b; (walk_at "ev"); (walk_at "ev"))
  | (apply ed_eqi; (walk_at "ev"); (walk_at "ev"))
  | (apply ed_nei; (walk_at "ev"); (walk_at "ev"))
  | (apply ed_andF; walk_at "ev")
  | (apply ed_andV; (walk_at "ev"); (intro _; walk_at "ev"))
  | (apply ed_orT; walk_at "ev")
  | (apply ed_orV; (walk_at "ev"); (intro _; walk_at "ev"))
  | (apply ed_notT; walk_at "ev")
  | (apply ed_notF; walk_at "ev")
  | (apply ed_notV; walk_at "ev")
  | (apply ed_chain; (walk_at "ev"); (walk_at "ev"); (intro _; walk_at "ev"))
  | (apply ed_eqS; (walk_at "ev"); (walk_at "ev"); (walk_at "bb"); (walk_at "bb"))
  | (apply ed_neS; (walk_at "ev"); (walk_at "ev"); (walk_at "bb"); (walk_at "bb"))
  | (apply ed_inT; (walk_at "ev"); (walk_at "ev"); (rfl); (rfl))
  | (apply ed_niT; (walk_at "ev"); (walk_at "ev"); (rfl); (rfl))
  | (apply ed_tup; (walk_at "eva"); (walk_at "bb"))
  | (apply ed_sl; (walk_at "ev"); (walk_at "evo"); (walk_at "evo"))
  | (apply ed_eqN; (apply EvDL.rd; walk_at "edl"); (walk_at "edl"); (walk_at "bb"))
  | (apply ed_neN; (apply EvDL.rd; walk_at "edl"); (walk_at "edl"); (walk_at "bb"))
  | (apply ed_ixL; (apply edr_var; (rfl); (assumption); (assumption)); (walk_at "ev"); (first | rfl | assumption))
  | (apply ed_lenL; (apply edr_var; (rfl); (assumption); (assumption)))
  | (apply ed_call; (walk_at "eva"); (walk_at "post")))
local macro_rules | `(tactic| walk_at "edl") => `(tactic| first
  | assumption
  | (apply edl_lst; (walk_at "eva"); (walk_at "bb")))
local macro_rules | `(tactic| walk_at "eva") => `(tactic| first
  | exact eda_nil
  | (apply eda_cons; (walk_at "ev"); (walk_at "eva")))
local macro_rules | `(tactic| walk_at "evo") => `(tactic| first
  | exact eok_none
  | (apply eok_some; walk_at "ev"))
local macro_rules | `(tactic| walk_at "bb") => `(tactic| first | rfl | assumption | (simp; done) | (simp; omega) | decide +kernel)
local macro_rules | `(tactic| walk_at "et") => `(tactic| first
  | exact tk_yes
  | (apply tk_andF; walk_at "et")
  | (apply tk_and; (walk_at "et"); (intro _; walk_at "et"))
  | (apply tk_orT; walk_at "et")
  | (apply tk_or; (walk_at "et"); (intro _; walk_at "et"))
  | (apply tk_notT; walk_at "et")
  | (apply tk_notF; walk_at "et")
  | (apply tk_not; walk_at "et")
  | (apply tk_v; walk_at "ev")
  | (apply tk_vB; walk_at "ev"))
local macro_rules | `(tactic| walk_at "if") => `(tactic| first
  | (apply pst_whenF; (walk_at "et"); (walk_at "bb"))
  | (apply pst_whenT; (walk_at "et"); (walk_at "bb")))
local macro_rules | `(tactic| walk_at "post") => `(tactic| first | assumption | exact ⟨_, _, rfl, rfl⟩ | exact ⟨_, _, _, _, rfl, by omega, by omega, rfl⟩ | exact ⟨_, _, _, 0, rfl, by omega, by omega, rfl⟩)
local macro_rules | `(tactic| walk_at "cc") => `(tactic| first | assumption | decide | omega | (refine ⟨?_, ?_⟩ <;> first | decide | omega) | (exact Or.inl (by constructor <;> omega)))

/-- what the law tells the words of -/
inductive Pt where
  | th (t : Th) | tl (ts : List Th) | st (x : Stm) | bd (b : List Stm)
def encPt : Pt → PyData
  | .th t => encT t
  | .tl ts => .tuple (ts.map encT)
  | .st x => encS x
  | .bd b => .tuple (encB b)
def wPt : Pt → List Str
  | .th t => wT t
  | .tl ts => ts.flatMap wT
  | .st x => wS x
  | .bd b => wB b
def rkPt : Pt → Nat
  | .th t => dpT t
  | .tl _ => 5
  | .st x => 6 + 2 * dpS x
  | .bd b => 7 + 2 * dpB b
def okPt (sh : List (Nat × Nat)) (i : Nat) : Pt → Prop
  | .th t => wfT (shP sh i) (shO sh i) t = true ∧ dpT t ≤ 4
  | .tl ts => ts.length ≤ 3 ∧ ∀ t ∈ ts, wfT (shP sh i) (shO sh i) t = true ∧ dpT t ≤ 4
  | .st x => (∃ w, okS sh i x w = true) ∧ cntS x ≤ 100
  | .bd b => (∃ w, okB sh i b w = true) ∧ cntB b ≤ 100
theorem wPt_len {sh : List (Nat × Nat)} {i : Nat} (hs : ShOk sh) {x : Pt} (h : okPt sh i x) : (wPt x).length ≤ 15000 := by
  cases x with
  | th t => have := wT_le h.2; simp only [wPt]; omega
  | tl ts => have := flatT_len ts fun t ht => (h.2 t ht).2; have := h.1; simp only [wPt]; omega
  | st x => obtain ⟨⟨w, hw⟩, hc⟩ := h; have := wS_len hs x w hw; simp only [wPt]; omega
  | bd b => obtain ⟨⟨w, hw⟩, hc⟩ := h; have := wB_len hs b w hw; simp only [wPt]; omega
def pLW (n : Nat) (ds : List PyData) (es : List Str) : Prop := ∃ (x : Pt) (sh : List (Nat × Nat)) (i : Nat), ds = [encPt x] ∧ ShOk sh ∧ okPt sh i x ∧ rkPt x ≤ n ∧ es = wPt x
/-- a list of parts, if it is one -/
def itPt : Pt → Option (List Pt)
  | .tl ts => some (ts.map .th)
  | .bd b => some (b.map .st)
  | _ => none
theorem itPt_some {x : Pt} {ys : List Pt} (h : itPt x = some ys) : encPt x = .tuple (ys.map encPt) ∧ wPt x = ys.flatMap wPt := by
  cases x with
  | tl ts =>
    cases h
    constructor <;> simp [encPt, wPt, List.flatMap_map, Function.comp_def]
  | bd b =>
    cases h
    constructor <;> simp [encPt, wPt, encB_map, wB_flat, List.flatMap_map, Function.comp_def]
  | th t => cases h
  | st x => cases h
theorem itPt_mem {sh : List (Nat × Nat)} {i : Nat} {x y : Pt} {ys : List Pt} (h : itPt x = some ys) (ho : okPt sh i x) (hy : y ∈ ys) : okPt sh i y ∧ rkPt y < rkPt x := by
  cases x with
  | tl ts =>
    cases h
    obtain ⟨t, ht, rfl⟩ := List.mem_map.mp hy
    have := ho.2 t ht
    exact ⟨this, by simp only [rkPt]; omega⟩
  | bd b =>
    cases h
    obtain ⟨s, hs, rfl⟩ := List.mem_map.mp hy
    obtain ⟨⟨w, hw⟩, hc⟩ := ho
    have h1 := dpB_mem hs
    have h2 := cntB_in hs
    exact ⟨⟨⟨w, okB_in hw hs⟩, by omega⟩, by simp only [rkPt]; omega⟩
  | th t => cases h
  | st x => cases h
def isTupD : PyData → Bool
  | .tuple _ => true
  | _ => false
theorem encS_tup (x : Stm) : ∃ s ds, encS x = .tuple (.str s :: ds) := by cases x <;> exact ⟨_, _, by simp only [encS]; rfl⟩
section
variable {K : PySem.W.Frag} {σ : L2.St} {H H' : Hp} {D : Ends} {te tl : TE} {α : Type}
/-- for x in a tuple: found = found + words of x -/
theorem w_forCat {a0 u0 : Option V} {fl : Addr} {ws : List Str} (xs : List α) (f : α → PyData) (g : α → List Str) (h : EvD K tl [a0, some (.ref fl), u0] H (.tuple (xs.map f))) (hfl : H fl = some (.lst (ws.map V.str)))
    (hsz : ws.length + (xs.flatMap g).length ≤ 50000) (he : ∀ x v fl' H', x ∈ xs → Ex H H' → Td K H' v (f x) → EvW K te [a0, some (.ref fl'), some v] H' (g x))
    (k : ∀ fl' u H', Ex H H' → (fl' = fl ∨ H fl' = none) → H' fl' = some (.lst ((ws ++ xs.flatMap g).map V.str)) → D.nx [a0, some (.ref fl'), u] H') : tFor (iTup K tl) (gName 2) (tAsg (tOp rCat (tVar 1) te) (gName 1)) D [a0, some (.ref fl), u0] H := by
  refine h H (Ex.refl H) _ fun v H1 e1 tv => ?_
  obtain ⟨a, ys, rfl, hx, hall⟩ := tv.tup_inv
  have hlen := hall.length
  rw [List.length_map] at hlen
  refine ⟨a, rfl, ⟨ys, hx⟩, for_tup (xs := ys) (fun i σ' H' => ∃ (fl' : Addr) (u : Option V), σ' = [a0, some (.ref fl'), u] ∧ Ex H1 H' ∧ (fl' = fl ∨ H fl' = none) ∧ H' fl' = some (.lst ((ws ++ (xs.take i).flatMap g).map V.str))) ⟨fl, u0, rfl, Ex.refl _, .inl rfl, by simpa using e1 _ _ hfl⟩ (fun i σ' H' _ p => ?_) (fun i x σ' H' hi p => ?_) (fun σ' H' p => ?_)⟩
  · obtain ⟨_, _, _, e, _⟩ := p
    exact ex_t e hx
  · obtain ⟨fl', u, rfl, e2, hor, hl⟩ := p
    obtain ⟨d, hdd, td⟩ := hall.getV hi
    rw [List.getElem?_map] at hdd
    obtain ⟨z, hz, rfl⟩ := Option.map_eq_some_iff.mp hdd
    have hle : ((xs.take i).flatMap g).length + (g z).length ≤ (xs.flatMap g).length := by
      have e : xs = xs.take i ++ z :: xs.drop (i + 1) := by
        obtain ⟨hi, e⟩ := List.getElem?_eq_some_iff.mp hz
        rw [← e, List.getElem_cons_drop, List.take_append_drop]
      conv => rhs; rw [e]
      simp only [List.flatMap_append, List.flatMap_cons, List.length_append]
      omega
    refine w_asg (w_wd (K := K) (ew_catV (n := 1) (u := ws ++ (xs.take i).flatMap g) rfl hl (he z x fl' H' (List.mem_of_getElem? hz) (e1.trans e2) (td.ex e2)) (by rw [List.length_append]; omega)) fun p H3 hp e3 h3 => ?_)
    refine ⟨p, _, rfl, e2.trans e3, .inr (fresh_back (e1.trans e2) hp), ?_⟩
    rw [h3, take_snoc hz]
    simp
  · obtain ⟨fl', u, rfl, e2, hor, hl⟩ := p
    rw [hlen, List.take_length] at hl
    exact k fl' u H' (e1.trans e2) hor hl
end
section
variable {P : Program} {w : World} {K : PySem.W.Frag} {mg : Str → Option Value} {base : Heap} (T : Tx K mg)
include T
theorem lw_step {n : Nat} (spI : Sp) (hI : 0 < n → spI = spWd K (pLW (n - 1))) (GI : Fn__law_words T P w base CX0 n spI) : Fn__law_words T P w base CX0 (n + 1) (spWd K (pLW n)) := by
  have G__law_words := GI
  refine T.F__law_words.ok sc__law_words (spWd_len fun ds d h => by obtain ⟨_, _, _, rfl, _⟩ := h; rfl) fun cdv A outer s0 H vs Q E hr h => ?_
  obtain ⟨ds, es, ht, ⟨x, sh, i0, rfl, hsh, hok, hrk, rfl⟩, k⟩ := h
  obtain _ | ⟨t1, _ | _⟩ := ht
  refine ⟨_, (pss_cons (ps_if (PW.pt (pw_or (pt_cmpR (kop_eq K hr.units) (pv 0) (pe_tup pa_nil) (nomark _)) (pw_or1 (pt_val (pe_callB (kc_isi K) rfl T.b_isinstance (by decide +kernel) (pa_cons (pe_ix (kix_tup K) (pv 0) pe_int (fun _ _ => rfl)) (pa_cons (pe_bltn (v := .ty "tuple") rfl T.b_tuple (by decide +kernel) rfl) pa_nil)))))))
    (pss_cons (ps_set (i := 1) sc__law_words.nd rfl (Or.inl rfl) (pe_lst pa_nil))
    (pss_cons (ps_for (passes_of rfl) rfl (kpi_tup K (pv 0)) (pg_name (i := 2) sc__law_words.nd rfl (Or.inl rfl))
      (pss_one (ps_set (i := 1) sc__law_words.nd rfl (Or.inl rfl) (pe_op op_cat (pv 1) (pe_call G__law_words (hr.mono (by omega)) (by rfl) T.g__law_words T.k__law_words T.bd__law_words .nil pass0 (pa_cons (pv 2) pa_nil))))))
    (pss_one (ps_ret (pv 1)))))
    pss_nil)
  (pss_cons (ps_if (pt_cmpR (kop_eq K hr.units) (pe_ix (kix_tup K) (pv 0) pe_int (fun _ _ => rfl)) pe_str (nomark _))
    (pss_one (ps_ret (pe_lst (pa_cons (pe_callTy call_str_int rfl T.b_str (by decide +kernel) (pa_cons (pe_ix (kix_tup K) (pv 0) pe_int (fun _ _ => rfl)) pa_nil)) pa_nil))))
    pss_nil)
  (pss_cons (ps_if (pt_cmpR (kop_in K) (pe_ix (kix_tup K) (pv 0) pe_int (fun _ _ => rfl)) (pe_tup (pa_cons pe_str (pa_cons pe_str pa_nil))) rfl)
    (pss_one (ps_ret (pe_lst (pa_cons (pe_ix (kix_tup K) (pv 0) pe_int (fun _ _ => rfl)) (pa_cons (pe_callTy call_str_int rfl T.b_str (by decide +kernel) (pa_cons (pe_ix (kix_tup K) (pv 0) pe_int (fun _ _ => rfl)) pa_nil)) pa_nil)))))
    pss_nil)
  (pss_cons (ps_if (pt_cmpR (kop_eq K hr.units) (pe_ix (kix_tup K) (pv 0) pe_int (fun _ _ => rfl)) pe_str (nomark _))
    (pss_one (ps_ret (pe_op op_cat (pe_op op_cat (pe_lst (pa_cons pe_str (pa_cons (pe_callTy call_str_int rfl T.b_str (by decide +kernel) (pa_cons (pe_ix (kix_tup K) (pv 0) pe_int (fun _ _ => rfl)) pa_nil)) pa_nil))) (pe_call G__law_words (hr.mono (by omega)) (by rfl) T.g__law_words T.k__law_words T.bd__law_words .nil pass0 (pa_cons (pe_ix (kix_tup K) (pv 0) pe_int (fun _ _ => rfl)) pa_nil))) (pe_lst (pa_cons pe_str pa_nil)))))
    pss_nil)
  (pss_cons (ps_if (pt_cmpR (kop_eq K hr.units) (pe_ix (kix_tup K) (pv 0) pe_int (fun _ _ => rfl)) pe_str (nomark _))
    (pss_cons (ps_set (i := 1) sc__law_words.nd rfl (Or.inl rfl) (pe_op op_cat (pe_lst (pa_cons pe_str pa_nil)) (pe_call G__law_words (hr.mono (by omega)) (by rfl) T.g__law_words T.k__law_words T.bd__law_words .nil pass0 (pa_cons (pe_ix (kix_tup K) (pv 0) pe_int (fun _ _ => rfl)) pa_nil))))
    (pss_one (ps_ret (pe_op op_cat (pe_op op_cat (pe_op op_cat (pe_op op_cat (pe_op op_cat (pv 1) (pe_lst (pa_cons pe_str pa_nil))) (pe_call G__law_words (hr.mono (by omega)) (by rfl) T.g__law_words T.k__law_words T.bd__law_words .nil pass0 (pa_cons (pe_ix (kix_tup K) (pv 0) pe_int (fun _ _ => rfl)) pa_nil))) (pe_lst (pa_cons pe_str (pa_cons pe_str pa_nil)))) (pe_call G__law_words (hr.mono (by omega)) (by rfl) T.g__law_words T.k__law_words T.bd__law_words .nil pass0 (pa_cons (pe_ix (kix_tup K) (pv 0) pe_int (fun _ _ => rfl)) pa_nil))) (pe_lst (pa_cons pe_str pa_nil))))))
    pss_nil)
  (pss_cons (ps_set (i := 1) sc__law_words.nd rfl (Or.inl rfl) (pe_lst (pa_cons (pe_ifExp (pt_cmpR (kop_eq K hr.units) (pe_ix (kix_tup K) (pv 0) pe_int (fun _ _ => rfl)) pe_str (nomark _)) pe_str (pe_ix (kix_tup K) (pv 0) pe_int (fun _ _ => rfl))) pa_nil)))
  (pss_cons (ps_for (passes_of rfl) rfl (kpi_tup K (pe_slice (ksl_tup K) (pv 0) (po_some pe_int) po_none)) (pg_name (i := 2) sc__law_words.nd rfl (Or.inl rfl))
    (pss_one (ps_set (i := 1) sc__law_words.nd rfl (Or.inl rfl) (pe_op op_cat (pv 1) (pe_call G__law_words (hr.mono (by omega)) (by rfl) T.g__law_words T.k__law_words T.bd__law_words .nil pass0 (pa_cons (pv 2) pa_nil))))))
  (pss_one (ps_ret (pv 1)))))))))), ?_⟩
  rename_i v
  have hlen := wPt_len hsh hok
  have hlay : (encPt x).canLay0 = true := by
    cases x with
    | th t => exact encT_lay t
    | tl ts => simpa [encPt, PyData.canLay0] using encTs_lay ts
    | st x => exact encS_lay x
    | bd b => simpa [encPt, PyData.canLay0] using encB_lay b
  have sub : ∀ (y : Pt) (u : V) (σ : L2.St) (H' : Hp) (i : Nat), okPt sh i0 y → rkPt y < rkPt x → EvD K (tVar i) σ H' (encPt y) → EvW K (tCall spI [] (fun _ _ _ => False) (tCons (tVar i) tNil)) σ H' (wPt y) := fun y u σ H' i h1 h2 h3 => by
    have hsp := hI (by omega)
    subst hsp
    exact ew_call (eda_cons h3 eda_nil) ⟨y, sh, i0, rfl, hsh, h1, by omega, rfl⟩
  cases hit : itPt x with
  | some ys =>
    obtain ⟨e1, e2⟩ := itPt_some hit
    have hlen2 := hlen
    rw [e1] at t1 hlay
    rw [e2] at k hlen2
    have hsub := fun y hy => itPt_mem (y := y) hit hok hy
    refine w_seq (w_ifs (w_t (K := K) (b := true) ?_ fun H1 ex1 => ifT rfl ?_))
    · cases ys with
      | nil => exact tk_is (tk_orT (tk_is (tk_v (ed_eqM (ed_var rfl t1) (ed_tup eda_nil (by decide)) hlay (by decide +kernel) (by simp [PyData.depth, PyData.depthAll]))) (by simp [PyData.eqv, PyData.eqvAll]))) rfl
      | cons y r =>
        have hy : tyD (encPt y) = "tuple" := by
          cases y with
          | th t => cases t <;> rfl
          | st x => obtain ⟨s, ds, e⟩ := encS_tup x; simp only [encPt, e]; rfl
          | tl ts => rfl
          | bd b => rfl
        exact tk_is (tk_or (tk_v (ed_eqM (ed_var rfl t1) (ed_tup eda_nil (by decide)) hlay (by decide +kernel) (by simp [PyData.depth, PyData.depthAll]))) fun _ => tk_vB (ed_isi (b := true) (ed_ixT (i := 0) (ed_var rfl t1) ed_ci atI_zero) (by rw [hy]; decide +kernel))) (by simp)
    · refine w_seq (w_asg (w_lst (w_nil ⟨Nat.zero_le _, fun fl hfl => ?_⟩)))
      have e3 : Ex H1 (upd H1 fl (.lst [])) := Ex.new hfl
      have hf3 : upd H1 fl (.lst []) fl = some (.lst (([] : List Str).map V.str)) := upd_same
      have hfl0 : H fl = none := fresh_back ex1 hfl
      generalize upd H1 fl (.lst []) = H3 at *
      have t3 := (t1.ex ex1).ex e3
      dsimp only
      refine w_seq (w_forCat (K := K) (ws := []) ys encPt wPt (ed_var rfl t3) hf3 (by simp only [List.length_nil]; omega) (fun y u fl' H' hy e4 tu => sub y u _ H' 2 (hsub y hy).1 (hsub y hy).2 (ed_var rfl tu)) fun fl' u H' e4 hor hl => ?_)
      refine w_ret (w_v rfl (k fl' H' ?_ ((ex1.trans e3).trans e4) (by simpa using hl)))
      rcases hor with e | e
      · rw [e]; exact hfl0
      · exact fresh_back (ex1.trans e3) e
  | none =>
    cases x with
    | tl ts => cases hit
    | bd b => cases hit
    | th t =>
      cases t with
      | num m =>
        have hm := hok.1
        simp only [wfT, decide_eq_true_eq] at hm
        simp only [encPt, encT] at t1 hlay
        refine w_seq (w_ifs (w_t (K := K) (b := false) (tk_is (tk_or (tk_v (ed_eqM (ed_var rfl t1) (ed_tup eda_nil (by decide)) (by assumption) (by decide +kernel) (by simp [PyData.depth, PyData.depthAll]))) fun _ => tk_vB (ed_isi (b := false) (ed_ixT (i := 0) (ed_var rfl t1) ed_ci atI_zero) (by decide +kernel))) (by simp [PyData.eqv, PyData.eqvAll])) fun H1 e1 => ifF rfl (w_next ?_)))
        have t1 := Td.ex t1 e1
        dsimp only
        refine w_seq (w_ifs (w_t (K := K) (b := true) (tk_is (tk_v (ed_eqS (ed_ixT (i := 0) (ed_var rfl t1) ed_ci atI_zero) ed_cs (by simp) (by simp))) (by simp)) fun H2 e2 => ifT rfl ?_))
        have t1 := Td.ex t1 e2
        dsimp only
        exact w_ret (w_wd (K := K) (ew_lst (ws := [strN m]) (eda_cons (ed_strN (ed_ixT (i := 1) (ed_var rfl t1) ed_ci rfl) (by omega)) eda_nil) (by simp)) fun p H3 hp e3 h3 => k p H3 (fresh_back (e1.trans e2) hp) ((e1.trans e2).trans e3) h3)
      | own m =>
        have hm := hok.1
        simp only [wfT, decide_eq_true_eq] at hm
        have hso := (hsh.2 i0).2
        simp only [encPt, encT] at t1 hlay
        refine w_seq (w_ifs (w_t (K := K) (b := false) (tk_is (tk_or (tk_v (ed_eqM (ed_var rfl t1) (ed_tup eda_nil (by decide)) (by assumption) (by decide +kernel) (by simp [PyData.depth, PyData.depthAll]))) fun _ => tk_vB (ed_isi (b := false) (ed_ixT (i := 0) (ed_var rfl t1) ed_ci atI_zero) (by decide +kernel))) (by simp [PyData.eqv, PyData.eqvAll])) fun H1 e1 => ifF rfl (w_next ?_)))
        have t1 := Td.ex t1 e1
        dsimp only
        refine w_seq (w_ifs (w_t (K := K) (b := false) (tk_is (tk_v (ed_eqS (ed_ixT (i := 0) (ed_var rfl t1) ed_ci atI_zero) ed_cs (by simp) (by simp))) (by simp)) fun H2 e2 => ifF rfl (w_next ?_)))
        have t1 := Td.ex t1 e2
        dsimp only
        refine w_seq (w_ifs (w_t (K := K) (b := true) (tk_is (tk_v (ed_inT (ed_ixT (i := 0) (ed_var rfl t1) ed_ci atI_zero) (ed_tup (eda_cons ed_cs (eda_cons ed_cs eda_nil)) (by decide)) rfl rfl)) (by simp)) fun H3 e3 => ifT rfl ?_))
        have t3 := t1.ex e3
        have e13 := (e1.trans e2).trans e3
        exact w_ret (w_wd (K := K) (ew_lst (ws := ["own", strN m]) (eda_cons (ed_ixT (i := 0) (ed_var rfl t3) ed_ci atI_zero) (eda_cons (ed_strN (ed_ixT (i := 1) (ed_var rfl t3) ed_ci rfl) (by omega)) eda_nil)) (by simp)) fun p H4 hp e4 h4 => k p H4 (fresh_back e13 hp) (e13.trans e4) h4)
      | par m =>
        have hm := hok.1
        simp only [wfT, decide_eq_true_eq] at hm
        have hso := (hsh.2 i0).1
        simp only [encPt, encT] at t1 hlay
        refine w_seq (w_ifs (w_t (K := K) (b := false) (tk_is (tk_or (tk_v (ed_eqM (ed_var rfl t1) (ed_tup eda_nil (by decide)) (by assumption) (by decide +kernel) (by simp [PyData.depth, PyData.depthAll]))) fun _ => tk_vB (ed_isi (b := false) (ed_ixT (i := 0) (ed_var rfl t1) ed_ci atI_zero) (by decide +kernel))) (by simp [PyData.eqv, PyData.eqvAll])) fun H1 e1 => ifF rfl (w_next ?_)))
        have t1 := Td.ex t1 e1
        dsimp only
        refine w_seq (w_ifs (w_t (K := K) (b := false) (tk_is (tk_v (ed_eqS (ed_ixT (i := 0) (ed_var rfl t1) ed_ci atI_zero) ed_cs (by simp) (by simp))) (by simp)) fun H2 e2 => ifF rfl (w_next ?_)))
        have t1 := Td.ex t1 e2
        dsimp only
        refine w_seq (w_ifs (w_t (K := K) (b := true) (tk_is (tk_v (ed_inT (ed_ixT (i := 0) (ed_var rfl t1) ed_ci atI_zero) (ed_tup (eda_cons ed_cs (eda_cons ed_cs eda_nil)) (by decide)) rfl rfl)) (by simp)) fun H3 e3 => ifT rfl ?_))
        have t3 := t1.ex e3
        have e13 := (e1.trans e2).trans e3
        exact w_ret (w_wd (K := K) (ew_lst (ws := ["par", strN m]) (eda_cons (ed_ixT (i := 0) (ed_var rfl t3) ed_ci atI_zero) (eda_cons (ed_strN (ed_ixT (i := 1) (ed_var rfl t3) ed_ci rfl) (by omega)) eda_nil)) (by simp)) fun p H4 hp e4 h4 => k p H4 (fresh_back e13 hp) (e13.trans e4) h4)
      | cell a =>
        have hm := hok.1
        simp only [wfT] at hm
        have hd := hok.2
        simp only [dpT] at hd
        simp only [encPt, encT] at t1 hlay
        refine w_seq (w_ifs (w_t (K := K) (b := false) (tk_is (tk_or (tk_v (ed_eqM (ed_var rfl t1) (ed_tup eda_nil (by decide)) (by assumption) (by decide +kernel) (by simp [PyData.depth, PyData.depthAll]))) fun _ => tk_vB (ed_isi (b := false) (ed_ixT (i := 0) (ed_var rfl t1) ed_ci atI_zero) (by decide +kernel))) (by simp [PyData.eqv, PyData.eqvAll])) fun H1 e1 => ifF rfl (w_next ?_)))
        have t1 := Td.ex t1 e1
        dsimp only
        refine w_seq (w_ifs (w_t (K := K) (b := false) (tk_is (tk_v (ed_eqS (ed_ixT (i := 0) (ed_var rfl t1) ed_ci atI_zero) ed_cs (by simp) (by simp))) (by simp)) fun H2 e2 => ifF rfl (w_next ?_)))
        have t1 := Td.ex t1 e2
        dsimp only
        refine w_seq (w_ifs (w_t (K := K) (b := false) (tk_is (tk_v (ed_inT (ed_ixT (i := 0) (ed_var rfl t1) ed_ci atI_zero) (ed_tup (eda_cons ed_cs (eda_cons ed_cs eda_nil)) (by decide)) rfl rfl)) (by simp)) fun H3 e3 => ifF rfl (w_next ?_)))
        have t1 := Td.ex t1 e3
        have e12 := Ex.trans e1 e2
        have e2a := e2
        dsimp only
        refine w_seq (w_ifs (w_t (K := K) (b := false) (tk_is (tk_v (ed_eqS (ed_ixT (i := 0) (ed_var rfl t1) ed_ci atI_zero) ed_cs (by simp) (by simp))) (by simp)) fun H4 e2b => ifF rfl (w_next ?_)))
        have t1 := Td.ex t1 e2b
        dsimp only
        refine w_seq (w_ifs (w_t (K := K) (b := false) (tk_is (tk_v (ed_eqS (ed_ixT (i := 0) (ed_var rfl t1) ed_ci atI_zero) ed_cs (by simp) (by simp))) (by simp)) fun H5 e5 => ifF rfl (w_next ?_)))
        have t5 := t1.ex e5
        have e15 := (((e1.trans e2a).trans e3).trans e2b).trans e5
        dsimp only
        refine w_seq (w_asg (w_wd (K := K) (ws := ["cell"]) (ew_lst (ws := ["cell"]) (eda_cons (ed_is (ed_if (b := false) (tk_is (tk_v (ed_eqS (ed_ixT (i := 0) (ed_var rfl t5) ed_ci atI_zero) ed_cs (by simp) (by simp))) (by simp)) (d := .str "cell") (fun h => by first | exact ed_cs | cases h) (fun h => by first | exact ed_ixT (i := 0) (ed_var rfl t5) ed_ci atI_zero | cases h)) rfl) eda_nil) (by simp)) fun fl H6 hfl e6 h6 => ?_))
        have t6 := t5.ex e6
        have e16 := e15.trans e6
        dsimp only
        refine w_seq (w_forCat (K := K) (ws := ["cell"]) [Pt.th a] encPt wPt (ed_is (ed_sl (lo := some ((1 : Nat) : Int)) (hi := none) (ed_var rfl t6) (eok_some ed_ci) eok_none) (by rw [cutD_suf]; rfl)) h6 (by simp [wPt, wT, wS] at hlen ⊢; omega) (fun y u fl' H' hy e4 tu => ?_) fun fl' u H' e4 hor hl => w_ret (w_v rfl (k fl' H' ?_ (e16.trans e4) (by rw [hl]; simp [wPt, wT, wS]))))
        rotate_left
        · rcases hor with e | e
          · rw [e]; exact fresh_back e15 hfl
          · exact fresh_back e16 e
        refine (fun hh => sub y u _ H' 2 hh.1 hh.2 (ed_var rfl tu)) (?_ : okPt sh i0 y ∧ rkPt y < _)
        · rw [(by simpa using hy : y = .th a)]; exact ⟨⟨hm, by omega⟩, by simp only [rkPt, dpT]; omega⟩
      | sum a b =>
        have hm := hok.1
        simp only [wfT, Bool.and_eq_true] at hm
        have hd := hok.2
        simp only [dpT] at hd
        simp only [encPt, encT] at t1 hlay
        refine w_seq (w_ifs (w_t (K := K) (b := false) (tk_is (tk_or (tk_v (ed_eqM (ed_var rfl t1) (ed_tup eda_nil (by decide)) (by assumption) (by decide +kernel) (by simp [PyData.depth, PyData.depthAll]))) fun _ => tk_vB (ed_isi (b := false) (ed_ixT (i := 0) (ed_var rfl t1) ed_ci atI_zero) (by decide +kernel))) (by simp [PyData.eqv, PyData.eqvAll])) fun H1 e1 => ifF rfl (w_next ?_)))
        have t1 := Td.ex t1 e1
        dsimp only
        refine w_seq (w_ifs (w_t (K := K) (b := false) (tk_is (tk_v (ed_eqS (ed_ixT (i := 0) (ed_var rfl t1) ed_ci atI_zero) ed_cs (by simp) (by simp))) (by simp)) fun H2 e2 => ifF rfl (w_next ?_)))
        have t1 := Td.ex t1 e2
        dsimp only
        refine w_seq (w_ifs (w_t (K := K) (b := false) (tk_is (tk_v (ed_inT (ed_ixT (i := 0) (ed_var rfl t1) ed_ci atI_zero) (ed_tup (eda_cons ed_cs (eda_cons ed_cs eda_nil)) (by decide)) rfl rfl)) (by simp)) fun H3 e3 => ifF rfl (w_next ?_)))
        have t1 := Td.ex t1 e3
        have e12 := Ex.trans e1 e2
        have e2a := e2
        dsimp only
        refine w_seq (w_ifs (w_t (K := K) (b := false) (tk_is (tk_v (ed_eqS (ed_ixT (i := 0) (ed_var rfl t1) ed_ci atI_zero) ed_cs (by simp) (by simp))) (by simp)) fun H4 e2b => ifF rfl (w_next ?_)))
        have t1 := Td.ex t1 e2b
        dsimp only
        refine w_seq (w_ifs (w_t (K := K) (b := false) (tk_is (tk_v (ed_eqS (ed_ixT (i := 0) (ed_var rfl t1) ed_ci atI_zero) ed_cs (by simp) (by simp))) (by simp)) fun H5 e5 => ifF rfl (w_next ?_)))
        have t5 := t1.ex e5
        have e15 := (((e1.trans e2a).trans e3).trans e2b).trans e5
        dsimp only
        refine w_seq (w_asg (w_wd (K := K) (ws := ["+"]) (ew_lst (ws := ["+"]) (eda_cons (ed_is (ed_if (b := true) (tk_is (tk_v (ed_eqS (ed_ixT (i := 0) (ed_var rfl t5) ed_ci atI_zero) ed_cs (by simp) (by simp))) (by simp)) (d := .str "+") (fun h => by first | exact ed_cs | cases h) (fun h => by first | exact ed_ixT (i := 0) (ed_var rfl t5) ed_ci atI_zero | cases h)) rfl) eda_nil) (by simp)) fun fl H6 hfl e6 h6 => ?_))
        have t6 := t5.ex e6
        have e16 := e15.trans e6
        dsimp only
        refine w_seq (w_forCat (K := K) (ws := ["+"]) [Pt.th a, .th b] encPt wPt (ed_is (ed_sl (lo := some ((1 : Nat) : Int)) (hi := none) (ed_var rfl t6) (eok_some ed_ci) eok_none) (by rw [cutD_suf]; rfl)) h6 (by simp [wPt, wT, wS] at hlen ⊢; omega) (fun y u fl' H' hy e4 tu => ?_) fun fl' u H' e4 hor hl => w_ret (w_v rfl (k fl' H' ?_ (e16.trans e4) (by rw [hl]; simp [wPt, wT, wS]))))
        rotate_left
        · rcases hor with e | e
          · rw [e]; exact fresh_back e15 hfl
          · exact fresh_back e16 e
        refine (fun hh => sub y u _ H' 2 hh.1 hh.2 (ed_var rfl tu)) (?_ : okPt sh i0 y ∧ rkPt y < _)
        · rcases (by simpa using hy : y = .th a ∨ y = .th b) with e | e <;> rw [e]
          · exact ⟨⟨hm.1, by omega⟩, by simp only [rkPt, dpT]; omega⟩
          · exact ⟨⟨hm.2, by omega⟩, by simp only [rkPt, dpT]; omega⟩
    | st x =>
      obtain ⟨⟨w0, hw⟩, hcnt⟩ := hok
      cases x with
      | say a =>
        simp only [okS, Bool.and_eq_true, decide_eq_true_eq] at hw
        have g1 := okT_wf _ _ hw.2
        simp only [encPt, encS] at t1 hlay
        refine w_seq (w_ifs (w_t (K := K) (b := false) (tk_is (tk_or (tk_v (ed_eqM (ed_var rfl t1) (ed_tup eda_nil (by decide)) (by assumption) (by decide +kernel) (by simp [PyData.depth, PyData.depthAll]))) fun _ => tk_vB (ed_isi (b := false) (ed_ixT (i := 0) (ed_var rfl t1) ed_ci atI_zero) (by decide +kernel))) (by simp [PyData.eqv, PyData.eqvAll])) fun H1 e1 => ifF rfl (w_next ?_)))
        have t1 := Td.ex t1 e1
        dsimp only
        refine w_seq (w_ifs (w_t (K := K) (b := false) (tk_is (tk_v (ed_eqS (ed_ixT (i := 0) (ed_var rfl t1) ed_ci atI_zero) ed_cs (by simp) (by simp))) (by simp)) fun H2 e2 => ifF rfl (w_next ?_)))
        have t1 := Td.ex t1 e2
        dsimp only
        refine w_seq (w_ifs (w_t (K := K) (b := false) (tk_is (tk_v (ed_inT (ed_ixT (i := 0) (ed_var rfl t1) ed_ci atI_zero) (ed_tup (eda_cons ed_cs (eda_cons ed_cs eda_nil)) (by decide)) rfl rfl)) (by simp)) fun H3 e3 => ifF rfl (w_next ?_)))
        have t1 := Td.ex t1 e3
        have e12 := Ex.trans e1 e2
        have e2a := e2
        dsimp only
        refine w_seq (w_ifs (w_t (K := K) (b := false) (tk_is (tk_v (ed_eqS (ed_ixT (i := 0) (ed_var rfl t1) ed_ci atI_zero) ed_cs (by simp) (by simp))) (by simp)) fun H4 e2b => ifF rfl (w_next ?_)))
        have t1 := Td.ex t1 e2b
        dsimp only
        refine w_seq (w_ifs (w_t (K := K) (b := false) (tk_is (tk_v (ed_eqS (ed_ixT (i := 0) (ed_var rfl t1) ed_ci atI_zero) ed_cs (by simp) (by simp))) (by simp)) fun H5 e5 => ifF rfl (w_next ?_)))
        have t5 := t1.ex e5
        have e15 := (((e1.trans e2a).trans e3).trans e2b).trans e5
        dsimp only
        refine w_seq (w_asg (w_wd (K := K) (ws := ["say"]) (ew_lst (ws := ["say"]) (eda_cons (ed_is (ed_if (b := false) (tk_is (tk_v (ed_eqS (ed_ixT (i := 0) (ed_var rfl t5) ed_ci atI_zero) ed_cs (by simp) (by simp))) (by simp)) (d := .str "say") (fun h => by first | exact ed_cs | cases h) (fun h => by first | exact ed_ixT (i := 0) (ed_var rfl t5) ed_ci atI_zero | cases h)) rfl) eda_nil) (by simp)) fun fl H6 hfl e6 h6 => ?_))
        have t6 := t5.ex e6
        have e16 := e15.trans e6
        dsimp only
        refine w_seq (w_forCat (K := K) (ws := ["say"]) [Pt.th a] encPt wPt (ed_is (ed_sl (lo := some ((1 : Nat) : Int)) (hi := none) (ed_var rfl t6) (eok_some ed_ci) eok_none) (by rw [cutD_suf]; rfl)) h6 (by simp [wPt, wT, wS] at hlen ⊢; omega) (fun y u fl' H' hy e4 tu => ?_) fun fl' u H' e4 hor hl => w_ret (w_v rfl (k fl' H' ?_ (e16.trans e4) (by rw [hl]; simp [wPt, wT, wS]))))
        rotate_left
        · rcases hor with e | e
          · rw [e]; exact fresh_back e15 hfl
          · exact fresh_back e16 e
        refine (fun hh => sub y u _ H' 2 hh.1 hh.2 (ed_var rfl tu)) (?_ : okPt sh i0 y ∧ rkPt y < _)
        · rw [(by simpa using hy : y = .th a)]; exact ⟨⟨g1.1, by omega⟩, by simp only [rkPt]; omega⟩
      | set a b =>
        simp only [okS, Bool.and_eq_true, decide_eq_true_eq] at hw
        have g1 := okT_wf _ _ hw.2.1
        have g2 := okT_wf _ _ hw.2.2.2
        simp only [encPt, encS] at t1 hlay
        refine w_seq (w_ifs (w_t (K := K) (b := false) (tk_is (tk_or (tk_v (ed_eqM (ed_var rfl t1) (ed_tup eda_nil (by decide)) (by assumption) (by decide +kernel) (by simp [PyData.depth, PyData.depthAll]))) fun _ => tk_vB (ed_isi (b := false) (ed_ixT (i := 0) (ed_var rfl t1) ed_ci atI_zero) (by decide +kernel))) (by simp [PyData.eqv, PyData.eqvAll])) fun H1 e1 => ifF rfl (w_next ?_)))
        have t1 := Td.ex t1 e1
        dsimp only
        refine w_seq (w_ifs (w_t (K := K) (b := false) (tk_is (tk_v (ed_eqS (ed_ixT (i := 0) (ed_var rfl t1) ed_ci atI_zero) ed_cs (by simp) (by simp))) (by simp)) fun H2 e2 => ifF rfl (w_next ?_)))
        have t1 := Td.ex t1 e2
        dsimp only
        refine w_seq (w_ifs (w_t (K := K) (b := false) (tk_is (tk_v (ed_inT (ed_ixT (i := 0) (ed_var rfl t1) ed_ci atI_zero) (ed_tup (eda_cons ed_cs (eda_cons ed_cs eda_nil)) (by decide)) rfl rfl)) (by simp)) fun H3 e3 => ifF rfl (w_next ?_)))
        have t1 := Td.ex t1 e3
        have e12 := Ex.trans e1 e2
        have e2a := e2
        dsimp only
        refine w_seq (w_ifs (w_t (K := K) (b := false) (tk_is (tk_v (ed_eqS (ed_ixT (i := 0) (ed_var rfl t1) ed_ci atI_zero) ed_cs (by simp) (by simp))) (by simp)) fun H4 e2b => ifF rfl (w_next ?_)))
        have t1 := Td.ex t1 e2b
        dsimp only
        refine w_seq (w_ifs (w_t (K := K) (b := false) (tk_is (tk_v (ed_eqS (ed_ixT (i := 0) (ed_var rfl t1) ed_ci atI_zero) ed_cs (by simp) (by simp))) (by simp)) fun H5 e5 => ifF rfl (w_next ?_)))
        have t5 := t1.ex e5
        have e15 := (((e1.trans e2a).trans e3).trans e2b).trans e5
        dsimp only
        refine w_seq (w_asg (w_wd (K := K) (ws := ["set"]) (ew_lst (ws := ["set"]) (eda_cons (ed_is (ed_if (b := false) (tk_is (tk_v (ed_eqS (ed_ixT (i := 0) (ed_var rfl t5) ed_ci atI_zero) ed_cs (by simp) (by simp))) (by simp)) (d := .str "set") (fun h => by first | exact ed_cs | cases h) (fun h => by first | exact ed_ixT (i := 0) (ed_var rfl t5) ed_ci atI_zero | cases h)) rfl) eda_nil) (by simp)) fun fl H6 hfl e6 h6 => ?_))
        have t6 := t5.ex e6
        have e16 := e15.trans e6
        dsimp only
        refine w_seq (w_forCat (K := K) (ws := ["set"]) [Pt.th a, .th b] encPt wPt (ed_is (ed_sl (lo := some ((1 : Nat) : Int)) (hi := none) (ed_var rfl t6) (eok_some ed_ci) eok_none) (by rw [cutD_suf]; rfl)) h6 (by simp [wPt, wT, wS] at hlen ⊢; omega) (fun y u fl' H' hy e4 tu => ?_) fun fl' u H' e4 hor hl => w_ret (w_v rfl (k fl' H' ?_ (e16.trans e4) (by rw [hl]; simp [wPt, wT, wS]))))
        rotate_left
        · rcases hor with e | e
          · rw [e]; exact fresh_back e15 hfl
          · exact fresh_back e16 e
        refine (fun hh => sub y u _ H' 2 hh.1 hh.2 (ed_var rfl tu)) (?_ : okPt sh i0 y ∧ rkPt y < _)
        · rcases (by simpa using hy : y = .th a ∨ y = .th b) with e | e <;> rw [e]
          · exact ⟨⟨g1.1, by omega⟩, by simp only [rkPt]; omega⟩
          · exact ⟨⟨g2.1, by omega⟩, by simp only [rkPt]; omega⟩
      | call c ts =>
        simp only [okS, Bool.and_eq_true, decide_eq_true_eq, List.all_eq_true] at hw
        have hl4 := hsh.1
        have hp3 := (hsh.2 c).1
        simp only [encPt, encS] at t1 hlay
        refine w_seq (w_ifs (w_t (K := K) (b := false) (tk_is (tk_or (tk_v (ed_eqM (ed_var rfl t1) (ed_tup eda_nil (by decide)) (by assumption) (by decide +kernel) (by simp [PyData.depth, PyData.depthAll]))) fun _ => tk_vB (ed_isi (b := false) (ed_ixT (i := 0) (ed_var rfl t1) ed_ci atI_zero) (by decide +kernel))) (by simp [PyData.eqv, PyData.eqvAll])) fun H1 e1 => ifF rfl (w_next ?_)))
        have t1 := Td.ex t1 e1
        dsimp only
        refine w_seq (w_ifs (w_t (K := K) (b := false) (tk_is (tk_v (ed_eqS (ed_ixT (i := 0) (ed_var rfl t1) ed_ci atI_zero) ed_cs (by simp) (by simp))) (by simp)) fun H2 e2 => ifF rfl (w_next ?_)))
        have t1 := Td.ex t1 e2
        dsimp only
        refine w_seq (w_ifs (w_t (K := K) (b := false) (tk_is (tk_v (ed_inT (ed_ixT (i := 0) (ed_var rfl t1) ed_ci atI_zero) (ed_tup (eda_cons ed_cs (eda_cons ed_cs eda_nil)) (by decide)) rfl rfl)) (by simp)) fun H3 e3 => ifF rfl (w_next ?_)))
        have t1 := Td.ex t1 e3
        have e12 := Ex.trans e1 e2
        have e2a := e2
        dsimp only
        refine w_seq (w_ifs (w_t (K := K) (b := true) (tk_is (tk_v (ed_eqS (ed_ixT (i := 0) (ed_var rfl t1) ed_ci atI_zero) ed_cs (by simp) (by simp))) (by simp)) fun H2 e2 => ifT rfl ?_))
        have t1 := Td.ex t1 e2
        dsimp only
        have e14 := (e12.trans e3).trans e2
        have hts : okPt sh i0 (.tl ts) := ⟨by have := hw.2.2.2.1; omega, fun t ht => by have := okT_wf _ _ (hw.2.2.2.2 t ht); exact ⟨this.1, by omega⟩⟩
        have hsp := hI (by simp only [rkPt] at hrk; omega)
        subst hsp
        refine w_ret (w_wd (K := K) (ws := wS (.call c ts)) (ew_is (ew_cat (ew_cat (ew_lst (ws := ["call", strN c]) (eda_cons ed_cs (eda_cons (ed_strN (ed_ixT (i := 1) (ed_var rfl t1) ed_ci rfl) (by omega)) eda_nil)) (by simp)) (ew_call (eda_cons (ed_ixT (i := 2) (ed_var rfl t1) ed_ci rfl) eda_nil) ⟨.tl ts, sh, i0, rfl, hsh, hts, by simp only [rkPt] at hrk ⊢; omega, rfl⟩) ?_) (ew_lst (ws := ["."]) (eda_cons ed_cs eda_nil) (by simp)) ?_) (by simp [wS, wPt])) fun p H5 hp e5 h5 => k p H5 (fresh_back e14 hp) (e14.trans e5) h5)
        · have := wPt_len hsh hts; simp only [List.length_cons, List.length_nil]; omega
        · have := wPt_len hsh hts; simp only [List.length_append, List.length_cons, List.length_nil]; omega
      | ite t a b =>
        simp only [okS, Bool.and_eq_true, decide_eq_true_eq] at hw
        have g1 := okT_wf _ _ hw.2.1
        simp only [cntS] at hcnt
        simp only [encPt, encS] at t1 hlay
        refine w_seq (w_ifs (w_t (K := K) (b := false) (tk_is (tk_or (tk_v (ed_eqM (ed_var rfl t1) (ed_tup eda_nil (by decide)) (by assumption) (by decide +kernel) (by simp [PyData.depth, PyData.depthAll]))) fun _ => tk_vB (ed_isi (b := false) (ed_ixT (i := 0) (ed_var rfl t1) ed_ci atI_zero) (by decide +kernel))) (by simp [PyData.eqv, PyData.eqvAll])) fun H1 e1 => ifF rfl (w_next ?_)))
        have t1 := Td.ex t1 e1
        dsimp only
        refine w_seq (w_ifs (w_t (K := K) (b := false) (tk_is (tk_v (ed_eqS (ed_ixT (i := 0) (ed_var rfl t1) ed_ci atI_zero) ed_cs (by simp) (by simp))) (by simp)) fun H2 e2 => ifF rfl (w_next ?_)))
        have t1 := Td.ex t1 e2
        dsimp only
        refine w_seq (w_ifs (w_t (K := K) (b := false) (tk_is (tk_v (ed_inT (ed_ixT (i := 0) (ed_var rfl t1) ed_ci atI_zero) (ed_tup (eda_cons ed_cs (eda_cons ed_cs eda_nil)) (by decide)) rfl rfl)) (by simp)) fun H3 e3 => ifF rfl (w_next ?_)))
        have t1 := Td.ex t1 e3
        have e12 := Ex.trans e1 e2
        have e2a := e2
        dsimp only
        refine w_seq (w_ifs (w_t (K := K) (b := false) (tk_is (tk_v (ed_eqS (ed_ixT (i := 0) (ed_var rfl t1) ed_ci atI_zero) ed_cs (by simp) (by simp))) (by simp)) fun H4 e2b => ifF rfl (w_next ?_)))
        have t1 := Td.ex t1 e2b
        dsimp only
        refine w_seq (w_ifs (w_t (K := K) (b := true) (tk_is (tk_v (ed_eqS (ed_ixT (i := 0) (ed_var rfl t1) ed_ci atI_zero) ed_cs (by simp) (by simp))) (by simp)) fun H2 e2 => ifT rfl ?_))
        have t1 := Td.ex t1 e2
        dsimp only
        have e15 := (((e1.trans e2a).trans e3).trans e2b).trans e2
        have ht : okPt sh i0 (.th t) := ⟨g1.1, by omega⟩
        have ha : okPt sh i0 (.bd a) := ⟨⟨w0 + 1, hw.2.2.1⟩, by omega⟩
        have hb : okPt sh i0 (.bd b) := ⟨⟨w0 + 1, hw.2.2.2⟩, by omega⟩
        have lt := wPt_len hsh ht
        have la := wPt_len hsh ha
        have lb := wPt_len hsh hb
        have hsp := hI (by simp only [rkPt] at hrk; omega)
        subst hsp
        have hra : rkPt (.bd a) ≤ n - 1 := by simp only [rkPt, dpS] at hrk ⊢; omega
        have hrb : rkPt (.bd b) ≤ n - 1 := by simp only [rkPt, dpS] at hrk ⊢; omega
        have hrt : rkPt (.th t) ≤ n - 1 := by simp only [rkPt, dpS] at hrk ⊢; omega
        simp only [wPt] at lt la lb
        refine w_seq (w_asg (w_wd (K := K) (ws := "if" :: wT t) (ew_is (ew_cat (ew_lst (ws := ["if"]) (eda_cons ed_cs eda_nil) (by simp)) (ew_call (eda_cons (ed_ixT (i := 1) (ed_var rfl t1) ed_ci rfl) eda_nil) ⟨.th t, sh, i0, rfl, hsh, ht, hrt, rfl⟩) (by simp only [List.length_cons, List.length_nil, wPt]; omega)) (by simp [wPt])) fun fl H6 hfl e6 h6 => ?_))
        have t6 := t1.ex e6
        have e16 := e15.trans e6
        dsimp only
        refine w_ret (w_wd (K := K) (ws := wS (.ite t a b)) (ew_is (ew_cat (ew_cat (ew_cat (ew_cat (ew_catV (n := 1) (u := "if" :: wT t) rfl h6 (ew_lst (ws := ["("]) (eda_cons ed_cs eda_nil) (by simp)) ?_) (ew_call (eda_cons (ed_ixT (i := 2) (ed_var rfl t6) ed_ci rfl) eda_nil) ⟨.bd a, sh, i0, rfl, hsh, ha, hra, rfl⟩) ?_) (ew_lst (ws := [")", "("]) (eda_cons ed_cs (eda_cons ed_cs eda_nil)) (by simp)) ?_) (ew_call (eda_cons (ed_ixT (i := 3) (ed_var rfl t6) ed_ci rfl) eda_nil) ⟨.bd b, sh, i0, rfl, hsh, hb, hrb, rfl⟩) ?_) (ew_lst (ws := [")"]) (eda_cons ed_cs eda_nil) (by simp)) ?_) (by simp [wS, wPt])) fun p H7 hp e7 h7 => k p H7 (fresh_back e16 hp) (e16.trans e7) h7)
        all_goals (simp only [List.length_append, List.length_cons, List.length_nil, wPt]; omega)
theorem ok_lw : ∀ n : Nat, Fn__law_words T P w base CX0 (n + 1) (spWd K (pLW n))
  | 0 => lw_step T (n := 0) (fun _ _ _ _ => False) (fun h => absurd h (Nat.lt_irrefl _)) (fn_vac fun _ _ _ _ h => h)
  | n + 1 => lw_step T (n := n + 1) (spWd K (pLW n)) (fun _ => rfl) (ok_lw n)
end
end Hw

set_option maxRecDepth 100000
set_option maxHeartbeats 4000000
/-! LF: the law's own reader: figures -/
namespace Hw
open PySem PySem.Spec PyProof.Rows L2 Evl
local macro_rules | `(tactic| walk_at "dd") => `(tactic| first | rfl | decide | (simp; done) | omega)
local macro_rules | `(tactic| walk_at "td") => `(tactic| first | assumption | exact Td.int _ | exact Td.bl _ | exact Td.str _ | exact Td.non | exact Td.tup (by assumption) (by assumption))
local macro_rules | `(tactic| walk_at "ev") => `(tactic| first
  | exact ed_ci | exact ed_cs | exact ed_cb | exact ed_cn
  | (apply ed_cg; assumption)
  | (apply ed_var; (rfl); (walk_at "td"))
  | (apply ed_ixT; (walk_at "ev"); (walk_at "ev"); (first | rfl | assumption))
  | (apply ed_rowI; (rfl); (assumption); (walk_at "ev"); (rfl))
  | (apply ed_ixL; (apply EvDL.rd; walk_at "edl"); (walk_at "ev"); (rfl))
  | (apply ed_intb; (walk_at "ev"))
  | (apply ed_len; walk_at "ev")
  | (apply ed_lenV; (apply ev_rowR; (rfl); (assumption); (walk_at "ev"); (rfl)); (assumption))
  | (apply ed_Ii; (walk_at "ev"); (walk_at "ev"); (walk_at "cc"))
  | (apply ed_isi; (walk_at "ev"); (rfl))
  | (apply ed_I0i; (walk_at "ev"); (walk_at "ev"))
  | (apply ed_I0b; (walk_at "ev"); (walk_at "ev"))
  | (apply ed_eqi; (walk_at "ev"); (walk_at "ev"))
  | (apply ed_nei; (walk_at "ev"); (walk_at "ev"))
  | (apply ed_andF; walk_at "ev")
  | (apply ed_andV; (walk_at "ev"); (intro _; walk_at "ev"))
  | (apply ed_orT; walk_at "ev")
  | (apply ed_orV; (walk_at "ev"); (intro _; walk_at "ev"))
  | (apply ed_notT; walk_at "ev")
  | (apply ed_notF; walk_at "ev")
  | (apply ed_notV; walk_at "ev")
  | (apply ed_chain; (walk_at "ev"); (walk_at "ev"); (intro _; walk_at "ev"))
  | (apply ed_eqS; (walk_at "ev"); (walk_at "ev"); (walk_at "bb"); (walk_at "bb"))
  | (apply ed_neS; (walk_at "ev"); (walk_at "ev"); (walk_at "bb"); (walk_at "bb"))
  | (apply ed_inT; (walk_at "ev"); (walk_at "ev"); (rfl); (rfl))
  | (apply ed_niT; (walk_at "ev"); (walk_at "ev"); (rfl); (rfl))
  | (apply ed_tup; (walk_at "eva"); (walk_at "bb"))
  | (apply ed_sl; (walk_at "ev"); (walk_at "evo"); (walk_at "evo"))
  | (apply ed_eqN; (apply EvDL.rd; walk_at "edl"); (walk_at "edl"); (walk_at "bb"))
  | (apply ed_neN; (apply EvDL.rd; walk_at "edl"); (walk_at "edl"); (walk_at "bb"))
  | (apply ed_ixL; (apply edr_var; (rfl); (assumption); (assumption)); (walk_at "ev"); (first | rfl | assumption))
  | (apply ed_lenL; (apply edr_var; (rfl); (assumption); (assumption)))
  | (apply ed_call; (walk_at "eva"); (walk_at "post")))
local macro_rules | `(tactic| walk_at "edl") => `(tactic| first
  | assumption
  | (apply edl_lst; (walk_at "eva"); (walk_at "bb")))
local macro_rules | `(tactic| walk_at "eva") => `(tactic| first
  | exact eda_nil
  | (apply eda_cons; (walk_at "ev"); (walk_at "eva")))
local macro_rules | `(tactic| walk_at "evo") => `(tactic| first
  | exact eok_none
  | (apply eok_some; walk_at "ev"))
local macro_rules | `(tactic| walk_at "bb") => `(tactic| first | rfl | assumption | (simp; done) | (simp; omega) | decide +kernel)
local macro_rules | `(tactic| walk_at "et") => `(tactic| first
  | exact tk_yes
  | (apply tk_andF; walk_at "et")
  | (apply tk_and; (walk_at "et"); (intro _; walk_at "et"))
  | (apply tk_orT; walk_at "et")
  | (apply tk_or; (walk_at "et"); (intro _; walk_at "et"))
  | (apply tk_notT; walk_at "et")
  | (apply tk_notF; walk_at "et")
  | (apply tk_not; walk_at "et")
  | (apply tk_v; walk_at "ev")
  | (apply tk_vB; walk_at "ev"))
local macro_rules | `(tactic| walk_at "if") => `(tactic| first
  | (apply pst_whenF; (walk_at "et"); (walk_at "bb"))
  | (apply pst_whenT; (walk_at "et"); (walk_at "bb")))
local macro_rules | `(tactic| walk_at "post") => `(tactic| first | assumption | exact ⟨_, _, rfl, rfl⟩ | exact ⟨_, _, _, _, rfl, by omega, by omega, rfl⟩ | exact ⟨_, _, _, 0, rfl, by omega, by omega, rfl⟩)
local macro_rules | `(tactic| walk_at "cc") => `(tactic| first | assumption | decide | omega | (refine ⟨?_, ?_⟩ <;> first | decide | omega) | (exact Or.inl (by constructor <;> omega)))

theorem numOf_some (z : Str) : (numOf z).isSome = (figB z && zeroB z) := by
  cases h1 : figB z with
  | false => rw [numOf_bad (by rw [h1]; rfl)]; rfl
  | true =>
    cases h2 : zeroB z with
    | false => rw [numOf_bad (by rw [h2]; simp)]; rfl
    | true =>
      obtain ⟨kk, hk, rfl⟩ := num_conv h1 h2
      rw [numOf_str kk hk]
      rfl
def spFig (K : PySem.W.Frag) : Sp := fun vs H Q _ => ∃ z : Str, vs = [.str z] ∧ z.length ≤ 40000 ∧ (PyData.str z).canLay0 = true ∧ ∀ H', Ex H H' → Q (.bl (numOf z).isSome) H'
section
variable {P : Program} {w : World} {K : PySem.W.Frag} {mg : Str → Option Value} {base : Heap} (T : Tx K mg)
include T
theorem ok_fig : Fn__law_is_figures T P w base CX0 1 (spFig K) := by
  refine T.F__law_is_figures.ok sc__law_is_figures (fun vs H Q E h => by obtain ⟨_, rfl, _⟩ := h; rfl) fun cdv A outer s0 H vs Q E hr h => ?_
  obtain ⟨z, rfl, hz1, hz2, k⟩ := h
  refine ⟨_, (pss_cons (ps_if (PW.pt (pw_or (pt_not (pt_chain op_le op_le pe_int (pe_callB call_len_str rfl T.b_len PySem.boot_len (pa_cons (pv 0) pa_nil)) pe_int)) (pw_or1 (pt_cmpR (kop_ne K hr.units) (pe_lc (own := [("_law_sign", 1)]) (g := gName 1) (tt := _) rfl sc__law_is_figures.nd (pi_str (pv 0)) (blkOk_by (N := ["_law_word", "_law_sign"]) (sc := defScope s__law_is_figures) (by decide +kernel)) (fun _ _ _ _ _ => (pg_name (i := 1) sc__law_is_figures.nd rfl (Or.inl rfl))) (fun _ _ _ _ _ => (pts_one (pt_cmpR op_notIn_sign (pv 1) pe_str rfl))) (fun _ _ _ _ _ => (pv 1))) (pe_lst pa_nil) (nomark _)))))
    (pss_one (ps_ret pe_bl))
    pss_nil)
  (pss_one (ps_ret (pe_or (pe_cmpR (kop_eq K hr.units) (pv 0) pe_str (nomark _)) (pe_one (pe_cmpR (kop_ne K hr.units) (pe_ix ix_str (pv 0) pe_int (fun _ _ => rfl)) pe_str (nomark _))))))), ?_⟩
  refine w_seq (w_ifs (w_t (K := K) (b := !figB z) (tk_is (tk_or (tk_not (tk_v (ed_chain (i := 1) (k := 2) ed_ci (ed_lenS (ed_var rfl (.str _)) hz1) fun _ => ed_ci))) fun _ => tk_v (ed_neN (EvDL.rd (edl_lcS (p := fun c => !isFig c) (ed_var rfl (.str _)) hz1 (fun _ => rfl) (fun c H3 e3 => tk_v (ed_niS (ed_var rfl (.str _)) ed_cs)) (fun c H3 e3 => ed_var rfl (.str _)))) (edl_lst eda_nil (by decide)) (signs_lay hz2))) ?_) fun H1 e1 => ?_))
  · unfold figB
    simp
  · cases h1 : figB z with
    | false =>
      refine ifT rfl (w_ret (w_c ?_))
      have := k H1 e1
      rw [numOf_some, h1] at this
      exact this
    | true =>
      refine ifF rfl (w_next ?_)
      dsimp only
      obtain ⟨c0, hc0, hd0⟩ := figB_fig h1
      refine w_ret (w_d (K := K) (d := .bool (zeroB z)) (ed_is (ed_orV (ed_eqS (ed_var rfl (.str _)) ed_cs hz2 (by decide +kernel)) fun _ => ed_neS (ed_ixS (i := 0) (c := c0) (ed_var rfl (.str _)) ed_ci hz1 (atI_nat hc0)) ed_cs ?_ (by decide +kernel)) ?_) fun v H2 e2 tv => ?_)
      · exact sign_lay hz2 (List.mem_of_getElem? hc0)
      · rw [sign0, eqv_str2]
        unfold zeroB
        rw [hd0, Bool.or_comm]
      · cases tv
        have := k H2 (e1.trans e2)
        rw [numOf_some, h1, Bool.true_and] at this
        exact this
end
end Hw

set_option maxRecDepth 100000
set_option maxHeartbeats 4000000
/-! LF2: the law's own reader: words by their place -/
namespace Hw
open PySem PySem.Spec PyProof.Rows L2 Evl
local macro_rules | `(tactic| walk_at "dd") => `(tactic| first | rfl | decide | (simp; done) | omega)
local macro_rules | `(tactic| walk_at "td") => `(tactic| first | assumption | exact Td.int _ | exact Td.bl _ | exact Td.str _ | exact Td.non | exact Td.tup (by assumption) (by assumption))
local macro_rules | `(tactic| walk_at "ev") => `(tactic| first
  | exact ed_ci | exact ed_cs | exact ed_cb | exact ed_cn
  | (apply ed_cg; assumption)
  | (apply ed_var; (rfl); (walk_at "td"))
  | (apply ed_ixT; (walk_at "ev"); (walk_at "ev"); (first | rfl | assumption))
  | (apply ed_rowI; (rfl); (assumption); (walk_at "ev"); (rfl))
  | (apply ed_ixL; (apply EvDL.rd; walk_at "edl"); (walk_at "ev"); (rfl))
  | (apply ed_intb; (walk_at "ev"))
  | (apply ed_len; walk_at "ev")
  | (apply ed_lenV; (apply ev_rowR; (rfl); (assumption); (walk_at "ev"); (rfl)); (assumption))
  | (apply ed_Ii; (walk_at "ev"); (walk_at "ev"); (walk_at "cc"))
  | (apply ed_isi; (walk_at "ev"); (rfl))
  | (apply ed_I0i; (walk_at "ev"); (walk_at "ev"))
  | (apply ed_I0b; (walk_at "ev"); (walk_at "ev"))
  | (apply ed_eqi; (walk_at "ev"); (walk_at "ev"))
  | (apply ed_nei; (walk_at "ev"); (walk_at "ev"))
  | (apply ed_andF; walk_at "ev")
  | (apply ed_andV; (walk_at "ev"); (intro _; walk_at "ev"))
  | (apply ed_orT; walk_at "ev")
  | (apply ed_orV; (walk_at "ev"); (intro _; walk_at "ev"))
  | (apply ed_notT; walk_at "ev")
  | (apply ed_notF; walk_at "ev")
  | (apply ed_notV; walk_at "ev")
  | (apply ed_chain; (walk_at "ev"); (walk_at "ev"); (intro _; walk_at "ev"))
  | (apply ed_eqS; (walk_at "ev"); (walk_at "ev"); (walk_at "bb"); (walk_at "bb"))
  | (apply ed_neS; (walk_at "ev"); (walk_at "ev"); (walk_at "bb"); (walk_at "bb"))
  | (apply ed_inT; (walk_at "ev"); (walk_at "ev"); (rfl); (rfl))
  | (apply ed_niT; (walk_at "ev"); (walk_at "ev"); (rfl); (rfl))
  | (apply ed_tup; (walk_at "eva"); (walk_at "bb"))
  | (apply ed_sl; (walk_at "ev"); (walk_at "evo"); (walk_at "evo"))
  | (apply ed_eqN; (apply EvDL.rd; walk_at "edl"); (walk_at "edl"); (walk_at "bb"))
  | (apply ed_neN; (apply EvDL.rd; walk_at "edl"); (walk_at "edl"); (walk_at "bb"))
  | (apply ed_ixL; (apply edr_var; (rfl); (assumption); (assumption)); (walk_at "ev"); (first | rfl | assumption))
  | (apply ed_lenL; (apply edr_var; (rfl); (assumption); (assumption)))
  | (apply ed_call; (walk_at "eva"); (walk_at "post")))
local macro_rules | `(tactic| walk_at "edl") => `(tactic| first
  | assumption
  | (apply edl_lst; (walk_at "eva"); (walk_at "bb")))
local macro_rules | `(tactic| walk_at "eva") => `(tactic| first
  | exact eda_nil
  | (apply eda_cons; (walk_at "ev"); (walk_at "eva")))
local macro_rules | `(tactic| walk_at "evo") => `(tactic| first
  | exact eok_none
  | (apply eok_some; walk_at "ev"))
local macro_rules | `(tactic| walk_at "bb") => `(tactic| first | rfl | assumption | (simp; done) | (simp; omega) | decide +kernel)
local macro_rules | `(tactic| walk_at "et") => `(tactic| first
  | exact tk_yes
  | (apply tk_andF; walk_at "et")
  | (apply tk_and; (walk_at "et"); (intro _; walk_at "et"))
  | (apply tk_orT; walk_at "et")
  | (apply tk_or; (walk_at "et"); (intro _; walk_at "et"))
  | (apply tk_notT; walk_at "et")
  | (apply tk_notF; walk_at "et")
  | (apply tk_not; walk_at "et")
  | (apply tk_v; walk_at "ev")
  | (apply tk_vB; walk_at "ev"))
local macro_rules | `(tactic| walk_at "if") => `(tactic| first
  | (apply pst_whenF; (walk_at "et"); (walk_at "bb"))
  | (apply pst_whenT; (walk_at "et"); (walk_at "bb")))
local macro_rules | `(tactic| walk_at "post") => `(tactic| first | assumption | exact ⟨_, _, rfl, rfl⟩ | exact ⟨_, _, _, _, rfl, by omega, by omega, rfl⟩ | exact ⟨_, _, _, 0, rfl, by omega, by omega, rfl⟩)
local macro_rules | `(tactic| walk_at "cc") => `(tactic| first | assumption | decide | omega | (refine ⟨?_, ?_⟩ <;> first | decide | omega) | (exact Or.inl (by constructor <;> omega)))

section
variable {K : PySem.W.Frag} {σ : L2.St} {H : Hp} {te ta tb : TE} {ds es : List PyData}
theorem edl_slL {tl th : TO} {lo hi : Option Int} (h : EvDR K te σ H ds) (h1 : EvOK K tl σ H lo) (h2 : EvOK K th σ H hi) : EvDL K (tSl (rSlL K) te tl th) σ H (cutD ds lo hi) := fun H1 a Q q =>
  h H1 a _ fun p xs H2 e2 hs hall => by
    refine h1 H2 (a.trans e2) _ fun H3 e3 => h2 H3 ((a.trans e2).trans e3) _ fun H4 e4 => ?_
    refine ⟨p, xs, rfl, ex_l (e3.trans e4) hs, fun n hn => ?_⟩
    exact q n _ _ (fresh_back ((e2.trans e3).trans e4) hn) (((e2.trans e3).trans e4).trans (Ex.new hn)) upd_same (((hall.ex (e3.trans e4)).cut lo hi).ex (Ex.new hn))
theorem edl_catLL (ha : EvDL K ta σ H ds) (hb : EvDL K tb σ H es) (hl : ds.length + es.length ≤ 100000) : EvDL K (tOp rCat ta tb) σ H (ds ++ es) := fun H1 a Q q =>
  ha H1 a _ fun p xs H2 hp e2 hx ht => hb H2 (a.trans e2) _ fun p' ys H3 hp' e3 hy ht' =>
    ⟨p, p', xs, ys, rfl, rfl, e3 _ _ hx, hy, by rw [ht'.length, ht.length]; exact sz_of (by omega), fun q2 hq => q q2 (xs ++ ys) _ (fresh_back (e2.trans e3) hq) ((e2.trans e3).trans (Ex.new hq)) upd_same (((ht.ex e3).append ht').ex (Ex.new hq))⟩
theorem cut_one {ws : List Str} {n : Nat} : cutD (ws.map PyData.str) (some (n : Int)) (some ((n + 1 : Nat) : Int)) = (match ws[n]? with | some z => [.str z] | none => []) := by
  unfold cutD
  rw [HT.sIx_nat, HT.sIx_nat, List.length_map]
  cases h : ws[n]? with
  | none =>
    have := List.getElem?_eq_none_iff.mp h
    have e1 : min (n + 1) ws.length = ws.length := by omega
    have e2 : min n ws.length = ws.length := by omega
    rw [e1, e2, Nat.sub_self]
    simp
  | some z =>
    have hl := (List.getElem?_eq_some_iff.mp h).1
    have e1 : min (n + 1) ws.length = n + 1 := by omega
    have e2 : min n ws.length = n := by omega
    rw [e1, e2]
    have : n + 1 - n = 1 := by omega
    rw [this]
    refine List.ext_getElem? fun j => ?_
    rw [List.getElem?_take, List.getElem?_drop]
    cases j with
    | zero => simp [h]
    | succ j => simp
theorem strs_tdA (H : Hp) : ∀ ws : List Str, TdAll K H (ws.map V.str) (ws.map PyData.str)
  | [] => .nil
  | _ :: r => .cons (.str _) (strs_tdA H r)
/-- the word at a place, an empty text behind the last one -/
theorem ed_hereL {n k : Nat} {lp : Addr} {ws : List Str} {ti tj : TE} {r : List PyData} (hs : σ[n]? = some (some (.ref lp))) (hx : H lp = some (.lst (ws.map V.str))) (hi : EvD K ti σ H (.int (k : Int))) (hj : EvD K tj σ H (.int ((k + 1 : Nat) : Int))) (hb : EvDL K tb σ H (.str "" :: r)) (hr : r.length ≤ 10) :
    EvD K (tOp (rIxL K) (tOp rCat (tSl (rSlL K) (tVar n) (tPart ti) (tPart tj)) tb) (tC (.int 0))) σ H (.str (hereW ws k)) := by
  refine ed_ixL (i := 0) (EvDL.rd (edl_catLL (edl_slL (edr_var hs (SqL.of hx) (strs_tdA H ws)) (eok_some hi) (eok_some hj)) hb ?_)) ed_ci ?_
  · rw [cut_one]
    cases ws[k]? <;> simp <;> omega
  · rw [cut_one]
    unfold hereW
    cases ws[k]? with
    | none => exact atI_zero
    | some z => exact atI_zero
end
end Hw

set_option maxRecDepth 100000
set_option maxHeartbeats 4000000
/-! LI1: the law's own look, in plain Lean, over any data -/
namespace Hw
open PySem PySem.Spec PyProof.Rows L2 Evl
def isStrD (s : Str) : PyData → Bool
  | .str z => decide (s = z)
  | _ => false
theorem eqv_strL (s : Str) (d : PyData) : PyData.eqv (.str s) d = isStrD s d := by
  cases d <;> simp [PyData.eqv, isStrD]
  rename_i z
  by_cases h : s = z <;> simp [h]
theorem eqv_strR (s : Str) (d : PyData) : PyData.eqv d (.str s) = isStrD s d := by
  cases d <;> simp [PyData.eqv, isStrD]
  rename_i z
  by_cases h : s = z
  · simp [h]
  · have : ¬ z = s := fun e => h e.symm
    simp [h, this]
@[simp] theorem sd_num_num : isStrD "num" (.str "num") = true := by simp only [isStrD]; decide +kernel
@[simp] theorem sd_num_own : isStrD "num" (.str "own") = false := by simp only [isStrD]; decide +kernel
@[simp] theorem sd_num_par : isStrD "num" (.str "par") = false := by simp only [isStrD]; decide +kernel
@[simp] theorem sd_num_cell : isStrD "num" (.str "cell") = false := by simp only [isStrD]; decide +kernel
@[simp] theorem sd_num_sum : isStrD "num" (.str "sum") = false := by simp only [isStrD]; decide +kernel
@[simp] theorem sd_own_num : isStrD "own" (.str "num") = false := by simp only [isStrD]; decide +kernel
@[simp] theorem sd_own_own : isStrD "own" (.str "own") = true := by simp only [isStrD]; decide +kernel
@[simp] theorem sd_own_par : isStrD "own" (.str "par") = false := by simp only [isStrD]; decide +kernel
@[simp] theorem sd_own_cell : isStrD "own" (.str "cell") = false := by simp only [isStrD]; decide +kernel
@[simp] theorem sd_own_sum : isStrD "own" (.str "sum") = false := by simp only [isStrD]; decide +kernel
@[simp] theorem sd_par_num : isStrD "par" (.str "num") = false := by simp only [isStrD]; decide +kernel
@[simp] theorem sd_par_own : isStrD "par" (.str "own") = false := by simp only [isStrD]; decide +kernel
@[simp] theorem sd_par_par : isStrD "par" (.str "par") = true := by simp only [isStrD]; decide +kernel
@[simp] theorem sd_par_cell : isStrD "par" (.str "cell") = false := by simp only [isStrD]; decide +kernel
@[simp] theorem sd_par_sum : isStrD "par" (.str "sum") = false := by simp only [isStrD]; decide +kernel
@[simp] theorem sd_cell_num : isStrD "cell" (.str "num") = false := by simp only [isStrD]; decide +kernel
@[simp] theorem sd_cell_own : isStrD "cell" (.str "own") = false := by simp only [isStrD]; decide +kernel
@[simp] theorem sd_cell_par : isStrD "cell" (.str "par") = false := by simp only [isStrD]; decide +kernel
@[simp] theorem sd_cell_cell : isStrD "cell" (.str "cell") = true := by simp only [isStrD]; decide +kernel
@[simp] theorem sd_cell_sum : isStrD "cell" (.str "sum") = false := by simp only [isStrD]; decide +kernel
@[simp] theorem sd_sum_num : isStrD "sum" (.str "num") = false := by simp only [isStrD]; decide +kernel
@[simp] theorem sd_sum_own : isStrD "sum" (.str "own") = false := by simp only [isStrD]; decide +kernel
@[simp] theorem sd_sum_par : isStrD "sum" (.str "par") = false := by simp only [isStrD]; decide +kernel
@[simp] theorem sd_sum_cell : isStrD "sum" (.str "cell") = false := by simp only [isStrD]; decide +kernel
@[simp] theorem sd_sum_sum : isStrD "sum" (.str "sum") = true := by simp only [isStrD]; decide +kernel
@[simp] theorem sd_set_set : isStrD "set" (.str "set") = true := by simp only [isStrD]; decide +kernel
@[simp] theorem sd_set_say : isStrD "set" (.str "say") = false := by simp only [isStrD]; decide +kernel
@[simp] theorem sd_set_if : isStrD "set" (.str "if") = false := by simp only [isStrD]; decide +kernel
@[simp] theorem sd_set_call : isStrD "set" (.str "call") = false := by simp only [isStrD]; decide +kernel
@[simp] theorem sd_say_set : isStrD "say" (.str "set") = false := by simp only [isStrD]; decide +kernel
@[simp] theorem sd_say_say : isStrD "say" (.str "say") = true := by simp only [isStrD]; decide +kernel
@[simp] theorem sd_say_if : isStrD "say" (.str "if") = false := by simp only [isStrD]; decide +kernel
@[simp] theorem sd_say_call : isStrD "say" (.str "call") = false := by simp only [isStrD]; decide +kernel
@[simp] theorem sd_if_set : isStrD "if" (.str "set") = false := by simp only [isStrD]; decide +kernel
@[simp] theorem sd_if_say : isStrD "if" (.str "say") = false := by simp only [isStrD]; decide +kernel
@[simp] theorem sd_if_if : isStrD "if" (.str "if") = true := by simp only [isStrD]; decide +kernel
@[simp] theorem sd_if_call : isStrD "if" (.str "call") = false := by simp only [isStrD]; decide +kernel
@[simp] theorem sd_call_set : isStrD "call" (.str "set") = false := by simp only [isStrD]; decide +kernel
@[simp] theorem sd_call_say : isStrD "call" (.str "say") = false := by simp only [isStrD]; decide +kernel
@[simp] theorem sd_call_if : isStrD "call" (.str "if") = false := by simp only [isStrD]; decide +kernel
@[simp] theorem sd_call_call : isStrD "call" (.str "call") = true := by simp only [isStrD]; decide +kernel
theorem isStrD_iff {s : Str} {d : PyData} : isStrD s d = true ↔ d = .str s := by
  cases d <;> simp [isStrD]
  rename_i z
  exact eq_comm
def isTupL : PyData → Bool
  | .tuple _ => true
  | _ => false
theorem isTupL_kit {K : PySem.W.Frag} {H : Hp} {v : V} {d : PyData} (t : Td K H v d) : kitB (tyD d) "tuple" = some (isTupL d) := by
  cases t <;> first | rfl | decide +kernel
/-- a thing, in so many more -/
def isThD (ps os : Nat) : Nat → PyData → Bool
  | n + 1, .tuple [h, a] => (isStrD "cell" h && isThD ps os n a) || ((isStrD "num" h && isNumD a 3) || ((isStrD "par" h && isNumD a (ps : Int)) || (isStrD "own" h && isNumD a (os : Int))))
  | n + 1, .tuple [h, a, b] => isStrD "sum" h && (isThD ps os n a && isThD ps os n b)
  | _, _ => false
def isPlD : PyData → Bool
  | .tuple (h :: _) => isStrD "cell" h || (isStrD "own" h || isStrD "par" h)
  | _ => false
def bdAll (f : PyData → Bool) : PyData → Bool
  | .tuple xs => xs.all f
  | _ => false
def callD (sh : List (Nat × Nat)) (at_ : Nat) (a b : PyData) : Bool := match a, b with
  | .int i, .tuple ts => decide (0 ≤ i) && (decide (i < (sh.length : Int)) && (decide ((at_ : Int) < i) && (decide (ts.length = shP sh i.toNat) && ts.all (isThD (shP sh at_) (shO sh at_) 5))))
  | _, _ => false
/-- a step, in so many more -/
def isStD (sh : List (Nat × Nat)) (at_ : Nat) : Nat → PyData → Bool
  | _ + 1, .tuple [h, a] => isStrD "say" h && isThD (shP sh at_) (shO sh at_) 5 a
  | _ + 1, .tuple [h, a, b] => (isStrD "set" h && (isPlD a && (isThD (shP sh at_) (shO sh at_) 5 a && isThD (shP sh at_) (shO sh at_) 5 b))) || (isStrD "call" h && callD sh at_ a b)
  | n + 1, .tuple [h, a, b, c] => isStrD "if" h && (isThD (shP sh at_) (shO sh at_) 5 a && (bdAll (isStD sh at_ n) b && bdAll (isStD sh at_ n) c))
  | _, _ => false
/-! what is typed -/
theorem isNumD_nat {k b : Nat} : isNumD (.int (k : Int)) (b : Int) = decide (k < b) := by
  simp [isNumD]
theorem isNumD_inv {d : PyData} {b : Int} (h : isNumD d b = true) : ∃ k : Nat, d = .int (k : Int) ∧ (k : Int) < b := by
  cases d <;> simp [isNumD] at h
  rename_i i
  exact ⟨i.toNat, by rw [Int.toNat_of_nonneg h.1], by omega⟩
theorem isThD_enc {ps os : Nat} : ∀ (t : Th) (n w : Nat), n + w = 5 → isThD ps os n (encT t) = okT ps os t w
  | t, 0, w, h => by
    have : w = 5 := by omega
    subst this
    cases t <;> simp [isThD, okT]
  | .num k, n + 1, w, h => by
    have e := isNumD_nat (k := k) (b := 3)
    have : w ≤ 4 := by omega
    have e2 : isNumD (.int (k : Int)) 3 = decide (k < 3) := e
    simp [isThD, encT, okT, isStrD, e2, this, (by decide +kernel : ¬ ("cell" : Str) = "num"), (by decide +kernel : ¬ ("par" : Str) = "num"), (by decide +kernel : ¬ ("own" : Str) = "num")]
  | .own k, n + 1, w, h => by
    have : w ≤ 4 := by omega
    simp [isThD, encT, okT, isStrD, isNumD_nat, this, (by decide +kernel : ¬ ("cell" : Str) = "own"), (by decide +kernel : ¬ ("par" : Str) = "own"), (by decide +kernel : ¬ ("num" : Str) = "own")]
  | .par k, n + 1, w, h => by
    have : w ≤ 4 := by omega
    simp [isThD, encT, okT, isStrD, isNumD_nat, this, (by decide +kernel : ¬ ("cell" : Str) = "par"), (by decide +kernel : ¬ ("own" : Str) = "par"), (by decide +kernel : ¬ ("num" : Str) = "par")]
  | .cell t, n + 1, w, h => by
    have : w ≤ 4 := by omega
    have ih := isThD_enc (ps := ps) (os := os) t n (w + 1) (by omega)
    simp [isThD, encT, okT, isStrD, ih, this, (by decide +kernel : ¬ ("par" : Str) = "cell"), (by decide +kernel : ¬ ("own" : Str) = "cell"), (by decide +kernel : ¬ ("num" : Str) = "cell")]
  | .sum a b, n + 1, w, h => by
    have : w ≤ 4 := by omega
    have ih := isThD_enc (ps := ps) (os := os) a n (w + 1) (by omega)
    have ih2 := isThD_enc (ps := ps) (os := os) b n (w + 1) (by omega)
    simp [isThD, encT, okT, isStrD, ih, ih2, this]
theorem tup_cases (d : PyData) : (∃ h a, d = .tuple [h, a]) ∨ (∃ h a b, d = .tuple [h, a, b]) ∨ (∃ h a b c, d = .tuple [h, a, b, c]) ∨ ((∀ (ps os n : Nat), isThD ps os n d = false) ∧ ∀ (sh : List (Nat × Nat)) (i n : Nat), isStD sh i n d = false) := by
  cases d with
  | tuple ds =>
    match ds with
    | [] => exact .inr (.inr (.inr ⟨fun _ _ n => by cases n <;> simp [isThD], fun _ _ n => by cases n <;> simp [isStD]⟩))
    | [_] => exact .inr (.inr (.inr ⟨fun _ _ n => by cases n <;> simp [isThD], fun _ _ n => by cases n <;> simp [isStD]⟩))
    | [h, a] => exact .inl ⟨h, a, rfl⟩
    | [h, a, b] => exact .inr (.inl ⟨h, a, b, rfl⟩)
    | [h, a, b, c] => exact .inr (.inr (.inl ⟨h, a, b, c, rfl⟩))
    | _ :: _ :: _ :: _ :: _ :: _ => exact .inr (.inr (.inr ⟨fun _ _ n => by cases n <;> simp [isThD], fun _ _ n => by cases n <;> simp [isStD]⟩))
  | _ => exact .inr (.inr (.inr ⟨fun _ _ n => by cases n <;> simp [isThD], fun _ _ n => by cases n <;> simp [isStD]⟩))
theorem isThD_inv {ps os : Nat} : ∀ (n : Nat) (d : PyData), isThD ps os n d = true → ∃ t : Th, d = encT t
  | 0, d, h => by simp [isThD] at h
  | n + 1, d, h => by
    rcases tup_cases d with ⟨hh, a, rfl⟩ | ⟨hh, a, b, rfl⟩ | ⟨hh, a, b, c, rfl⟩ | ⟨hn, _⟩
    · simp only [isThD, Bool.or_eq_true, Bool.and_eq_true] at h
      rcases h with ⟨h1, h2⟩ | ⟨h1, h2⟩ | ⟨h1, h2⟩ | ⟨h1, h2⟩
      · obtain ⟨t, rfl⟩ := isThD_inv n _ h2
        rw [isStrD_iff.mp h1]
        exact ⟨.cell t, rfl⟩
      · obtain ⟨k, rfl, _⟩ := isNumD_inv h2
        rw [isStrD_iff.mp h1]
        exact ⟨.num k, rfl⟩
      · obtain ⟨k, rfl, _⟩ := isNumD_inv h2
        rw [isStrD_iff.mp h1]
        exact ⟨.par k, rfl⟩
      · obtain ⟨k, rfl, _⟩ := isNumD_inv h2
        rw [isStrD_iff.mp h1]
        exact ⟨.own k, rfl⟩
    · simp only [isThD, Bool.and_eq_true] at h
      obtain ⟨h1, h2, h3⟩ := h
      obtain ⟨t, rfl⟩ := isThD_inv n _ h2
      obtain ⟨u, rfl⟩ := isThD_inv n _ h3
      rw [isStrD_iff.mp h1]
      exact ⟨.sum t u, rfl⟩
    · simp [isThD] at h
    · rw [hn] at h
      cases h
theorem isPlD_enc (t : Th) : isPlD (encT t) = isPlace t := by
  cases t <;> simp only [isPlD, encT, isPlace, isStrD] <;> decide +kernel
theorem ths_enc {ps os n w : Nat} (h : n + w = 5) : ∀ ts : List Th, (ts.map encT).all (isThD ps os n) = ts.all fun t => okT ps os t w
  | [] => rfl
  | t :: r => by simp only [List.map_cons, List.all_cons, isThD_enc t n w h, ths_enc h r]
theorem ths_inv {ps os n : Nat} : ∀ ds : List PyData, ds.all (isThD ps os n) = true → ∃ ts : List Th, ds = ts.map encT
  | [], _ => ⟨[], rfl⟩
  | d :: r, h => by
    simp only [List.all_cons, Bool.and_eq_true] at h
    obtain ⟨t, rfl⟩ := isThD_inv _ _ h.1
    obtain ⟨ts, rfl⟩ := ths_inv r h.2
    exact ⟨t :: ts, rfl⟩
theorem callD_enc {sh : List (Nat × Nat)} {at_ : Nat} (c : Nat) (ts : List Th) : callD sh at_ (.int (c : Int)) (.tuple (ts.map encT)) = (decide (c < sh.length) && (decide (at_ < c) && (decide (ts.length = shP sh c) && ts.all fun t => okT (shP sh at_) (shO sh at_) t 0))) := by
  simp only [callD, ths_enc (n := 5) (w := 0) rfl, List.length_map, Int.toNat_natCast]
  simp
theorem w_ne {a b : Str} (h : a ≠ b) : isStrD a (.str b) = false := by simp [isStrD, h]
theorem w_eq {a : Str} : isStrD a (.str a) = true := by simp [isStrD]
mutual
theorem isStD_enc {sh : List (Nat × Nat)} {at_ : Nat} : ∀ (s : Stm) (n w : Nat), n + w = 5 → isStD sh at_ n (encS s) = okS sh at_ s w
  | s, 0, w, h => by
    have : w = 5 := by omega
    subst this
    cases s <;> simp [isStD, okS]
  | .say t, n + 1, w, h => by
    have : w ≤ 4 := by omega
    simp [isStD, encS, okS, w_eq, isThD_enc t 5 0 rfl, this]
  | .set p t, n + 1, w, h => by
    have h4 : w ≤ 4 := by omega
    have e : isStrD "call" (.str "set") = false := w_ne (by decide +kernel)
    simp only [isStD, encS, okS, w_eq, e, isThD_enc p 5 0 rfl, isThD_enc t 5 0 rfl, isPlD_enc, h4, decide_true, Bool.true_and, Bool.false_and, Bool.or_false]
    cases isPlace p <;> simp
  | .call c ts, n + 1, w, h => by
    have h4 : w ≤ 4 := by omega
    have e : isStrD "set" (.str "call") = false := w_ne (by decide +kernel)
    simp only [isStD, encS, okS, w_eq, e, callD_enc, h4, decide_true, Bool.true_and, Bool.false_and, Bool.false_or]
  | .ite t a b, n + 1, w, h => by
    have h4 : w ≤ 4 := by omega
    simp only [isStD, encS, okS, w_eq, bdAll, isThD_enc t 5 0 rfl, isBdD_enc a n (w + 1) (by omega), isBdD_enc b n (w + 1) (by omega), h4, decide_true, Bool.true_and]
theorem isBdD_enc {sh : List (Nat × Nat)} {at_ : Nat} : ∀ (b : List Stm) (n w : Nat), n + w = 5 → (encB b).all (isStD sh at_ n) = okB sh at_ b w
  | [], n, w, h => by simp [encB, okB]
  | s :: r, n, w, h => by simp only [encB, okB, List.all_cons, isStD_enc s n w h, isBdD_enc r n w h]
end
theorem isStD_inv {sh : List (Nat × Nat)} {at_ : Nat} : ∀ (n : Nat) (d : PyData), isStD sh at_ n d = true → ∃ s : Stm, d = encS s
  | 0, d, h => by simp [isStD] at h
  | n + 1, d, h => by
    have bd : ∀ x : PyData, bdAll (isStD sh at_ n) x = true → ∃ b : List Stm, x = .tuple (encB b) := fun x hx => by
      cases x <;> simp only [bdAll] at hx <;> try (cases hx; done)
      rename_i xs
      suffices ∀ xs : List PyData, xs.all (isStD sh at_ n) = true → ∃ b, xs = encB b by
        obtain ⟨b, rfl⟩ := this xs hx
        exact ⟨b, rfl⟩
      intro xs
      induction xs with
      | nil => exact fun _ => ⟨[], rfl⟩
      | cons y r ih =>
        intro hx
        simp only [List.all_cons, Bool.and_eq_true] at hx
        obtain ⟨s, rfl⟩ := isStD_inv n y hx.1
        obtain ⟨b, rfl⟩ := ih hx.2
        exact ⟨s :: b, rfl⟩
    rcases tup_cases d with ⟨hh, a, rfl⟩ | ⟨hh, a, b, rfl⟩ | ⟨hh, a, b, c, rfl⟩ | ⟨_, hn⟩
    · simp only [isStD, Bool.and_eq_true] at h
      obtain ⟨t, rfl⟩ := isThD_inv _ _ h.2
      rw [isStrD_iff.mp h.1]
      exact ⟨.say t, rfl⟩
    · simp only [isStD, Bool.or_eq_true, Bool.and_eq_true] at h
      rcases h with ⟨h1, _, h2, h3⟩ | ⟨h1, h2⟩
      · obtain ⟨t, rfl⟩ := isThD_inv _ _ h2
        obtain ⟨u, rfl⟩ := isThD_inv _ _ h3
        rw [isStrD_iff.mp h1]
        exact ⟨.set t u, rfl⟩
      · rw [isStrD_iff.mp h1]
        unfold callD at h2
        split at h2
        · rename_i i ts
          simp only [Bool.and_eq_true, decide_eq_true_eq] at h2
          obtain ⟨g1, _, _, _, g2⟩ := h2
          obtain ⟨us, rfl⟩ := ths_inv _ g2
          refine ⟨.call i.toNat us, ?_⟩
          simp only [encS, Int.toNat_of_nonneg g1]
        · cases h2
    · simp only [isStD, Bool.and_eq_true] at h
      obtain ⟨h1, h2, h3, h4⟩ := h
      obtain ⟨t, rfl⟩ := isThD_inv _ _ h2
      obtain ⟨a, rfl⟩ := bd _ h3
      obtain ⟨b, rfl⟩ := bd _ h4
      rw [isStrD_iff.mp h1]
      exact ⟨.ite t a b, by simp only [encS]⟩
    · rw [hn] at h
      cases h
theorem isBdD_inv {sh : List (Nat × Nat)} {at_ n : Nat} {d : PyData} (h : bdAll (isStD sh at_ n) d = true) : ∃ b : List Stm, d = .tuple (encB b) := by
  cases d <;> simp only [bdAll] at h <;> try (cases h; done)
  rename_i xs
  suffices ∀ xs : List PyData, xs.all (isStD sh at_ n) = true → ∃ b, xs = encB b by
    obtain ⟨b, rfl⟩ := this xs h
    exact ⟨b, rfl⟩
  intro xs
  induction xs with
  | nil => exact fun _ => ⟨[], rfl⟩
  | cons y r ih =>
    intro hx
    simp only [List.all_cons, Bool.and_eq_true] at hx
    obtain ⟨s, rfl⟩ := isStD_inv n y hx.1
    obtain ⟨b, rfl⟩ := ih hx.2
    exact ⟨s :: b, rfl⟩
/-! lists within are not long -/
mutual
def smD : PyData → Bool
  | .tuple ds => decide (ds.length ≤ 20000) && smDs ds
  | _ => true
def smDs : List PyData → Bool
  | [] => true
  | d :: r => smD d && smDs r
end
theorem smDs_mem : ∀ {ds : List PyData} {d : PyData}, smDs ds = true → d ∈ ds → smD d = true
  | x :: r, d, h, hm => by
    simp only [smDs, Bool.and_eq_true] at h
    rcases List.mem_cons.mp hm with e | hm
    · rw [e]; exact h.1
    · exact smDs_mem h.2 hm
theorem smDs_of : ∀ {ds : List PyData}, (∀ d ∈ ds, smD d = true) → smDs ds = true
  | [], _ => rfl
  | x :: r, h => by
    simp only [smDs, Bool.and_eq_true]
    exact ⟨h x List.mem_cons_self, smDs_of fun d hd => h d (List.mem_cons_of_mem _ hd)⟩
theorem smD_T : ∀ t : Th, smD (encT t) = true
  | .num _ => by simp [encT, smD, smDs]
  | .own _ => by simp [encT, smD, smDs]
  | .par _ => by simp [encT, smD, smDs]
  | .cell t => by simp [encT, smD, smDs, smD_T t]
  | .sum a b => by simp [encT, smD, smDs, smD_T a, smD_T b]
mutual
theorem smD_S : ∀ s : Stm, smS s = true → smD (encS s) = true
  | .set p t, _ => by simp [encS, smD, smDs, smD_T]
  | .say t, _ => by simp [encS, smD, smDs, smD_T]
  | .call c ts, h => by
    simp only [smS, decide_eq_true_eq] at h
    have : smDs (ts.map encT) = true := smDs_of fun d hd => by
      obtain ⟨t, _, rfl⟩ := List.mem_map.mp hd
      exact smD_T t
    simp [encS, smD, smDs, this, h]
  | .ite t a b, h => by
    simp only [smS, Bool.and_eq_true, decide_eq_true_eq] at h
    have h1 := smD_B a h.2.1
    have h2 := smD_B b h.2.2
    simp [encS, smD, smDs, smD_T, h1, h2, encB_length, h.1.1, h.1.2]
theorem smD_B : ∀ b : List Stm, smB b = true → smDs (encB b) = true
  | [], _ => by simp [encB, smDs]
  | s :: r, h => by
    simp only [smB, Bool.and_eq_true] at h
    simp [encB, smDs, smD_S s h.1, smD_B r h.2]
end
end Hw

set_option maxRecDepth 100000
set_option maxHeartbeats 4000000
/-! LI2: the law's own look at things -/
namespace Hw
open PySem PySem.Spec PyProof.Rows L2 Evl
local macro_rules | `(tactic| walk_at "dd") => `(tactic| first | rfl | decide | (simp; done) | omega)
local macro_rules | `(tactic| walk_at "td") => `(tactic| first | assumption | exact Td.int _ | exact Td.bl _ | exact Td.str _ | exact Td.non | exact Td.tup (by assumption) (by assumption))
local macro_rules | `(tactic| walk_at "ev") => `(tactic| first
  | exact ed_ci | exact ed_cs | exact ed_cb | exact ed_cn
  | (apply ed_cg; assumption)
  | (apply ed_var; (rfl); (walk_at "td"))
  | (apply ed_ixT; (walk_at "ev"); (walk_at "ev"); (first | rfl | assumption))
  | (apply ed_rowI; (rfl); (assumption); (walk_at "ev"); (rfl))
  | (apply ed_ixL; (apply EvDL.rd; walk_at "edl"); (walk_at "ev"); (rfl))
  | (apply ed_intb; (walk_at "ev"))
  | (apply ed_len; walk_at "ev")
  | (apply ed_lenV; (apply ev_rowR; (rfl); (assumption); (walk_at "ev"); (rfl)); (assumption))
  | (apply ed_Ii; (walk_at "ev"); (walk_at "ev"); (walk_at "cc"))
  | (apply ed_isi; (walk_at "ev"); (rfl))
  | (apply ed_I0i; (walk_at "ev"); (walk_at "ev"))
  | (apply ed_I0b; (walk_at "ev"); (walk_at "ev"))
  | (apply ed_eqi; (walk_at "ev"); (walk_at "ev"))
  | (apply ed_nei; (walk_at "ev"); (walk_at "ev"))
  | (apply ed_andF; walk_at "ev")
  | (apply ed_andV; (walk_at "ev"); (intro _; walk_at "ev"))
  | (apply ed_orT; walk_at "ev")
  | (apply ed_orV; (walk_at "ev"); (intro _; walk_at "ev"))
  | (apply ed_notT; walk_at "ev")
  | (apply ed_notF; walk_at "ev")
  | (apply ed_notV; walk_at "ev")
  | (apply ed_chain; (walk_at "ev"); (walk_at "ev"); (intro _; walk_at "ev"))
  | (apply ed_eqS; (walk_at "ev"); (walk_at "ev"); (walk_at "bb"); (walk_at "bb"))
  | (apply ed_neS; (walk_at "ev"); (walk_at "ev"); (walk_at "bb"); (walk_at "bb"))
  | (apply ed_inT; (walk_at "ev"); (walk_at "ev"); (rfl); (rfl))
  | (apply ed_niT; (walk_at "ev"); (walk_at "ev"); (rfl); (rfl))
  | (apply ed_tup; (walk_at "eva"); (walk_at "bb"))
  | (apply ed_sl; (walk_at "ev"); (walk_at "evo"); (walk_at "evo"))
  | (apply ed_eqN; (apply EvDL.rd; walk_at "edl"); (walk_at "edl"); (walk_at "bb"))
  | (apply ed_neN; (apply EvDL.rd; walk_at "edl"); (walk_at "edl"); (walk_at "bb"))
  | (apply ed_ixL; (apply edr_var; (rfl); (assumption); (assumption)); (walk_at "ev"); (first | rfl | assumption))
  | (apply ed_lenL; (apply edr_var; (rfl); (assumption); (assumption)))
  | (apply ed_call; (walk_at "eva"); (walk_at "post")))
local macro_rules | `(tactic| walk_at "edl") => `(tactic| first
  | assumption
  | (apply edl_lst; (walk_at "eva"); (walk_at "bb")))
local macro_rules | `(tactic| walk_at "eva") => `(tactic| first
  | exact eda_nil
  | (apply eda_cons; (walk_at "ev"); (walk_at "eva")))
local macro_rules | `(tactic| walk_at "evo") => `(tactic| first
  | exact eok_none
  | (apply eok_some; walk_at "ev"))
local macro_rules | `(tactic| walk_at "bb") => `(tactic| first | rfl | assumption | (simp; done) | (simp; omega) | decide +kernel)
local macro_rules | `(tactic| walk_at "et") => `(tactic| first
  | exact tk_yes
  | (apply tk_andF; walk_at "et")
  | (apply tk_and; (walk_at "et"); (intro _; walk_at "et"))
  | (apply tk_orT; walk_at "et")
  | (apply tk_or; (walk_at "et"); (intro _; walk_at "et"))
  | (apply tk_notT; walk_at "et")
  | (apply tk_notF; walk_at "et")
  | (apply tk_not; walk_at "et")
  | (apply tk_v; walk_at "ev")
  | (apply tk_vB; walk_at "ev"))
local macro_rules | `(tactic| walk_at "if") => `(tactic| first
  | (apply pst_whenF; (walk_at "et"); (walk_at "bb"))
  | (apply pst_whenT; (walk_at "et"); (walk_at "bb")))
local macro_rules | `(tactic| walk_at "post") => `(tactic| first | assumption | exact ⟨_, _, rfl, rfl⟩ | exact ⟨_, _, _, _, rfl, by omega, by omega, rfl⟩ | exact ⟨_, _, _, 0, rfl, by omega, by omega, rfl⟩)
local macro_rules | `(tactic| walk_at "cc") => `(tactic| first | assumption | decide | omega | (refine ⟨?_, ?_⟩ <;> first | decide | omega) | (exact Or.inl (by constructor <;> omega)))

/-! in, over a tuple of texts, of any data -/
def rInTD (K : PySem.W.Frag) : R2 := fun x y H Q => ∃ d ds, Dp K H x d ∧ Dp K H y (.tuple ds) ∧ d.canLay0 = true ∧ PyData.canLayAll0 ds = true ∧ PyData.depthAll ds ≤ 64 ∧ Q (.bl (ds.any fun z => PyData.eqv z d)) H
def rNiTD (K : PySem.W.Frag) : R2 := fun x y H Q => ∃ d ds, Dp K H x d ∧ Dp K H y (.tuple ds) ∧ d.canLay0 = true ∧ PyData.canLayAll0 ds = true ∧ PyData.depthAll ds ≤ 64 ∧ Q (.bl (!ds.any fun z => PyData.eqv z d)) H
section
variable {X : Cx} {K : PySem.W.Frag}
theorem op_inTD (hu : X.A.units + 65 < cLine) : OpR X (compareOp .In) (rInTD X.K) := by
  intro pins s σ H x y v u Q I rx ry h
  obtain ⟨d, ds, hd, he, sd, se, sm, q⟩ := h
  obtain ⟨as, r1⟩ := Dp.reads I d x v hd rx
  obtain ⟨bs, r2⟩ := Dp.reads I (.tuple ds) y u he ry
  exact SeqAt.in_tuple_reads r2 r1 se sd (by have := Nat.min_le_left (PyData.depthAll ds) d.depth; omega) ⟨.bl _, H, I, rfl, q⟩
theorem op_niTD (hu : X.A.units + 65 < cLine) : OpR X (compareOp .NotIn) (rNiTD X.K) := by
  intro pins s σ H x y v u Q I rx ry h
  obtain ⟨d, ds, hd, he, sd, se, sm, q⟩ := h
  obtain ⟨as, r1⟩ := Dp.reads I d x v hd rx
  obtain ⟨bs, r2⟩ := Dp.reads I (.tuple ds) y u he ry
  exact SeqAt.notIn_tuple_reads r2 r1 se sd (by have := Nat.min_le_left (PyData.depthAll ds) d.depth; omega) ⟨.bl _, H, I, rfl, q⟩
variable (K)
theorem kop_inTD (hu : X.A.units + 65 < cLine) (h : X.K = K := by rfl) : OpR X (compareOp .In) (rInTD K) := by subst h; exact op_inTD hu
theorem kop_niTD (hu : X.A.units + 65 < cLine) (h : X.K = K := by rfl) : OpR X (compareOp .NotIn) (rNiTD K) := by subst h; exact op_niTD hu
end
def strsD (zs : List Str) : List PyData := zs.map PyData.str
theorem strsD_depth : ∀ zs : List Str, PyData.depthAll (strsD zs) = 0
  | [] => rfl
  | z :: r => by
    have := strsD_depth r
    simp only [strsD, List.map_cons, PyData.depthAll, PyData.depth] at this ⊢
    omega
theorem any_strs (d : PyData) : ∀ zs : List Str, ((strsD zs).any fun z => PyData.eqv z d) = zs.any fun z => isStrD z d
  | [] => rfl
  | z :: r => by
    have := any_strs d r
    simp only [strsD, List.map_cons, List.any_cons, eqv_strL] at this ⊢
    rw [this]
section
variable {K : PySem.W.Frag} {σ : L2.St} {H H' : Hp} {ta tb te : TE} {tr : TA} {d : PyData} {a b : Bool}
theorem eda_strs {zs : List Str} (h : EvDA K tr σ H (strsD zs)) : EvDA K tr σ H (strsD zs) := h
theorem ed_inTD (zs : List Str) (ha : EvD K ta σ H d) (hb : EvDA K tr σ H (strsD zs)) (sd : d.canLay0 = true) (sz : PyData.canLayAll0 (strsD zs) = true) (hl : zs.length ≤ 100) : EvD K (tOp (rInTD K) ta (tTup tr)) σ H (.bool (zs.any fun z => isStrD z d)) := fun H1 e Q q =>
  ha H1 e _ fun v H2 e2 t2 => ed_tup hb (by simp only [strsD, List.length_map]; omega) H2 (e.trans e2) _ fun w H3 e3 t3 => ⟨d, strsD zs, (t2.ex e3).dp, t3.dp, sd, sz, by rw [strsD_depth]; omega, by rw [any_strs]; exact q _ H3 (e2.trans e3) (.bl _)⟩
theorem ed_niTD (zs : List Str) (ha : EvD K ta σ H d) (hb : EvDA K tr σ H (strsD zs)) (sd : d.canLay0 = true) (sz : PyData.canLayAll0 (strsD zs) = true) (hl : zs.length ≤ 100) : EvD K (tOp (rNiTD K) ta (tTup tr)) σ H (.bool (!zs.any fun z => isStrD z d)) := fun H1 e Q q =>
  ha H1 e _ fun v H2 e2 t2 => ed_tup hb (by simp only [strsD, List.length_map]; omega) H2 (e.trans e2) _ fun w H3 e3 t3 => ⟨d, strsD zs, (t2.ex e3).dp, t3.dp, sd, sz, by rw [strsD_depth]; omega, by rw [any_strs]; exact q _ H3 (e2.trans e3) (.bl _)⟩
theorem ed_eqT {s : Str} (ha : EvD K ta σ H d) (sd : d.canLay0 = true) (ss : (PyData.str s).canLay0 = true) : EvD K (tOp (rEqM K) ta (tC (.str s))) σ H (.bool (isStrD s d)) := ed_is (ed_eqS ha ed_cs sd ss) (by rw [eqv_strR])
/-- a written dict's value, at once -/
theorem ev_dgetD {trs : List (TE × TE)} {s : Str} {v : V} (kvs : List (Key × V)) (h : EvPs trs σ H (kvs.map fun kv => (kV kv.1, kv.2))) (hl : kvs.length ≤ 15) (hk : EvD K te σ H (.str s)) (hv : valV (mergeK [] kvs) (Sum.inr s) = some v) : Ev (tDGet (tDisp trs) te) σ H v := fun H1 a Q q => by
  intro p hp
  refine h _ (a.trans (Ex.new hp)) _ fun H2 e2 => ⟨e2 p _ upd_same, kvs, rfl, hl, ?_⟩
  have hp0 := fresh_back a hp
  have e12 : Ex H1 (upd H2 p (.dK (mergeK [] kvs))) := Ex.mut ((Ex.new hp).trans e2) hp
  refine hk.sv _ (a.trans e12) _ fun H3 e3 => ⟨p, v, rfl, ?_, q H3 (e12.trans e3)⟩
  have := DGet.k (k := Sum.inr s) (e3 p _ upd_same)
  rw [hv] at this
  exact this
end
theorem flt_id (f : PyData → Bool) (L : List PyData) : ((L.filter fun y => !f y).map fun y => y).isEmpty = L.all f := by
  rw [List.map_id']
  exact filter_not_isEmpty L
theorem layAll_flt {p : PyData → Bool} {L : List PyData} (h : PyData.canLayAll0 L = true) : PyData.canLayAll0 ((L.filter p).map fun y => y) = true := by
  rw [List.map_id']
  exact layAll_filter h
theorem isThD_len {ps os n : Nat} {ds : List PyData} (h2 : ds.length ≠ 2) (h3 : ds.length ≠ 3) : isThD ps os n (.tuple ds) = false := by
  match n, ds with
  | 0, _ => simp [isThD]
  | n + 1, [] => simp [isThD]
  | n + 1, [_] => simp [isThD]
  | n + 1, [_, _] => simp at h2
  | n + 1, [_, _, _] => simp at h3
  | n + 1, _ :: _ :: _ :: _ :: _ => simp [isThD]
theorem two_or_three {α : Type} {ds : List α} (h : ds.length = 2 ∨ ds.length = 3) : (∃ h a, ds = [h, a]) ∨ ∃ h a b, ds = [h, a, b] := by
  match ds, h with
  | [h, a], _ => exact .inl ⟨h, a, rfl⟩
  | [h, a, b], _ => exact .inr ⟨h, a, b, rfl⟩
  | [], h => simp at h
  | [_], h => simp at h
  | _ :: _ :: _ :: _ :: _, h =>
    simp only [List.length_cons] at h
    omega
theorem five_words (h : PyData) : h = .str "num" ∨ h = .str "own" ∨ h = .str "par" ∨ h = .str "cell" ∨ h = .str "sum" ∨ (isStrD "num" h = false ∧ isStrD "own" h = false ∧ isStrD "par" h = false ∧ isStrD "cell" h = false ∧ isStrD "sum" h = false) := by
  by_cases h1 : h = .str "num"
  · exact .inl h1
  by_cases h2 : h = .str "own"
  · exact .inr (.inl h2)
  by_cases h3 : h = .str "par"
  · exact .inr (.inr (.inl h3))
  by_cases h4 : h = .str "cell"
  · exact .inr (.inr (.inr (.inl h4)))
  by_cases h5 : h = .str "sum"
  · exact .inr (.inr (.inr (.inr (.inl h5))))
  have no : ∀ {s : Str}, ¬ h = .str s → isStrD s h = false := fun {s} e => by
    cases hh : isStrD s h with
    | false => rfl
    | true => exact absurd (isStrD_iff.mp hh) e
  exact .inr (.inr (.inr (.inr (.inr ⟨no h1, no h2, no h3, no h4, no h5⟩))))
def pLTh (n : Nat) (ds : List PyData) (d : PyData) : Prop := ∃ (x : PyData) (ps os w : Nat), ds = [x, .tuple [.int (ps : Int), .int (os : Int)], .int (w : Int)] ∧ w + n = 5 ∧ x.canLay0 = true ∧ d = .bool (isThD ps os n x)
section
variable {P : Program} {w : World} {K : PySem.W.Frag} {mg : Str → Option Value} {base : Heap} (T : Tx K mg)
include T
theorem ok_lnumber : Fn__law_is_number T P w base CX0 1 (spF K pNumber) := by
  refine T.F__law_is_number.ok sc__law_is_number (spF_len fun ds d h => by obtain ⟨x, b, rfl, _⟩ := h; rfl) fun cdv A outer s H vs Q E hr h => ?_
  obtain ⟨ds, d, ht, ⟨x, b, rfl, rfl⟩, k⟩ := h
  obtain _ | ⟨t1, _ | ⟨t2, _ | _⟩⟩ := ht
  refine ⟨_, (pss_one (ps_ret (pe_and (pe_callB (kc_isi K) rfl T.b_isinstance (by decide +kernel) (pa_cons (pv 0) (pa_cons (pe_bltn (v := .ty "int") rfl T.b_int (by decide +kernel) rfl) pa_nil))) (pe_and (pe_not (pe_callB (kc_isi K) rfl T.b_isinstance (by decide +kernel) (pa_cons (pv 0) (pa_cons (pe_bltn (v := .ty "bool") rfl T.b_bool (by decide +kernel) rfl) pa_nil)))) (pe_one (pe_chain op_le op_lt pe_int (pv 0) (pv 1))))))), ?_⟩
  cases t2
  cases x with
  | list _ => cases t1
  | dict _ => cases t1
  | _ =>
    (try cases t1)
    refine sd_ret ?_ k
    apply ed_is
    · walk_at "ev"
    · first | rfl | simp [isNumD]
theorem lth_step {n : Nat} (spI : Sp) (hI : 0 < n → spI = spF K (pLTh (n - 1))) (GN : Fn__law_is_number T P w base CX0 1 (spF K pNumber)) (GI : Fn__law_is_thing T P w base CX0 (n + 1) spI) : Fn__law_is_thing T P w base CX0 (n + 2) (spF K (pLTh n)) := by
  have G__law_is_number := GN
  have G__law_is_thing := GI
  refine T.F__law_is_thing.ok sc__law_is_thing (spF_len fun ds d h => by obtain ⟨_, _, _, _, rfl, _⟩ := h; rfl) fun cdv A outer s H vs Q E hr h => ?_
  obtain ⟨ds, d, ht, ⟨x, ps, os, w, rfl, hw, hx, rfl⟩, k⟩ := h
  obtain _ | ⟨t1, _ | ⟨t2, _ | ⟨t3, _ | _⟩⟩⟩ := ht
  refine ⟨_, (pss_cons (ps_if (PW.pt (pw_or (pt_not (pt_val (pe_callB (kc_isi K) rfl T.b_isinstance (by decide +kernel) (pa_cons (pv 0) (pa_cons (pe_bltn (v := .ty "tuple") rfl T.b_tuple (by decide +kernel) rfl) pa_nil))))) (pw_or (pt_cmpR op_gt (pv 2) pe_int (nomark _)) (pw_or1 (pt_cmpR (kop_ni K) (pe_callB (kc_len K) rfl T.b_len PySem.boot_len (pa_cons (pv 0) pa_nil)) (pe_tup (pa_cons pe_int (pa_cons pe_int pa_nil))) rfl)))))
    (pss_one (ps_ret pe_bl))
    pss_nil)
  (pss_cons (ps_if (PW.pt (pw_or (pt_cmpR (kop_niTD K (units65 hr)) (pe_ix (kix_tup K) (pv 0) pe_int (fun _ _ => rfl)) (pe_tup (pa_cons pe_str (pa_cons pe_str (pa_cons pe_str (pa_cons pe_str (pa_cons pe_str pa_nil)))))) rfl) (pw_or1 (pt_cmpR (kop_ne K hr.units) (pe_cmpR (kop_eq K hr.units) (pe_ix (kix_tup K) (pv 0) pe_int (fun _ _ => rfl)) pe_str (nomark _)) (pe_cmpR op_eq (pe_callB (kc_len K) rfl T.b_len PySem.boot_len (pa_cons (pv 0) pa_nil)) pe_int (nomark _)) (nomark _)))))
    (pss_one (ps_ret pe_bl))
    pss_nil)
  (pss_cons (ps_if (pt_cmpR (kop_inTD K (units65 hr)) (pe_ix (kix_tup K) (pv 0) pe_int (fun _ _ => rfl)) (pe_tup (pa_cons pe_str (pa_cons pe_str pa_nil))) rfl)
    (pss_one (ps_ret (pe_cmpR (kop_eq K hr.units) (pe_lc (own := [("_law_part", 3)]) (g := gName 3) (tt := _) rfl sc__law_is_thing.nd (kpi_tup K (pe_slice (ksl_tup K) (pv 0) (po_some pe_int) po_none)) (blkOk_by (N := ["_law_thing_here", "_law_sizes", "_law_within", "_law_part"]) (sc := defScope s__law_is_thing) (by decide +kernel)) (fun _ _ _ _ _ => (pg_name (i := 3) sc__law_is_thing.nd rfl (Or.inl rfl))) (fun _ _ _ _ _ => (pts_one (pt_not (pt_val (pe_call G__law_is_thing (hr.mono (by omega)) (by rfl) T.g__law_is_thing T.k__law_is_thing T.bd__law_is_thing .nil pass0 (pa_cons (pv 3) (pa_cons (pv 1) (pa_cons (pe_op op_add (pv 2) pe_int) pa_nil)))))))) (fun _ _ _ _ _ => (pv 3))) (pe_lst pa_nil) (nomark _))))
    pss_nil)
  (pss_one (ps_ret (pe_call G__law_is_number (hr.mono (by omega)) (by rfl) T.g__law_is_number T.k__law_is_number T.bd__law_is_number .nil pass0 (pa_cons (pe_ix (kix_tup K) (pv 0) pe_int (fun _ _ => rfl)) (pa_cons (pe_dget (hu_of hr) (pe_disp (pps_cons pe_str pe_int (pps_cons pe_str (pe_ix (kix_tup K) (pv 1) pe_int (fun _ _ => rfl)) (pps_cons pe_str (pe_ix (kix_tup K) (pv 1) pe_int (fun _ _ => rfl)) pps_nil))) (by rfl) (by rfl) (fun z => by cases z) (by decide)) (pe_ix (kix_tup K) (pv 0) pe_int (fun _ _ => rfl)) (fun _ _ => rfl)) pa_nil)))))))), ?_⟩
  cases t3
  refine Pst.go (K := K) ?_
  cases x with
  | list _ => cases t1
  | dict _ => cases t1
  | tuple ds =>
    refine pst_when (tk_or (tk_notT (tk_vB (ed_isi (b := true) (ed_var rfl t1) (by rfl)))) fun _ => tk_or (tk_v (ed_I0b (ed_var rfl (.int _)) ed_ci)) fun _ => tk_v (ed_niT (ed_len (ed_var rfl t1)) (ed_tup (eda_cons ed_ci (eda_cons ed_ci eda_nil)) (by decide)) rfl rfl)) (fun hb => ?_) (fun hb => ?_)
    · refine pst_ret ?_ k
      rw [show isThD ps os n (.tuple ds) = false from ?_]
      · exact ed_cb
      · simp [PyData.eqv] at hb
        rcases hb with hb | hb
        · have : n = 0 := by omega
          subst this
          simp [isThD]
        · exact isThD_len (by omega) (by omega)
    · simp [PyData.eqv] at hb
      obtain ⟨h4, hlen⟩ := hb
      obtain ⟨m, rfl⟩ : ∃ m, n = m + 1 := ⟨n - 1, by omega⟩
      have hsp := hI (by omega)
      subst hsp
      simp only [Nat.add_sub_cancel] at *
      obtain ⟨h, a, rfl⟩ | ⟨h, a, b, rfl⟩ := two_or_three (ds := ds) (by omega)
      ·
        simp only [PyData.canLay0, PyData.canLayAll0, Bool.and_eq_true, and_true] at hx
        obtain ⟨hh, ha⟩ := hx
        have lay : ∀ y ∈ [a], y.canLay0 = true := by simp [ha]
        have lays : PyData.canLayAll0 [a] = true := by simp [PyData.canLayAll0, ha]
        rcases five_words h with rfl | rfl | rfl | rfl | rfl | ⟨f1, f2, f3, f4, f5⟩
        · skip
          refine pst_whenF (tk_is (tk_or (tk_v (ed_niTD ["num", "own", "par", "cell", "sum"] (ed_ixT (i := 0) (ed_var rfl t1) ed_ci atI_zero) (eda_cons ed_cs (eda_cons ed_cs (eda_cons ed_cs (eda_cons ed_cs (eda_cons ed_cs eda_nil))))) hh (by decide +kernel) (by decide))) fun _ => tk_v (ed_neB (ed_eqT (ed_ixT (i := 0) (ed_var rfl t1) ed_ci atI_zero) hh (by decide +kernel)) (ed_eqi (ed_len (ed_var rfl t1)) ed_ci))) (by first | (simp; done) | (simp [f1, f2, f3, f4, f5]; done))) rfl ?_
          refine pst_whenF (tk_is (tk_v (ed_inTD ["cell", "sum"] (ed_ixT (i := 0) (ed_var rfl t1) ed_ci atI_zero) (eda_cons ed_cs (eda_cons ed_cs eda_nil)) hh (by decide +kernel) (by decide))) (by simp)) rfl ?_
          refine pst_ret (ed_is (ed_call (eda_cons (ed_ixT (i := 1) (ed_var rfl t1) ed_ci rfl) (eda_cons (ed_i (ev_dgetD (K := K) (s := "num") [(Sum.inr "num", .int 3), (Sum.inr "par", .int (ps : Int)), (Sum.inr "own", .int (os : Int))] (eps_cons ev_c ev_c (eps_cons ev_c (EvD.iv (K := K) (ed_ixT (i := 0) (ed_var rfl t2) ed_ci atI_zero)) (eps_cons ev_c (EvD.iv (K := K) (ed_ixT (i := 1) (ed_var rfl t2) ed_ci rfl)) eps_nil))) (by simp) (ed_ixT (i := 0) (ed_var rfl t1) ed_ci atI_zero) rfl)) eda_nil)) ⟨_, _, rfl, rfl⟩) ?_) k
          simp [isThD]
        · skip
          refine pst_whenF (tk_is (tk_or (tk_v (ed_niTD ["num", "own", "par", "cell", "sum"] (ed_ixT (i := 0) (ed_var rfl t1) ed_ci atI_zero) (eda_cons ed_cs (eda_cons ed_cs (eda_cons ed_cs (eda_cons ed_cs (eda_cons ed_cs eda_nil))))) hh (by decide +kernel) (by decide))) fun _ => tk_v (ed_neB (ed_eqT (ed_ixT (i := 0) (ed_var rfl t1) ed_ci atI_zero) hh (by decide +kernel)) (ed_eqi (ed_len (ed_var rfl t1)) ed_ci))) (by first | (simp; done) | (simp [f1, f2, f3, f4, f5]; done))) rfl ?_
          refine pst_whenF (tk_is (tk_v (ed_inTD ["cell", "sum"] (ed_ixT (i := 0) (ed_var rfl t1) ed_ci atI_zero) (eda_cons ed_cs (eda_cons ed_cs eda_nil)) hh (by decide +kernel) (by decide))) (by simp)) rfl ?_
          refine pst_ret (ed_is (ed_call (eda_cons (ed_ixT (i := 1) (ed_var rfl t1) ed_ci rfl) (eda_cons (ed_i (ev_dgetD (K := K) (s := "own") [(Sum.inr "num", .int 3), (Sum.inr "par", .int (ps : Int)), (Sum.inr "own", .int (os : Int))] (eps_cons ev_c ev_c (eps_cons ev_c (EvD.iv (K := K) (ed_ixT (i := 0) (ed_var rfl t2) ed_ci atI_zero)) (eps_cons ev_c (EvD.iv (K := K) (ed_ixT (i := 1) (ed_var rfl t2) ed_ci rfl)) eps_nil))) (by simp) (ed_ixT (i := 0) (ed_var rfl t1) ed_ci atI_zero) rfl)) eda_nil)) ⟨_, _, rfl, rfl⟩) ?_) k
          simp [isThD]
        · skip
          refine pst_whenF (tk_is (tk_or (tk_v (ed_niTD ["num", "own", "par", "cell", "sum"] (ed_ixT (i := 0) (ed_var rfl t1) ed_ci atI_zero) (eda_cons ed_cs (eda_cons ed_cs (eda_cons ed_cs (eda_cons ed_cs (eda_cons ed_cs eda_nil))))) hh (by decide +kernel) (by decide))) fun _ => tk_v (ed_neB (ed_eqT (ed_ixT (i := 0) (ed_var rfl t1) ed_ci atI_zero) hh (by decide +kernel)) (ed_eqi (ed_len (ed_var rfl t1)) ed_ci))) (by first | (simp; done) | (simp [f1, f2, f3, f4, f5]; done))) rfl ?_
          refine pst_whenF (tk_is (tk_v (ed_inTD ["cell", "sum"] (ed_ixT (i := 0) (ed_var rfl t1) ed_ci atI_zero) (eda_cons ed_cs (eda_cons ed_cs eda_nil)) hh (by decide +kernel) (by decide))) (by simp)) rfl ?_
          refine pst_ret (ed_is (ed_call (eda_cons (ed_ixT (i := 1) (ed_var rfl t1) ed_ci rfl) (eda_cons (ed_i (ev_dgetD (K := K) (s := "par") [(Sum.inr "num", .int 3), (Sum.inr "par", .int (ps : Int)), (Sum.inr "own", .int (os : Int))] (eps_cons ev_c ev_c (eps_cons ev_c (EvD.iv (K := K) (ed_ixT (i := 0) (ed_var rfl t2) ed_ci atI_zero)) (eps_cons ev_c (EvD.iv (K := K) (ed_ixT (i := 1) (ed_var rfl t2) ed_ci rfl)) eps_nil))) (by simp) (ed_ixT (i := 0) (ed_var rfl t1) ed_ci atI_zero) rfl)) eda_nil)) ⟨_, _, rfl, rfl⟩) ?_) k
          simp [isThD]
        · skip
          refine pst_whenF (tk_is (tk_or (tk_v (ed_niTD ["num", "own", "par", "cell", "sum"] (ed_ixT (i := 0) (ed_var rfl t1) ed_ci atI_zero) (eda_cons ed_cs (eda_cons ed_cs (eda_cons ed_cs (eda_cons ed_cs (eda_cons ed_cs eda_nil))))) hh (by decide +kernel) (by decide))) fun _ => tk_v (ed_neB (ed_eqT (ed_ixT (i := 0) (ed_var rfl t1) ed_ci atI_zero) hh (by decide +kernel)) (ed_eqi (ed_len (ed_var rfl t1)) ed_ci))) (by first | (simp; done) | (simp [f1, f2, f3, f4, f5]; done))) rfl ?_
          refine pst_whenT (tk_is (tk_v (ed_inTD ["cell", "sum"] (ed_ixT (i := 0) (ed_var rfl t1) ed_ci atI_zero) (eda_cons ed_cs (eda_cons ed_cs eda_nil)) hh (by decide +kernel) (by decide))) (by simp)) rfl ?_
          refine pst_ret (ed_is (ed_eqN (EvDL.rd (edl_lcM (xs := [a]) (f := fun y => y) (p := fun y => !isThD ps os m y) (g := fun y => y) (ed_is (ed_sl (lo := some ((1 : Nat) : Int)) (hi := none) (ed_var rfl t1) (eok_some ed_ci) eok_none) (by rw [cutD_suf]; rfl)) rfl (by simp) (fun x => rfl) (fun y v H1 e1 hy ty => tk_not (tk_vB (ed_call (eda_cons (ed_var rfl ty) (eda_cons (ed_var rfl (t2.ex e1)) (eda_cons (ed_is (ed_I0i (ed_var rfl (.int _)) ed_ci) rfl) eda_nil))) ⟨y, ps, os, w + 1, rfl, by omega, lay y hy, rfl⟩))) (fun y v H1 e1 hy _ ty => ed_var rfl ty))) (edl_lst eda_nil (by decide)) (layAll_flt lays)) ?_) k
          rw [flt_id]
          simp [isThD]
        · skip
          refine pst_whenT (tk_is (tk_or (tk_v (ed_niTD ["num", "own", "par", "cell", "sum"] (ed_ixT (i := 0) (ed_var rfl t1) ed_ci atI_zero) (eda_cons ed_cs (eda_cons ed_cs (eda_cons ed_cs (eda_cons ed_cs (eda_cons ed_cs eda_nil))))) hh (by decide +kernel) (by decide))) fun _ => tk_v (ed_neB (ed_eqT (ed_ixT (i := 0) (ed_var rfl t1) ed_ci atI_zero) hh (by decide +kernel)) (ed_eqi (ed_len (ed_var rfl t1)) ed_ci))) (by first | (simp; done) | (simp [f1, f2, f3, f4, f5]; done))) rfl ?_
          exact pst_ret (by rw [(by first | (simp [isThD]; done) | (simp [isThD, f1, f2, f3, f4, f5]; done) : isThD ps os (m + 1) _ = false)]; exact ed_cb) k
        · skip
          refine pst_whenT (tk_is (tk_or (tk_v (ed_niTD ["num", "own", "par", "cell", "sum"] (ed_ixT (i := 0) (ed_var rfl t1) ed_ci atI_zero) (eda_cons ed_cs (eda_cons ed_cs (eda_cons ed_cs (eda_cons ed_cs (eda_cons ed_cs eda_nil))))) hh (by decide +kernel) (by decide))) fun _ => tk_v (ed_neB (ed_eqT (ed_ixT (i := 0) (ed_var rfl t1) ed_ci atI_zero) hh (by decide +kernel)) (ed_eqi (ed_len (ed_var rfl t1)) ed_ci))) (by first | (simp; done) | (simp [f1, f2, f3, f4, f5]; done))) rfl ?_
          exact pst_ret (by rw [(by first | (simp [isThD]; done) | (simp [isThD, f1, f2, f3, f4, f5]; done) : isThD ps os (m + 1) _ = false)]; exact ed_cb) k
      ·
        simp only [PyData.canLay0, PyData.canLayAll0, Bool.and_eq_true, and_true] at hx
        obtain ⟨hh, ha, hb⟩ := hx
        have lay : ∀ y ∈ [a, b], y.canLay0 = true := by simp [ha, hb]
        have lays : PyData.canLayAll0 [a, b] = true := by simp [PyData.canLayAll0, ha, hb]
        rcases five_words h with rfl | rfl | rfl | rfl | rfl | ⟨f1, f2, f3, f4, f5⟩
        · skip
          refine pst_whenT (tk_is (tk_or (tk_v (ed_niTD ["num", "own", "par", "cell", "sum"] (ed_ixT (i := 0) (ed_var rfl t1) ed_ci atI_zero) (eda_cons ed_cs (eda_cons ed_cs (eda_cons ed_cs (eda_cons ed_cs (eda_cons ed_cs eda_nil))))) hh (by decide +kernel) (by decide))) fun _ => tk_v (ed_neB (ed_eqT (ed_ixT (i := 0) (ed_var rfl t1) ed_ci atI_zero) hh (by decide +kernel)) (ed_eqi (ed_len (ed_var rfl t1)) ed_ci))) (by first | (simp; done) | (simp [f1, f2, f3, f4, f5]; done))) rfl ?_
          exact pst_ret (by rw [(by first | (simp [isThD]; done) | (simp [isThD, f1, f2, f3, f4, f5]; done) : isThD ps os (m + 1) _ = false)]; exact ed_cb) k
        · skip
          refine pst_whenT (tk_is (tk_or (tk_v (ed_niTD ["num", "own", "par", "cell", "sum"] (ed_ixT (i := 0) (ed_var rfl t1) ed_ci atI_zero) (eda_cons ed_cs (eda_cons ed_cs (eda_cons ed_cs (eda_cons ed_cs (eda_cons ed_cs eda_nil))))) hh (by decide +kernel) (by decide))) fun _ => tk_v (ed_neB (ed_eqT (ed_ixT (i := 0) (ed_var rfl t1) ed_ci atI_zero) hh (by decide +kernel)) (ed_eqi (ed_len (ed_var rfl t1)) ed_ci))) (by first | (simp; done) | (simp [f1, f2, f3, f4, f5]; done))) rfl ?_
          exact pst_ret (by rw [(by first | (simp [isThD]; done) | (simp [isThD, f1, f2, f3, f4, f5]; done) : isThD ps os (m + 1) _ = false)]; exact ed_cb) k
        · skip
          refine pst_whenT (tk_is (tk_or (tk_v (ed_niTD ["num", "own", "par", "cell", "sum"] (ed_ixT (i := 0) (ed_var rfl t1) ed_ci atI_zero) (eda_cons ed_cs (eda_cons ed_cs (eda_cons ed_cs (eda_cons ed_cs (eda_cons ed_cs eda_nil))))) hh (by decide +kernel) (by decide))) fun _ => tk_v (ed_neB (ed_eqT (ed_ixT (i := 0) (ed_var rfl t1) ed_ci atI_zero) hh (by decide +kernel)) (ed_eqi (ed_len (ed_var rfl t1)) ed_ci))) (by first | (simp; done) | (simp [f1, f2, f3, f4, f5]; done))) rfl ?_
          exact pst_ret (by rw [(by first | (simp [isThD]; done) | (simp [isThD, f1, f2, f3, f4, f5]; done) : isThD ps os (m + 1) _ = false)]; exact ed_cb) k
        · skip
          refine pst_whenT (tk_is (tk_or (tk_v (ed_niTD ["num", "own", "par", "cell", "sum"] (ed_ixT (i := 0) (ed_var rfl t1) ed_ci atI_zero) (eda_cons ed_cs (eda_cons ed_cs (eda_cons ed_cs (eda_cons ed_cs (eda_cons ed_cs eda_nil))))) hh (by decide +kernel) (by decide))) fun _ => tk_v (ed_neB (ed_eqT (ed_ixT (i := 0) (ed_var rfl t1) ed_ci atI_zero) hh (by decide +kernel)) (ed_eqi (ed_len (ed_var rfl t1)) ed_ci))) (by first | (simp; done) | (simp [f1, f2, f3, f4, f5]; done))) rfl ?_
          exact pst_ret (by rw [(by first | (simp [isThD]; done) | (simp [isThD, f1, f2, f3, f4, f5]; done) : isThD ps os (m + 1) _ = false)]; exact ed_cb) k
        · skip
          refine pst_whenF (tk_is (tk_or (tk_v (ed_niTD ["num", "own", "par", "cell", "sum"] (ed_ixT (i := 0) (ed_var rfl t1) ed_ci atI_zero) (eda_cons ed_cs (eda_cons ed_cs (eda_cons ed_cs (eda_cons ed_cs (eda_cons ed_cs eda_nil))))) hh (by decide +kernel) (by decide))) fun _ => tk_v (ed_neB (ed_eqT (ed_ixT (i := 0) (ed_var rfl t1) ed_ci atI_zero) hh (by decide +kernel)) (ed_eqi (ed_len (ed_var rfl t1)) ed_ci))) (by first | (simp; done) | (simp [f1, f2, f3, f4, f5]; done))) rfl ?_
          refine pst_whenT (tk_is (tk_v (ed_inTD ["cell", "sum"] (ed_ixT (i := 0) (ed_var rfl t1) ed_ci atI_zero) (eda_cons ed_cs (eda_cons ed_cs eda_nil)) hh (by decide +kernel) (by decide))) (by simp)) rfl ?_
          refine pst_ret (ed_is (ed_eqN (EvDL.rd (edl_lcM (xs := [a, b]) (f := fun y => y) (p := fun y => !isThD ps os m y) (g := fun y => y) (ed_is (ed_sl (lo := some ((1 : Nat) : Int)) (hi := none) (ed_var rfl t1) (eok_some ed_ci) eok_none) (by rw [cutD_suf]; rfl)) rfl (by simp) (fun x => rfl) (fun y v H1 e1 hy ty => tk_not (tk_vB (ed_call (eda_cons (ed_var rfl ty) (eda_cons (ed_var rfl (t2.ex e1)) (eda_cons (ed_is (ed_I0i (ed_var rfl (.int _)) ed_ci) rfl) eda_nil))) ⟨y, ps, os, w + 1, rfl, by omega, lay y hy, rfl⟩))) (fun y v H1 e1 hy _ ty => ed_var rfl ty))) (edl_lst eda_nil (by decide)) (layAll_flt lays)) ?_) k
          rw [flt_id]
          simp [isThD]
        · skip
          refine pst_whenT (tk_is (tk_or (tk_v (ed_niTD ["num", "own", "par", "cell", "sum"] (ed_ixT (i := 0) (ed_var rfl t1) ed_ci atI_zero) (eda_cons ed_cs (eda_cons ed_cs (eda_cons ed_cs (eda_cons ed_cs (eda_cons ed_cs eda_nil))))) hh (by decide +kernel) (by decide))) fun _ => tk_v (ed_neB (ed_eqT (ed_ixT (i := 0) (ed_var rfl t1) ed_ci atI_zero) hh (by decide +kernel)) (ed_eqi (ed_len (ed_var rfl t1)) ed_ci))) (by first | (simp; done) | (simp [f1, f2, f3, f4, f5]; done))) rfl ?_
          exact pst_ret (by rw [(by first | (simp [isThD]; done) | (simp [isThD, f1, f2, f3, f4, f5]; done) : isThD ps os (m + 1) _ = false)]; exact ed_cb) k
  | _ =>
    refine pst_whenT (tk_orT (tk_notF (tk_vB (ed_isi (b := false) (ed_var rfl t1) (by rfl))))) rfl (pst_ret ?_ k)
    rw [show isThD ps os n _ = false from by cases n <;> simp [isThD]]
    exact ed_cb
theorem ok_lth (GN : Fn__law_is_number T P w base CX0 1 (spF K pNumber)) : ∀ n : Nat, Fn__law_is_thing T P w base CX0 (n + 2) (spF K (pLTh n))
  | 0 => lth_step T (n := 0) (fun _ _ _ _ => False) (fun h => absurd h (Nat.lt_irrefl _)) GN (fn_vac fun _ _ _ _ h => h)
  | n + 1 => lth_step T (n := n + 1) (spF K (pLTh n)) (fun _ => rfl) GN (ok_lth GN n)
end
end Hw

set_option maxRecDepth 100000
set_option maxHeartbeats 4000000
/-! LI3: the law's own look at steps and bodies -/
namespace Hw
open PySem PySem.Spec PyProof.Rows L2 Evl
local macro_rules | `(tactic| walk_at "dd") => `(tactic| first | rfl | decide | (simp; done) | omega)
local macro_rules | `(tactic| walk_at "td") => `(tactic| first | assumption | exact Td.int _ | exact Td.bl _ | exact Td.str _ | exact Td.non | exact Td.tup (by assumption) (by assumption))
local macro_rules | `(tactic| walk_at "ev") => `(tactic| first
  | exact ed_ci | exact ed_cs | exact ed_cb | exact ed_cn
  | (apply ed_cg; assumption)
  | (apply ed_var; (rfl); (walk_at "td"))
  | (apply ed_ixT; (walk_at "ev"); (walk_at "ev"); (first | rfl | assumption))
  | (apply ed_rowI; (rfl); (assumption); (walk_at "ev"); (rfl))
  | (apply ed_ixL; (apply EvDL.rd; walk_at "edl"); (walk_at "ev"); (rfl))
  | (apply ed_intb; (walk_at "ev"))
  | (apply ed_len; walk_at "ev")
  | (apply ed_lenV; (apply ev_rowR; (rfl); (assumption); (walk_at "ev"); (rfl)); (assumption))
  | (apply ed_Ii; (walk_at "ev"); (walk_at "ev"); (walk_at "cc"))
  | (apply ed_isi; (walk_at "ev"); (rfl))
  | (apply ed_I0i; (walk_at "ev"); (walk_at "ev"))
  | (apply ed_I0b; (walk_at "ev"); (walk_at "ev"))
  | (apply ed_eqi; (walk_at "ev"); (walk_at "ev"))
  | (apply ed_nei; (walk_at "ev"); (walk_at "ev"))
  | (apply ed_andF; walk_at "ev")
  | (apply ed_andV; (walk_at "ev"); (intro _; walk_at "ev"))
  | (apply ed_orT; walk_at "ev")
  | (apply ed_orV; (walk_at "ev"); (intro _; walk_at "ev"))
  | (apply ed_notT; walk_at "ev")
  | (apply ed_notF; walk_at "ev")
  | (apply ed_notV; walk_at "ev")
  | (apply ed_chain; (walk_at "ev"); (walk_at "ev"); (intro _; walk_at "ev"))
  | (apply ed_eqS; (walk_at "ev"); (walk_at "ev"); (walk_at "bb"); (walk_at "bb"))
  | (apply ed_neS; (walk_at "ev"); (walk_at "ev"); (walk_at "bb"); (walk_at "bb"))
  | (apply ed_inT; (walk_at "ev"); (walk_at "ev"); (rfl); (rfl))
  | (apply ed_niT; (walk_at "ev"); (walk_at "ev"); (rfl); (rfl))
  | (apply ed_tup; (walk_at "eva"); (walk_at "bb"))
  | (apply ed_sl; (walk_at "ev"); (walk_at "evo"); (walk_at "evo"))
  | (apply ed_eqN; (apply EvDL.rd; walk_at "edl"); (walk_at "edl"); (walk_at "bb"))
  | (apply ed_neN; (apply EvDL.rd; walk_at "edl"); (walk_at "edl"); (walk_at "bb"))
  | (apply ed_ixL; (apply edr_var; (rfl); (assumption); (assumption)); (walk_at "ev"); (first | rfl | assumption))
  | (apply ed_lenL; (apply edr_var; (rfl); (assumption); (assumption)))
  | (apply ed_call; (walk_at "eva"); (walk_at "post")))
local macro_rules | `(tactic| walk_at "edl") => `(tactic| first
  | assumption
  | (apply edl_lst; (walk_at "eva"); (walk_at "bb")))
local macro_rules | `(tactic| walk_at "eva") => `(tactic| first
  | exact eda_nil
  | (apply eda_cons; (walk_at "ev"); (walk_at "eva")))
local macro_rules | `(tactic| walk_at "evo") => `(tactic| first
  | exact eok_none
  | (apply eok_some; walk_at "ev"))
local macro_rules | `(tactic| walk_at "bb") => `(tactic| first | rfl | assumption | (simp; done) | (simp; omega) | decide +kernel)
local macro_rules | `(tactic| walk_at "et") => `(tactic| first
  | exact tk_yes
  | (apply tk_andF; walk_at "et")
  | (apply tk_and; (walk_at "et"); (intro _; walk_at "et"))
  | (apply tk_orT; walk_at "et")
  | (apply tk_or; (walk_at "et"); (intro _; walk_at "et"))
  | (apply tk_notT; walk_at "et")
  | (apply tk_notF; walk_at "et")
  | (apply tk_not; walk_at "et")
  | (apply tk_v; walk_at "ev")
  | (apply tk_vB; walk_at "ev"))
local macro_rules | `(tactic| walk_at "if") => `(tactic| first
  | (apply pst_whenF; (walk_at "et"); (walk_at "bb"))
  | (apply pst_whenT; (walk_at "et"); (walk_at "bb")))
local macro_rules | `(tactic| walk_at "post") => `(tactic| first | assumption | exact ⟨_, _, rfl, rfl⟩ | exact ⟨_, _, _, _, rfl, by omega, by omega, rfl⟩ | exact ⟨_, _, _, 0, rfl, by omega, by omega, rfl⟩)
local macro_rules | `(tactic| walk_at "cc") => `(tactic| first | assumption | decide | omega | (refine ⟨?_, ?_⟩ <;> first | decide | omega) | (exact Or.inl (by constructor <;> omega)))

def encSh (x : Nat × Nat) : PyData := .tuple [.int (x.1 : Int), .int (x.2 : Int)]
theorem shP_at {sh : List (Nat × Nat)} {i : Nat} {x : Nat × Nat} (h : sh[i]? = some x) : shP sh i = x.1 ∧ shO sh i = x.2 := by
  simp [shP, shO, List.getD, h]
structure ShAt (K : PySem.W.Frag) (sl : Addr) (sh : List (Nat × Nat)) (H : Hp) : Prop where
  hs : ∃ xs, SqL K H sl xs ∧ TdAll K H xs (sh.map encSh)
  l4 : sh.length ≤ 4
def spLS (K : PySem.W.Frag) (f : List (Nat × Nat) → Nat → PyData → Bool) (n : Nat) : Sp := fun vs H Q _ => ∃ (sl : Addr) (sh : List (Nat × Nat)) (i : Nat) (v : V) (x : PyData) (w : Nat), vs = [.ref sl, .int (i : Int), v, .int (w : Int)] ∧ ShAt K sl sh H ∧ Td K H v x ∧ i < sh.length ∧ w + n = 5 ∧ x.canLay0 = true ∧ smD x = true ∧ ∀ H', Ex H H' → Q (.bl (f sh i x)) H'
def fSt (n : Nat) (sh : List (Nat × Nat)) (i : Nat) (x : PyData) : Bool := isStD sh i n x
def fBd (n : Nat) (sh : List (Nat × Nat)) (i : Nat) (x : PyData) : Bool := bdAll (isStD sh i n) x
theorem layAll_mem : ∀ {L : List PyData} {y : PyData}, PyData.canLayAll0 L = true → y ∈ L → y.canLay0 = true
  | x :: r, y, h, hm => by
    simp only [PyData.canLayAll0, Bool.and_eq_true] at h
    rcases List.mem_cons.mp hm with e | hm
    · rw [e]; exact h.1
    · exact layAll_mem h.2 hm
section
variable {K : PySem.W.Frag} {σ : L2.St} {H H' : Hp} {sl : Addr} {sh : List (Nat × Nat)} {te tf tg ti tl ta tb : TE} {E : XK} {i w n : Nat} {x d : PyData} {f : List (Nat × Nat) → Nat → PyData → Bool}
theorem ShAt.ex (h : ShAt K sl sh H) (e : Ex H H') : ShAt K sl sh H' := by
  obtain ⟨⟨xs, h1, h2⟩, h3⟩ := h
  exact ⟨⟨xs, ex_l e h1, h2.ex e⟩, h3⟩
theorem ShAt.rd {j : Nat} (h : ShAt K sl sh H) (hs : σ[j]? = some (some (.ref sl))) : EvDR K (tVar j) σ H (sh.map encSh) := by
  obtain ⟨⟨xs, h1, h2⟩, h3⟩ := h
  exact edr_var hs h1 h2
theorem ShAt.at {j : Nat} (h : ShAt K sl sh H) (hs : σ[j]? = some (some (.ref sl))) (hi : EvD K ti σ H (.int (i : Int))) (hl : i < sh.length) : EvD K (tOp (rIxL K) (tVar j) ti) σ H (.tuple [.int (shP sh i : Int), .int (shO sh i : Int)]) := by
  have hg : sh[i]? = some sh[i] := List.getElem?_eq_getElem hl
  obtain ⟨e1, e2⟩ := shP_at hg
  exact ed_is (ed_ixL (h.rd hs) hi (atI_nat (by rw [List.getElem?_map, hg]; rfl))) (by rw [e1, e2]; rfl)
theorem ed_ls {j : Nat} (h : ShAt K sl sh H) (hs : σ[j]? = some (some (.ref sl))) (h1 : EvD K te σ H (.int (i : Int))) (h2 : EvD K tf σ H x) (h3 : EvD K tg σ H (.int (w : Int))) (hi : i < sh.length) (hw : w + n = 5) (hl : x.canLay0 = true) (hm : smD x = true) :
    EvD K (tCall (spLS K f n) [] E (tCons (tVar j) (tCons te (tCons tf (tCons tg tNil))))) σ H (.bool (f sh i x)) := fun H1 e1 Q q =>
  ⟨.ref sl, hs, h1.iv H1 e1 _ fun H2 e2 => h2 H2 (e1.trans e2) _ fun v H3 e3 tv => h3.iv H3 ((e1.trans e2).trans e3) _ fun H4 e4 => ⟨sl, sh, i, v, x, w, rfl, h.ex (((e1.trans e2).trans e3).trans e4), tv.ex e4, hi, hw, hl, hm, fun H5 e5 => q _ H5 (((e2.trans e3).trans e4).trans e5) (.bl _)⟩⟩
end
theorem fSt_not {n : Nat} {sh : List (Nat × Nat)} {i : Nat} {x : PyData} (h : isTupL x = false) : fSt n sh i x = false := by
  cases x <;> first | (cases h; done) | (cases n <;> simp [fSt, isStD])
theorem four_words (h : PyData) : h = .str "set" ∨ h = .str "say" ∨ h = .str "if" ∨ h = .str "call" ∨ (isStrD "set" h = false ∧ isStrD "say" h = false ∧ isStrD "if" h = false ∧ isStrD "call" h = false) := by
  by_cases h1 : h = .str "set"
  · exact .inl h1
  by_cases h2 : h = .str "say"
  · exact .inr (.inl h2)
  by_cases h3 : h = .str "if"
  · exact .inr (.inr (.inl h3))
  by_cases h4 : h = .str "call"
  · exact .inr (.inr (.inr (.inl h4)))
  have no : ∀ {s : Str}, ¬ h = .str s → isStrD s h = false := fun {s} e => by
    cases hh : isStrD s h with
    | false => rfl
    | true => exact absurd (isStrD_iff.mp hh) e
  exact .inr (.inr (.inr (.inr ⟨no h1, no h2, no h3, no h4⟩)))
theorem isStD_no {sh : List (Nat × Nat)} {i n : Nat} {h : PyData} {r : List PyData} (g : isStrD "set" h = false ∧ isStrD "say" h = false ∧ isStrD "if" h = false ∧ isStrD "call" h = false) : isStD sh i n (.tuple (h :: r)) = false := by
  obtain ⟨g1, g2, g3, g4⟩ := g
  match n, r with
  | 0, _ => simp [isStD]
  | n + 1, [] => simp [isStD]
  | n + 1, [_] => simp [isStD, g2]
  | n + 1, [_, _] => simp [isStD, g1, g4]
  | n + 1, [_, _, _] => simp [isStD, g3]
  | n + 1, _ :: _ :: _ :: _ :: _ => simp [isStD]
theorem lw4 : isStrD "set" (.str "set") = true ∧ isStrD "set" (.str "say") = false ∧ isStrD "set" (.str "if") = false ∧ isStrD "set" (.str "call") = false ∧ isStrD "say" (.str "set") = false ∧ isStrD "say" (.str "say") = true ∧ isStrD "say" (.str "if") = false ∧ isStrD "say" (.str "call") = false ∧
    isStrD "if" (.str "set") = false ∧ isStrD "if" (.str "say") = false ∧ isStrD "if" (.str "if") = true ∧ isStrD "if" (.str "call") = false ∧ isStrD "call" (.str "set") = false ∧ isStrD "call" (.str "say") = false ∧ isStrD "call" (.str "if") = false ∧ isStrD "call" (.str "call") = true := by
  refine ⟨?_, ?_, ?_, ?_, ?_, ?_, ?_, ?_, ?_, ?_, ?_, ?_, ?_, ?_, ?_, ?_⟩ <;> (simp only [isStrD]; decide +kernel)
def lenW : Str → Nat := fun s => if s = "set" then 3 else if s = "say" then 2 else if s = "if" then 4 else 3
theorem isStD_ln {sh : List (Nat × Nat)} {i n : Nat} {s : Str} {r : List PyData} (h4 : s = "set" ∨ s = "say" ∨ s = "if" ∨ s = "call") (hl : r.length + 1 ≠ lenW s) : isStD sh i n (.tuple (.str s :: r)) = false := by
  obtain ⟨a1, a2, a3, a4, b1, b2, b3, b4, c1, c2, c3, c4, d1, d2, d3, d4⟩ := lw4
  have l1 : lenW "set" = 3 := by decide +kernel
  have l2 : lenW "say" = 2 := by decide +kernel
  have l3 : lenW "if" = 4 := by decide +kernel
  have l4 : lenW "call" = 3 := by decide +kernel
  match n, r with
  | 0, _ => simp [isStD]
  | n + 1, [] => simp [isStD]
  | n + 1, [_] => rcases h4 with rfl | rfl | rfl | rfl <;> simp_all [isStD]
  | n + 1, [_, _] => rcases h4 with rfl | rfl | rfl | rfl <;> simp_all [isStD]
  | n + 1, [_, _, _] => rcases h4 with rfl | rfl | rfl | rfl <;> simp_all [isStD]
  | n + 1, _ :: _ :: _ :: _ :: _ => simp [isStD]
section
variable {P : Program} {w : World} {K : PySem.W.Frag} {mg : Str → Option Value} {base : Heap} (T : Tx K mg)
include T
theorem ok_lbd {k n : Nat} (G : Fn__law_is_step T P w base CX0 k (spLS K (fSt n) n)) : Fn__law_is_body T P w base CX0 (k + 1) (spLS K (fBd n) n) := by
  have G__law_is_step := G
  refine T.F__law_is_body.ok sc__law_is_body (fun vs H Q E h => by obtain ⟨_, _, _, _, _, _, rfl, _⟩ := h; rfl) fun cdv A outer s H vs Q E hr h => ?_
  obtain ⟨sl, sh, i, v, x, w, rfl, hS, t1, hi, hw, hl, hm, q⟩ := h
  refine ⟨_, (pss_cons (ps_if (pt_not (pt_val (pe_callB (kc_isi K) rfl T.b_isinstance (by decide +kernel) (pa_cons (pv 2) (pa_cons (pe_bltn (v := .ty "tuple") rfl T.b_tuple (by decide +kernel) rfl) pa_nil)))))
    (pss_one (ps_ret pe_bl))
    pss_nil)
  (pss_one (ps_ret (pe_cmpR (kop_eq K hr.units) (pe_lc (own := [("_law_step_here", 4)]) (g := gName 4) (tt := _) rfl sc__law_is_body.nd (kpi_tup K (pv 2)) (blkOk_by (N := ["_law_shapes", "_law_at", "_law_body_here", "_law_within", "_law_step_here"]) (sc := defScope s__law_is_body) (by decide +kernel)) (fun _ _ _ _ _ => (pg_name (i := 4) sc__law_is_body.nd rfl (Or.inl rfl))) (fun _ _ _ _ _ => (pts_one (pt_not (pt_val (pe_call G__law_is_step (hr.mono (by omega)) (by rfl) T.g__law_is_step T.k__law_is_step T.bd__law_is_step .nil pass0 (pa_cons (pv 0) (pa_cons (pv 1) (pa_cons (pv 4) (pa_cons (pv 3) pa_nil))))))))) (fun _ _ _ _ _ => (pv 4))) (pe_lst pa_nil) (nomark _))))), ?_⟩
  cases x with
  | list _ => cases t1
  | dict _ => cases t1
  | tuple ds =>
    refine w_seq (w_ifs (w_t (K := K) (b := false) (tk_notT (tk_vB (ed_isi (b := true) (ed_var rfl t1) (by rfl)))) fun H1 e1 => ifF rfl (w_next ?_)))
    simp only [PyData.canLay0] at hl
    simp only [smD, Bool.and_eq_true, decide_eq_true_eq] at hm
    refine w_ret (w_d (K := K) (ed_is (ed_eqN (EvDL.rd (edl_lcM (xs := ds) (f := fun y => y) (p := fun y => !isStD sh i n y) (g := fun y => y) (ed_var rfl (t1.ex e1)) (List.map_id' _).symm (by omega) (fun x => rfl) (fun y v H2 e2 hy ty => tk_not (tk_vB (ed_ls (f := fSt n) (hS.ex (e1.trans e2)) rfl (ed_var rfl (.int _)) (ed_var rfl ty) (ed_var rfl (.int _)) hi hw (layAll_mem hl hy) (smDs_mem hm.2 hy)))) (fun y v H2 e2 hy _ ty => ed_var rfl ty))) (edl_lst eda_nil (by decide)) (layAll_flt hl)) (by rw [flt_id])) fun v H2 e2 tv => ?_)
    cases tv
    exact q H2 (e1.trans e2)
  | _ =>
    refine w_seq (w_ifs (w_t (K := K) (b := true) (tk_notF (tk_vB (ed_isi (b := false) (ed_var rfl t1) (by rfl)))) fun H1 e1 => ifT rfl (w_ret (w_c (q H1 e1)))))
theorem ok_lst {k n : Nat} (hk : 7 ≤ k) (spB : Sp) (hB : 0 < n → spB = spLS K (fBd (n - 1)) (n - 1)) (GN : Fn__law_is_number T P w base CX0 1 (spF K pNumber)) (GT : Fn__law_is_thing T P w base CX0 7 (spF K (pLTh 5))) (G : Fn__law_is_body T P w base CX0 k spB) : Fn__law_is_step T P w base CX0 (k + 1) (spLS K (fSt n) n) := by
  have G__law_is_number := GN
  have G__law_is_thing := GT
  have G__law_is_body := G
  obtain ⟨a1, a2, a3, a4, b1, b2, b3, b4, c1, c2, c3, c4, d1, d2, d3, d4⟩ := lw4
  refine T.F__law_is_step.ok sc__law_is_step (fun vs H Q E h => by obtain ⟨_, _, _, _, _, _, rfl, _⟩ := h; rfl) fun cdv A outer s H vs Q E hr h => ?_
  obtain ⟨sl, sh, i, v, x, w, rfl, hS, t1, hi, hw, hl, hm, q⟩ := h
  refine ⟨_, (pss_cons (ps_if (PW.pt (pw_or (pt_not (pt_val (pe_callB (kc_isi K) rfl T.b_isinstance (by decide +kernel) (pa_cons (pv 2) (pa_cons (pe_bltn (v := .ty "tuple") rfl T.b_tuple (by decide +kernel) rfl) pa_nil))))) (pw_or (pt_cmpR op_gt (pv 3) pe_int (nomark _)) (pw_or1 (pt_cmpR (kop_eq K hr.units) (pv 2) (pe_tup pa_nil) (nomark _))))))
    (pss_one (ps_ret pe_bl))
    pss_nil)
  (pss_cons (ps_if (PW.pt (pw_or (pt_cmpR (kop_niTD K (units65 hr)) (pe_ix (kix_tup K) (pv 2) pe_int (fun _ _ => rfl)) (pe_tup (pa_cons pe_str (pa_cons pe_str (pa_cons pe_str (pa_cons pe_str pa_nil))))) rfl) (pw_or1 (pt_cmpR op_ne (pe_callB (kc_len K) rfl T.b_len PySem.boot_len (pa_cons (pv 2) pa_nil)) (pe_dget (hu_of hr) (pe_disp (pps_cons pe_str pe_int (pps_cons pe_str pe_int (pps_cons pe_str pe_int (pps_cons pe_str pe_int pps_nil)))) (by rfl) (by rfl) (fun z => by cases z) (by decide)) (pe_ix (kix_tup K) (pv 2) pe_int (fun _ _ => rfl)) (fun _ _ => rfl)) (nomark _)))))
    (pss_one (ps_ret pe_bl))
    pss_nil)
  (pss_cons (ps_if (pt_cmpR (kop_eq K hr.units) (pe_ix (kix_tup K) (pv 2) pe_int (fun _ _ => rfl)) pe_str (nomark _))
    (pss_cons (ps_if (PW.pt (pw_or (pt_not (pt_val (pe_call G__law_is_number (hr.mono (by omega)) (by rfl) T.g__law_is_number T.k__law_is_number T.bd__law_is_number .nil pass0 (pa_cons (pe_ix (kix_tup K) (pv 2) pe_int (fun _ _ => rfl)) (pa_cons (pe_callB (kc_len K) rfl T.b_len PySem.boot_len (pa_cons (pv 0) pa_nil)) pa_nil))))) (pw_or (pt_cmpR op_le (pe_ix (kix_tup K) (pv 2) pe_int (fun _ _ => rfl)) (pv 1) (nomark _)) (pw_or1 (pt_not (pt_val (pe_callB (kc_isi K) rfl T.b_isinstance (by decide +kernel) (pa_cons (pe_ix (kix_tup K) (pv 2) pe_int (fun _ _ => rfl)) (pa_cons (pe_bltn (v := .ty "tuple") rfl T.b_tuple (by decide +kernel) rfl) pa_nil)))))))))
      (pss_one (ps_ret pe_bl))
      pss_nil)
    (pss_cons (ps_set (i := 4) sc__law_is_step.nd rfl (Or.inl rfl) (pe_ix (kix_tup K) (pv 2) pe_int (fun _ _ => rfl)))
    (pss_one (ps_if (pt_cmpR op_ne (pe_callB (kc_len K) rfl T.b_len PySem.boot_len (pa_cons (pv 4) pa_nil)) (pe_ix (kix_tup K) (pe_ix (kix_list K) (pv 0) (pe_ix (kix_tup K) (pv 2) pe_int (fun _ _ => rfl)) (fun _ _ => rfl)) pe_int (fun _ _ => rfl)) (nomark _))
      (pss_one (ps_ret pe_bl))
      pss_nil))))
    (pss_one (ps_set (i := 4) sc__law_is_step.nd rfl (Or.inl rfl) (pe_ifExp (pt_cmpR (kop_eq K hr.units) (pe_ix (kix_tup K) (pv 2) pe_int (fun _ _ => rfl)) pe_str (nomark _)) (pe_slice (ksl_tup K) (pv 2) (po_some pe_int) (po_some pe_int)) (pe_slice (ksl_tup K) (pv 2) (po_some pe_int) po_none)))))
  (pss_cons (ps_if (pt_cmpR (kop_ne K hr.units) (pe_lc (own := [("_law_thing_here", 6)]) (g := gName 6) (tt := _) rfl sc__law_is_step.nd (kpi_tup K (pv 4)) (blkOk_by (N := ["_law_shapes", "_law_at", "_law_step_here", "_law_within", "_law_things", "_law_bodies", "_law_thing_here", "_law_body_here"]) (sc := defScope s__law_is_step) (by decide +kernel)) (fun _ _ _ _ _ => (pg_name (i := 6) sc__law_is_step.nd rfl (Or.inl rfl))) (fun _ _ _ _ _ => (pts_one (pt_not (pt_val (pe_call G__law_is_thing (hr.mono (by omega)) (by rfl) T.g__law_is_thing T.k__law_is_thing T.bd__law_is_thing .nil pass0 (pa_cons (pv 6) (pa_cons (pe_ix (kix_list K) (pv 0) (pv 1) (fun _ _ => rfl)) (pa_cons pe_int pa_nil)))))))) (fun _ _ _ _ _ => (pv 6))) (pe_lst pa_nil) (nomark _))
    (pss_one (ps_ret pe_bl))
    pss_nil)
  (pss_cons (ps_set (i := 5) sc__law_is_step.nd rfl (Or.inl rfl) (pe_ifExp (pt_cmpR (kop_eq K hr.units) (pe_ix (kix_tup K) (pv 2) pe_int (fun _ _ => rfl)) pe_str (nomark _)) (pe_slice (ksl_tup K) (pv 2) (po_some pe_int) po_none) (pe_tup pa_nil)))
  (pss_cons (ps_if (PW.pt (pw_and (pt_cmpR (kop_eq K hr.units) (pe_ix (kix_tup K) (pv 2) pe_int (fun _ _ => rfl)) pe_str (nomark _)) (pw_and1 (pt_cmpR (kop_niTD K (units65 hr)) (pe_ix (kix_tup K) (pe_ix (kix_tup K) (pv 2) pe_int (fun _ _ => rfl)) pe_int (fun _ _ => rfl)) (pe_tup (pa_cons pe_str (pa_cons pe_str (pa_cons pe_str pa_nil)))) rfl))))
    (pss_one (ps_ret pe_bl))
    pss_nil)
  (pss_one (ps_ret (pe_cmpR (kop_eq K hr.units) (pe_lc (own := [("_law_body_here", 7)]) (g := gName 7) (tt := _) rfl sc__law_is_step.nd (kpi_tup K (pv 5)) (blkOk_by (N := ["_law_shapes", "_law_at", "_law_step_here", "_law_within", "_law_things", "_law_bodies", "_law_thing_here", "_law_body_here"]) (sc := defScope s__law_is_step) (by decide +kernel)) (fun _ _ _ _ _ => (pg_name (i := 7) sc__law_is_step.nd rfl (Or.inl rfl))) (fun _ _ _ _ _ => (pts_one (pt_not (pt_val (pe_call G__law_is_body (hr.mono (by omega)) (by rfl) T.g__law_is_body T.k__law_is_body T.bd__law_is_body .nil pass0 (pa_cons (pv 0) (pa_cons (pv 1) (pa_cons (pv 7) (pa_cons (pe_op op_add (pv 3) pe_int) pa_nil))))))))) (fun _ _ _ _ _ => (pv 7))) (pe_lst pa_nil) (nomark _)))))))))), ?_⟩
  cases x with
  | list _ => cases t1
  | dict _ => cases t1
  | tuple ds =>
    cases ds with
    | nil =>
      refine w_seq (w_ifs (w_t (K := K) (b := true) (tk_is (tk_or (tk_notT (tk_vB (ed_isi (b := true) (ed_var rfl t1) (by rfl)))) fun _ => tk_or (tk_v (ed_I0b (ed_var rfl (.int _)) ed_ci)) fun _ => tk_v (ed_eqM (ed_var rfl t1) (ed_tup eda_nil (by decide)) (by decide +kernel) (by decide +kernel) (by simp [PyData.depth, PyData.depthAll]))) (by simp [PyData.eqv, PyData.eqvAll])) fun H1 e1 => ifT rfl (w_ret (w_c ?_))))
      rw [show (false : Bool) = fSt n sh i (.tuple []) from by cases n <;> simp [fSt, isStD]]
      exact q H1 e1
    | cons h r =>
      refine w_seq (w_ifs (w_t (K := K) (b := decide (4 < w)) (tk_is (tk_or (tk_notT (tk_vB (ed_isi (b := true) (ed_var rfl t1) (by rfl)))) fun _ => tk_or (tk_v (ed_I0b (ed_var rfl (.int _)) ed_ci)) fun _ => tk_v (ed_eqM (ed_var rfl t1) (ed_tup eda_nil (by decide)) hl (by decide +kernel) (by simp [PyData.depth, PyData.depthAll]))) (by simp [PyData.eqv, PyData.eqvAll]; try omega)) fun H1 e1 => ?_))
      by_cases h4 : 4 < w
      · refine ifT (by simpa using h4) (w_ret (w_c ?_))
        have : n = 0 := by omega
        subst this
        rw [show (false : Bool) = fSt 0 sh i (.tuple (h :: r)) from by simp [fSt, isStD]]
        exact q H1 e1
      · refine ifF (by simpa using h4) (w_next ?_)
        obtain ⟨m, rfl⟩ : ∃ m, n = m + 1 := ⟨n - 1, by omega⟩
        have hsp := hB (by omega)
        subst hsp
        simp only [Nat.add_sub_cancel] at *
        replace t1 := t1.ex e1
        have hl0 := hl
        simp only [PyData.canLay0, PyData.canLayAll0, Bool.and_eq_true] at hl
        simp only [smD, smDs, Bool.and_eq_true, decide_eq_true_eq, List.length_cons] at hm
        have hh := hl.1
        have hlr := hl.2
        have hmr := hm.2.2
        have no4 : ∀ s : Str, h = .str s → (s = "set" ∨ s = "say" ∨ s = "if" ∨ s = "call") → r.length + 1 ≠ lenW s → fSt (m + 1) sh i (.tuple (h :: r)) = false := fun s e h4 hl => by
          rw [e]
          exact isStD_ln h4 hl
        rcases four_words h with rfl | rfl | rfl | rfl | g4
        · -- set
          by_cases hlen : r.length + 1 = 3
          · obtain ⟨a, b, rfl⟩ : ∃ a b, r = [a, b] := by
              match r, hlen with
              | [a, b], _ => exact ⟨a, b, rfl⟩
            refine w_seq (w_ifs (w_t (K := K) (b := false) (tk_is (tk_or (tk_v (ed_niTD ["set", "say", "if", "call"] (ed_ixT (i := 0) (ed_var rfl t1) ed_ci atI_zero) (eda_cons ed_cs (eda_cons ed_cs (eda_cons ed_cs (eda_cons ed_cs eda_nil)))) hh (by decide +kernel) (by decide))) fun _ => tk_v (ed_nei (ed_len (ed_var rfl t1)) (ed_i (ev_dgetD (K := K) (s := "set") [(Sum.inr "set", .int 3), (Sum.inr "say", .int 2), (Sum.inr "if", .int 4), (Sum.inr "call", .int 3)] (eps_cons ev_c ev_c (eps_cons ev_c ev_c (eps_cons ev_c ev_c (eps_cons ev_c ev_c eps_nil)))) (by simp) (ed_ixT (i := 0) (ed_var rfl t1) ed_ci atI_zero) rfl)))) ?_) fun H2 e2 => ?_))
            · simp
            refine ifF rfl (w_next ?_)
            replace t1 := t1.ex e2
            dsimp only
            refine seq_cut (fun σ' H' => ∃ u, σ' = [some (.ref sl), some (.int (i : Int)), some v, some (.int (w : Int)), some u, none, none, none] ∧ Ex H2 H' ∧ Td K H' u (.tuple [a, b])) ?_ fun N hN => ?_
            · rintro σ' H6 ⟨u, rfl, e6, t6⟩
              have e06 := (e1.trans e2).trans e6
              have S6 := hS.ex e06
              replace t1 := t1.ex e6
              have lay2 : PyData.canLayAll0 [a, b] = true := hlr
              refine w_seq (w_ifs (w_t (K := K) (b := !([a, b] : List PyData).all (isThD (shP sh i) (shO sh i) 5)) (tk_is (tk_v (ed_neN (EvDL.rd (edl_lcM (xs := [a, b]) (f := fun y => y) (p := fun y => !isThD (shP sh i) (shO sh i) 5 y) (g := fun y => y) (ed_var rfl t6) (List.map_id' _).symm (by simp) (fun x => rfl) (fun y v Hc ec hy ty => tk_not (tk_vB (ed_call (eda_cons (ed_var rfl ty) (eda_cons ((S6.ex ec).at rfl (ed_var rfl (.int _)) hi) (eda_cons ed_ci eda_nil))) ⟨y, shP sh i, shO sh i, 0, rfl, rfl, layAll_mem lay2 hy, rfl⟩))) (fun y v Hc ec hy _ ty => ed_var rfl ty))) (edl_lst eda_nil (by decide)) (layAll_flt lay2))) (by rw [flt_id])) fun H7 e7 => ?_))
              have e07 := e06.trans e7
              replace t1 := t1.ex e7
              cases hth : ([a, b] : List PyData).all (isThD (shP sh i) (shO sh i) 5) with
              | false =>
                refine ifT (by simp) (w_ret (w_c ?_))
                rw [show (false : Bool) = fSt (m + 1) sh i (.tuple [.str "set", a, b]) from ?_]
                · exact q H7 e07
                · simp only [List.all_cons, List.all_nil, Bool.and_true] at hth
                  simp only [fSt, isStD, a1, d1, Bool.true_and, Bool.false_and, Bool.or_false, hth, Bool.and_false]
              | true =>
                refine ifF (by simp) (w_next ?_)
                simp only [List.all_cons, List.all_nil, Bool.and_true, Bool.and_eq_true] at hth
                obtain ⟨ta, rfl⟩ := isThD_inv _ _ hth.1
                dsimp only
                refine w_seq (w_asg (w_d (K := K) (ed_ifF (tk_is (tk_v (ed_eqT (s := "if") (ed_ixT (i := 0) (ed_var rfl t1) ed_ci atI_zero) hh (by decide +kernel))) c1) (ed_tup eda_nil (by decide))) fun u8 H8 e8 t8 => ?_))
                replace t1 := t1.ex e8
                dsimp only
                obtain ⟨wd, dr, hwd, hwl⟩ : ∃ wd dr, encT ta = .tuple (.str wd :: dr) ∧ (PyData.str wd).canLay0 = true := by cases ta <;> exact ⟨_, _, rfl, by decide +kernel⟩
                refine w_seq (w_ifs (w_t (K := K) (b := !isPlD (encT ta)) (tk_is (tk_and (tk_v (ed_eqT (s := "set") (ed_ixT (i := 0) (ed_var rfl t1) ed_ci atI_zero) hh (by decide +kernel))) fun _ => tk_v (ed_niTD ["cell", "own", "par"] (ed_ixT (i := 0) (ds := .str wd :: dr) (d := .str wd) (ed_is (ed_ixT (i := 1) (ed_var rfl t1) ed_ci rfl) hwd) ed_ci atI_zero) (eda_cons ed_cs (eda_cons ed_cs (eda_cons ed_cs eda_nil))) hwl (by decide +kernel) (by decide))) (by rw [a1, hwd]; simp [isPlD])) fun H9 e9 => ?_))
                have e09 := (e07.trans e8).trans e9
                cases hpl : isPlD (encT ta) with
                | false =>
                  refine ifT rfl (w_ret (w_c ?_))
                  rw [show (false : Bool) = fSt (m + 1) sh i (.tuple [.str "set", encT ta, b]) from ?_]
                  · exact q H9 e09
                  · simp only [fSt, isStD, a1, d1, hpl, Bool.true_and, Bool.false_and, Bool.or_false]
                | true =>
                  refine ifF rfl (w_next ?_)
                  dsimp only
                  refine w_ret (w_d (K := K) (ed_is (ed_eqN (EvDL.rd (edl_lcM (xs := []) (f := fun y => y) (p := fun y => !fBd m sh i y) (g := fun y => y) (ed_var rfl (t8.ex e9)) rfl (by simp) (fun x => rfl) (fun y v Hc ec hy ty => absurd hy (by simp)) (fun y v Hc ec hy _ ty => ed_var rfl ty))) (edl_lst eda_nil (by decide)) rfl) (e := .bool true) rfl) fun v10 H10 e10 t10 => ?_)
                  cases t10
                  rw [show (true : Bool) = fSt (m + 1) sh i (.tuple [.str "set", encT ta, b]) from ?_]
                  · exact q H10 (e09.trans e10)
                  · simp only [fSt, isStD, a1, d1, hpl, hth.1, hth.2, Bool.true_and, Bool.false_and, Bool.or_false, Bool.and_self]
            · refine w_ifs (w_t (K := K) (b := false) (tk_is (tk_v (ed_eqT (s := "call") (ed_ixT (i := 0) (ed_var rfl t1) ed_ci atI_zero) hh (by decide +kernel))) d1) fun H3 e3 => ifF rfl ?_)
              replace t1 := t1.ex e3
              refine w_asg (w_d (K := K) (ed_ifF (tk_is (tk_v (ed_eqT (s := "if") (ed_ixT (i := 0) (ed_var rfl t1) ed_ci atI_zero) hh (by decide +kernel))) c1) (ed_is (ed_sl (lo := some ((1 : Nat) : Int)) (hi := none) (ed_var rfl t1) (eok_some ed_ci) eok_none) (by rw [cutD_suf]; rfl))) fun u H4 e4 t4 => hN _ _ ⟨u, rfl, e3.trans e4, t4⟩)
          · skip
            refine w_seq (w_ifs (w_t (K := K) (b := true) (tk_is (tk_or (tk_v (ed_niTD ["set", "say", "if", "call"] (ed_ixT (i := 0) (ed_var rfl t1) ed_ci atI_zero) (eda_cons ed_cs (eda_cons ed_cs (eda_cons ed_cs (eda_cons ed_cs eda_nil)))) hh (by decide +kernel) (by decide))) fun _ => tk_v (ed_nei (ed_len (ed_var rfl t1)) (ed_i (ev_dgetD (K := K) (s := "set") [(Sum.inr "set", .int 3), (Sum.inr "say", .int 2), (Sum.inr "if", .int 4), (Sum.inr "call", .int 3)] (eps_cons ev_c ev_c (eps_cons ev_c ev_c (eps_cons ev_c ev_c (eps_cons ev_c ev_c eps_nil)))) (by simp) (ed_ixT (i := 0) (ed_var rfl t1) ed_ci atI_zero) rfl)))) ?_) fun H2 e2 => ?_))
            · simp; omega
            refine ifT rfl (w_ret (w_c ?_))
            rw [← no4 "set" rfl (.inl rfl) (by rw [(by decide +kernel : lenW "set" = 3)]; exact hlen)]
            exact q H2 (e1.trans e2)
        · -- say
          by_cases hlen : r.length + 1 = 2
          · obtain ⟨a, rfl⟩ : ∃ a, r = [a] := by
              match r, hlen with
              | [a], _ => exact ⟨a, rfl⟩
            refine w_seq (w_ifs (w_t (K := K) (b := false) (tk_is (tk_or (tk_v (ed_niTD ["set", "say", "if", "call"] (ed_ixT (i := 0) (ed_var rfl t1) ed_ci atI_zero) (eda_cons ed_cs (eda_cons ed_cs (eda_cons ed_cs (eda_cons ed_cs eda_nil)))) hh (by decide +kernel) (by decide))) fun _ => tk_v (ed_nei (ed_len (ed_var rfl t1)) (ed_i (ev_dgetD (K := K) (s := "say") [(Sum.inr "set", .int 3), (Sum.inr "say", .int 2), (Sum.inr "if", .int 4), (Sum.inr "call", .int 3)] (eps_cons ev_c ev_c (eps_cons ev_c ev_c (eps_cons ev_c ev_c (eps_cons ev_c ev_c eps_nil)))) (by simp) (ed_ixT (i := 0) (ed_var rfl t1) ed_ci atI_zero) rfl)))) ?_) fun H2 e2 => ?_))
            · simp
            refine ifF rfl (w_next ?_)
            replace t1 := t1.ex e2
            dsimp only
            refine seq_cut (fun σ' H' => ∃ u, σ' = [some (.ref sl), some (.int (i : Int)), some v, some (.int (w : Int)), some u, none, none, none] ∧ Ex H2 H' ∧ Td K H' u (.tuple [a])) ?_ fun N hN => ?_
            · rintro σ' H6 ⟨u, rfl, e6, t6⟩
              have e06 := (e1.trans e2).trans e6
              have S6 := hS.ex e06
              replace t1 := t1.ex e6
              refine w_seq (w_ifs (w_t (K := K) (b := !([a] : List PyData).all (isThD (shP sh i) (shO sh i) 5)) (tk_is (tk_v (ed_neN (EvDL.rd (edl_lcM (xs := [a]) (f := fun y => y) (p := fun y => !isThD (shP sh i) (shO sh i) 5 y) (g := fun y => y) (ed_var rfl t6) (List.map_id' _).symm (by simp) (fun x => rfl) (fun y v Hc ec hy ty => tk_not (tk_vB (ed_call (eda_cons (ed_var rfl ty) (eda_cons ((S6.ex ec).at rfl (ed_var rfl (.int _)) hi) (eda_cons ed_ci eda_nil))) ⟨y, shP sh i, shO sh i, 0, rfl, rfl, layAll_mem hlr hy, rfl⟩))) (fun y v Hc ec hy _ ty => ed_var rfl ty))) (edl_lst eda_nil (by decide)) (layAll_flt hlr))) (by rw [flt_id])) fun H7 e7 => ?_))
              have e07 := e06.trans e7
              replace t1 := t1.ex e7
              cases hth : ([a] : List PyData).all (isThD (shP sh i) (shO sh i) 5) with
              | false =>
                refine ifT (by simp) (w_ret (w_c ?_))
                rw [show (false : Bool) = fSt (m + 1) sh i (.tuple [.str "say", a]) from ?_]
                · exact q H7 e07
                · simp only [List.all_cons, List.all_nil, Bool.and_true] at hth
                  simp only [fSt, isStD, b2, Bool.true_and, hth]
              | true =>
                refine ifF (by simp) (w_next ?_)
                simp only [List.all_cons, List.all_nil, Bool.and_true] at hth
                dsimp only
                refine w_seq (w_asg (w_d (K := K) (ed_ifF (tk_is (tk_v (ed_eqT (s := "if") (ed_ixT (i := 0) (ed_var rfl t1) ed_ci atI_zero) hh (by decide +kernel))) c2) (ed_tup eda_nil (by decide))) fun u8 H8 e8 t8 => ?_))
                replace t1 := t1.ex e8
                dsimp only
                refine w_seq (w_ifs (w_t (K := K) (b := false) (tk_andF (tk_is (tk_v (ed_eqT (s := "set") (ed_ixT (i := 0) (ed_var rfl t1) ed_ci atI_zero) hh (by decide +kernel))) a2)) fun H9 e9 => ifF rfl (w_next ?_)))
                have e09 := (e07.trans e8).trans e9
                dsimp only
                refine w_ret (w_d (K := K) (ed_is (ed_eqN (EvDL.rd (edl_lcM (xs := []) (f := fun y => y) (p := fun y => !fBd m sh i y) (g := fun y => y) (ed_var rfl (t8.ex e9)) rfl (by simp) (fun x => rfl) (fun y v Hc ec hy ty => absurd hy (by simp)) (fun y v Hc ec hy _ ty => ed_var rfl ty))) (edl_lst eda_nil (by decide)) rfl) (e := .bool true) rfl) fun v10 H10 e10 t10 => ?_)
                cases t10
                rw [show (true : Bool) = fSt (m + 1) sh i (.tuple [.str "say", a]) from ?_]
                · exact q H10 (e09.trans e10)
                · simp only [fSt, isStD, b2, hth, Bool.true_and]
            · refine w_ifs (w_t (K := K) (b := false) (tk_is (tk_v (ed_eqT (s := "call") (ed_ixT (i := 0) (ed_var rfl t1) ed_ci atI_zero) hh (by decide +kernel))) d2) fun H3 e3 => ifF rfl ?_)
              replace t1 := t1.ex e3
              refine w_asg (w_d (K := K) (ed_ifF (tk_is (tk_v (ed_eqT (s := "if") (ed_ixT (i := 0) (ed_var rfl t1) ed_ci atI_zero) hh (by decide +kernel))) c2) (ed_is (ed_sl (lo := some ((1 : Nat) : Int)) (hi := none) (ed_var rfl t1) (eok_some ed_ci) eok_none) (by rw [cutD_suf]; rfl))) fun u H4 e4 t4 => hN _ _ ⟨u, rfl, e3.trans e4, t4⟩)
          · skip
            refine w_seq (w_ifs (w_t (K := K) (b := true) (tk_is (tk_or (tk_v (ed_niTD ["set", "say", "if", "call"] (ed_ixT (i := 0) (ed_var rfl t1) ed_ci atI_zero) (eda_cons ed_cs (eda_cons ed_cs (eda_cons ed_cs (eda_cons ed_cs eda_nil)))) hh (by decide +kernel) (by decide))) fun _ => tk_v (ed_nei (ed_len (ed_var rfl t1)) (ed_i (ev_dgetD (K := K) (s := "say") [(Sum.inr "set", .int 3), (Sum.inr "say", .int 2), (Sum.inr "if", .int 4), (Sum.inr "call", .int 3)] (eps_cons ev_c ev_c (eps_cons ev_c ev_c (eps_cons ev_c ev_c (eps_cons ev_c ev_c eps_nil)))) (by simp) (ed_ixT (i := 0) (ed_var rfl t1) ed_ci atI_zero) rfl)))) ?_) fun H2 e2 => ?_))
            · simp; omega
            refine ifT rfl (w_ret (w_c ?_))
            rw [← no4 "say" rfl (.inr (.inl rfl)) (by rw [(by decide +kernel : lenW "say" = 2)]; exact hlen)]
            exact q H2 (e1.trans e2)
        · -- if
          by_cases hlen : r.length + 1 = 4
          · obtain ⟨a, b, c, rfl⟩ : ∃ a b c, r = [a, b, c] := by
              match r, hlen with
              | [a, b, c], _ => exact ⟨a, b, c, rfl⟩
            refine w_seq (w_ifs (w_t (K := K) (b := false) (tk_is (tk_or (tk_v (ed_niTD ["set", "say", "if", "call"] (ed_ixT (i := 0) (ed_var rfl t1) ed_ci atI_zero) (eda_cons ed_cs (eda_cons ed_cs (eda_cons ed_cs (eda_cons ed_cs eda_nil)))) hh (by decide +kernel) (by decide))) fun _ => tk_v (ed_nei (ed_len (ed_var rfl t1)) (ed_i (ev_dgetD (K := K) (s := "if") [(Sum.inr "set", .int 3), (Sum.inr "say", .int 2), (Sum.inr "if", .int 4), (Sum.inr "call", .int 3)] (eps_cons ev_c ev_c (eps_cons ev_c ev_c (eps_cons ev_c ev_c (eps_cons ev_c ev_c eps_nil)))) (by simp) (ed_ixT (i := 0) (ed_var rfl t1) ed_ci atI_zero) rfl)))) ?_) fun H2 e2 => ?_))
            · simp
            refine ifF rfl (w_next ?_)
            replace t1 := t1.ex e2
            dsimp only
            simp only [PyData.canLayAll0, Bool.and_eq_true] at hlr
            simp only [smDs, Bool.and_eq_true] at hmr
            have la : PyData.canLayAll0 [a] = true := by simp [PyData.canLayAll0, hlr.1]
            have lbc : PyData.canLayAll0 [b, c] = true := by simp [PyData.canLayAll0, hlr.2.1, hlr.2.2.1]
            have mbc : smDs [b, c] = true := by simp [smDs, hmr.2.1, hmr.2.2.1]
            refine seq_cut (fun σ' H' => ∃ u, σ' = [some (.ref sl), some (.int (i : Int)), some v, some (.int (w : Int)), some u, none, none, none] ∧ Ex H2 H' ∧ Td K H' u (.tuple [a])) ?_ fun N hN => ?_
            · rintro σ' H6 ⟨u, rfl, e6, t6⟩
              have e06 := (e1.trans e2).trans e6
              have S6 := hS.ex e06
              replace t1 := t1.ex e6
              refine w_seq (w_ifs (w_t (K := K) (b := !([a] : List PyData).all (isThD (shP sh i) (shO sh i) 5)) (tk_is (tk_v (ed_neN (EvDL.rd (edl_lcM (xs := [a]) (f := fun y => y) (p := fun y => !isThD (shP sh i) (shO sh i) 5 y) (g := fun y => y) (ed_var rfl t6) (List.map_id' _).symm (by simp) (fun x => rfl) (fun y v Hc ec hy ty => tk_not (tk_vB (ed_call (eda_cons (ed_var rfl ty) (eda_cons ((S6.ex ec).at rfl (ed_var rfl (.int _)) hi) (eda_cons ed_ci eda_nil))) ⟨y, shP sh i, shO sh i, 0, rfl, rfl, layAll_mem la hy, rfl⟩))) (fun y v Hc ec hy _ ty => ed_var rfl ty))) (edl_lst eda_nil (by decide)) (layAll_flt la))) (by rw [flt_id])) fun H7 e7 => ?_))
              have e07 := e06.trans e7
              replace t1 := t1.ex e7
              cases hth : ([a] : List PyData).all (isThD (shP sh i) (shO sh i) 5) with
              | false =>
                refine ifT (by simp) (w_ret (w_c ?_))
                rw [show (false : Bool) = fSt (m + 1) sh i (.tuple [.str "if", a, b, c]) from ?_]
                · exact q H7 e07
                · simp only [List.all_cons, List.all_nil, Bool.and_true] at hth
                  simp only [fSt, isStD, c3, Bool.true_and, hth, Bool.false_and]
              | true =>
                refine ifF (by simp) (w_next ?_)
                simp only [List.all_cons, List.all_nil, Bool.and_true] at hth
                dsimp only
                refine w_seq (w_asg (w_d (K := K) (ed_ifT (tk_is (tk_v (ed_eqT (s := "if") (ed_ixT (i := 0) (ed_var rfl t1) ed_ci atI_zero) hh (by decide +kernel))) c3) (ed_is (ed_sl (lo := some ((2 : Nat) : Int)) (hi := none) (ed_var rfl t1) (eok_some ed_ci) eok_none) (by rw [cutD_suf] <;> rfl))) fun u8 H8 e8 t8 => ?_))
                replace t1 := t1.ex e8
                dsimp only
                refine w_seq (w_ifs (w_t (K := K) (b := false) (tk_andF (tk_is (tk_v (ed_eqT (s := "set") (ed_ixT (i := 0) (ed_var rfl t1) ed_ci atI_zero) hh (by decide +kernel))) a3)) fun H9 e9 => ifF rfl (w_next ?_)))
                have e09 := (e07.trans e8).trans e9
                dsimp only
                have t8' : Td K H9 u8 (.tuple [b, c]) := t8.ex e9
                refine w_ret (w_d (K := K) (ed_is (ed_eqN (EvDL.rd (edl_lcM (xs := [b, c]) (f := fun y => y) (p := fun y => !fBd m sh i y) (g := fun y => y) (ed_var rfl t8') rfl (by simp) (fun x => rfl) (fun y v Hc ec hy ty => tk_not (tk_vB (ed_ls (f := fBd m) (hS.ex (e09.trans ec)) rfl (ed_var rfl (.int _)) (ed_var rfl ty) (ed_is (ed_I0i (ed_var rfl (.int _)) ed_ci) rfl) hi (by omega : (w + 1) + m = 5) (layAll_mem lbc hy) (smDs_mem mbc hy)))) (fun y v Hc ec hy _ ty => ed_var rfl ty))) (edl_lst eda_nil (by decide)) (layAll_flt lbc)) (by rw [flt_id])) fun v10 H10 e10 t10 => ?_)
                cases t10
                rw [show ([b, c] : List PyData).all (fBd m sh i) = fSt (m + 1) sh i (.tuple [.str "if", a, b, c]) from ?_]
                · exact q H10 (e09.trans e10)
                · simp only [fSt, isStD, c3, hth, Bool.true_and, List.all_cons, List.all_nil, Bool.and_true]
                  rfl
            · refine w_ifs (w_t (K := K) (b := false) (tk_is (tk_v (ed_eqT (s := "call") (ed_ixT (i := 0) (ed_var rfl t1) ed_ci atI_zero) hh (by decide +kernel))) d3) fun H3 e3 => ifF rfl ?_)
              replace t1 := t1.ex e3
              refine w_asg (w_d (K := K) (ed_ifT (tk_is (tk_v (ed_eqT (s := "if") (ed_ixT (i := 0) (ed_var rfl t1) ed_ci atI_zero) hh (by decide +kernel))) c3) (ed_is (ed_sl (lo := some ((1 : Nat) : Int)) (hi := some ((2 : Nat) : Int)) (ed_var rfl t1) (eok_some ed_ci) (eok_some ed_ci)) (by rfl))) fun u H4 e4 t4 => hN _ _ ⟨u, rfl, e3.trans e4, t4⟩)
          · skip
            refine w_seq (w_ifs (w_t (K := K) (b := true) (tk_is (tk_or (tk_v (ed_niTD ["set", "say", "if", "call"] (ed_ixT (i := 0) (ed_var rfl t1) ed_ci atI_zero) (eda_cons ed_cs (eda_cons ed_cs (eda_cons ed_cs (eda_cons ed_cs eda_nil)))) hh (by decide +kernel) (by decide))) fun _ => tk_v (ed_nei (ed_len (ed_var rfl t1)) (ed_i (ev_dgetD (K := K) (s := "if") [(Sum.inr "set", .int 3), (Sum.inr "say", .int 2), (Sum.inr "if", .int 4), (Sum.inr "call", .int 3)] (eps_cons ev_c ev_c (eps_cons ev_c ev_c (eps_cons ev_c ev_c (eps_cons ev_c ev_c eps_nil)))) (by simp) (ed_ixT (i := 0) (ed_var rfl t1) ed_ci atI_zero) rfl)))) ?_) fun H2 e2 => ?_))
            · simp; omega
            refine ifT rfl (w_ret (w_c ?_))
            rw [← no4 "if" rfl (.inr (.inr (.inl rfl))) (by rw [(by decide +kernel : lenW "if" = 4)]; exact hlen)]
            exact q H2 (e1.trans e2)
        · -- call
          by_cases hlen : r.length + 1 = 3
          · obtain ⟨a, b, rfl⟩ : ∃ a b, r = [a, b] := by
              match r, hlen with
              | [a, b], _ => exact ⟨a, b, rfl⟩
            refine w_seq (w_ifs (w_t (K := K) (b := false) (tk_is (tk_or (tk_v (ed_niTD ["set", "say", "if", "call"] (ed_ixT (i := 0) (ed_var rfl t1) ed_ci atI_zero) (eda_cons ed_cs (eda_cons ed_cs (eda_cons ed_cs (eda_cons ed_cs eda_nil)))) hh (by decide +kernel) (by decide))) fun _ => tk_v (ed_nei (ed_len (ed_var rfl t1)) (ed_i (ev_dgetD (K := K) (s := "call") [(Sum.inr "set", .int 3), (Sum.inr "say", .int 2), (Sum.inr "if", .int 4), (Sum.inr "call", .int 3)] (eps_cons ev_c ev_c (eps_cons ev_c ev_c (eps_cons ev_c ev_c (eps_cons ev_c ev_c eps_nil)))) (by simp) (ed_ixT (i := 0) (ed_var rfl t1) ed_ci atI_zero) rfl)))) ?_) fun H2 e2 => ?_))
            · simp
            refine ifF rfl (w_next ?_)
            replace t1 := t1.ex e2
            dsimp only
            simp only [PyData.canLayAll0, Bool.and_eq_true] at hlr
            simp only [smDs, Bool.and_eq_true] at hmr
            have fe : fSt (m + 1) sh i (.tuple [.str "call", a, b]) = callD sh i a b := by
              simp only [fSt, isStD, a4, d4, Bool.true_and, Bool.false_and, Bool.false_or]
            rw [fe] at q
            obtain ⟨pa, xs, rfl, hsx, hall⟩ := t1.tup_inv
            obtain _ | ⟨_, _ | ⟨ua, _ | ⟨ub, _ | _⟩⟩⟩ := hall
            refine seq_cut (fun σ' H' => ∃ u ts, b = .tuple ts ∧ callD sh i a b = ts.all (isThD (shP sh i) (shO sh i) 5) ∧ σ' = [some (.ref sl), some (.int (i : Int)), some (.ref pa), some (.int (w : Int)), some u, none, none, none] ∧ Ex H2 H' ∧ Td K H' u (.tuple ts)) ?_ fun N hN => ?_
            · rintro σ' H6 ⟨u, ts, rfl, hcd, rfl, e6, t6⟩
              have e06 := (e1.trans e2).trans e6
              have S6 := hS.ex e06
              replace t1 := t1.ex e6
              have hly := hlr.2.1
              have hmy := hmr.2.1
              simp only [PyData.canLay0] at hly
              simp only [smD, Bool.and_eq_true, decide_eq_true_eq] at hmy
              rw [hcd] at q
              refine w_seq (w_ifs (w_t (K := K) (b := !(ts : List PyData).all (isThD (shP sh i) (shO sh i) 5)) (tk_is (tk_v (ed_neN (EvDL.rd (edl_lcM (xs := ts) (f := fun y => y) (p := fun y => !isThD (shP sh i) (shO sh i) 5 y) (g := fun y => y) (ed_var rfl t6) (List.map_id' _).symm (by omega) (fun x => rfl) (fun y v Hc ec hy ty => tk_not (tk_vB (ed_call (eda_cons (ed_var rfl ty) (eda_cons ((S6.ex ec).at rfl (ed_var rfl (.int _)) hi) (eda_cons ed_ci eda_nil))) ⟨y, shP sh i, shO sh i, 0, rfl, rfl, layAll_mem hly hy, rfl⟩))) (fun y v Hc ec hy _ ty => ed_var rfl ty))) (edl_lst eda_nil (by decide)) (layAll_flt hly))) (by rw [flt_id])) fun H7 e7 => ?_))
              have e07 := e06.trans e7
              replace t1 := t1.ex e7
              cases hth : (ts : List PyData).all (isThD (shP sh i) (shO sh i) 5) with
              | false =>
                rw [hth] at q
                exact ifT (by simp) (w_ret (w_c (q H7 e07)))
              | true =>
                rw [hth] at q
                refine ifF (by simp) (w_next ?_)
                dsimp only
                refine w_seq (w_asg (w_d (K := K) (ed_ifF (tk_is (tk_v (ed_eqT (s := "if") (ed_ixT (i := 0) (ed_var rfl t1) ed_ci atI_zero) hh (by decide +kernel))) c4) (ed_tup eda_nil (by decide))) fun u8 H8 e8 t8 => ?_))
                replace t1 := t1.ex e8
                dsimp only
                refine w_seq (w_ifs (w_t (K := K) (b := false) (tk_andF (tk_is (tk_v (ed_eqT (s := "set") (ed_ixT (i := 0) (ed_var rfl t1) ed_ci atI_zero) hh (by decide +kernel))) a4)) fun H9 e9 => ifF rfl (w_next ?_)))
                have e09 := (e07.trans e8).trans e9
                dsimp only
                refine w_ret (w_d (K := K) (ed_is (ed_eqN (EvDL.rd (edl_lcM (xs := []) (f := fun y => y) (p := fun y => !fBd m sh i y) (g := fun y => y) (ed_var rfl (t8.ex e9)) rfl (by simp) (fun x => rfl) (fun y v Hc ec hy ty => absurd hy (by simp)) (fun y v Hc ec hy _ ty => ed_var rfl ty))) (edl_lst eda_nil (by decide)) rfl) (e := .bool true) rfl) fun v10 H10 e10 t10 => ?_)
                cases t10
                exact q H10 (e09.trans e10)
            · refine w_ifs (w_t (K := K) (b := true) (tk_is (tk_v (ed_eqT (s := "call") (ed_ixT (i := 0) (ed_var rfl t1) ed_ci atI_zero) hh (by decide +kernel))) d4) fun H3 e3 => ifT rfl ?_)
              replace t1 := t1.ex e3
              have e03 := (e1.trans e2).trans e3
              have S3 := hS.ex e03
              have ea : EvD K (tOp (rIxT K) (tVar 2) (tC (.int 1))) [some (.ref sl), some (.int (i : Int)), some (.ref pa), some (.int (w : Int)), none, none, none, none] H3 a := ed_ixT (i := 1) (ed_var rfl t1) ed_ci rfl
              have eb : EvD K (tOp (rIxT K) (tVar 2) (tC (.int 2))) [some (.ref sl), some (.int (i : Int)), some (.ref pa), some (.int (w : Int)), none, none, none, none] H3 b := ed_ixT (i := 2) (ed_var rfl t1) ed_ci rfl
              have enum : EvTK K (tNot (tB (tCall (spF K pNumber) [] (fun _ _ _ => False) (tCons (tOp (rIxT K) (tVar 2) (tC (.int 1))) (tCons (tCB (rLenS K) (tCons (tVar 0) tNil)) tNil))))) [some (.ref sl), some (.int (i : Int)), some (.ref pa), some (.int (w : Int)), none, none, none, none] H3 (!isNumD a (sh.length : Int)) := tk_not (tk_vB (ed_call (eda_cons ea (eda_cons (ed_is (ed_lenL (S3.rd rfl)) (by rw [List.length_map])) eda_nil)) ⟨_, _, rfl, rfl⟩))
              by_cases hnum : isNumD a (sh.length : Int) = true
              · obtain ⟨c, rfl, hc⟩ := isNumD_inv hnum
                have hcl : c < sh.length := by omega
                have hsc : sh[c]? = some sh[c] := List.getElem?_eq_getElem hcl
                rw [hnum] at enum
                by_cases hci : i < c
                · cases hbt : isTupL b with
                  | false =>
                    refine w_seq (w_ifs (w_t (K := K) (b := true) (tk_is (tk_or enum fun _ => tk_or (tk_v (ed_I0b ea (ed_var rfl (.int _)))) fun _ => tk_not (tk_vB (ed_isi (b := isTupL b) eb (isTupL_kit ub)))) (by rw [hbt]; simp)) fun H4 e4 => ifT rfl (w_ret (w_c ?_))))
                    have : callD sh i (.int (c : Int)) b = false := by
                      cases b <;> first | rfl | cases hbt
                    rw [this] at q
                    exact q H4 (e03.trans e4)
                  | true =>
                    refine w_seq (w_ifs (w_t (K := K) (b := false) (tk_is (tk_or enum fun _ => tk_or (tk_v (ed_I0b ea (ed_var rfl (.int _)))) fun _ => tk_not (tk_vB (ed_isi (b := isTupL b) eb (isTupL_kit ub)))) (by rw [hbt]; simp; omega)) fun H4 e4 => ifF rfl (w_next ?_)))
                    obtain ⟨ts, rfl⟩ : ∃ ts, b = .tuple ts := by
                      cases b <;> first | exact ⟨_, rfl⟩ | cases hbt
                    replace t1 := t1.ex e4
                    dsimp only
                    refine w_seq (w_asg (w_d (K := K) (ed_ixT (i := 2) (ed_var rfl t1) ed_ci rfl) fun u H5 e5 t5 => ?_))
                    replace t1 := t1.ex e5
                    have S5 := S3.ex (e4.trans e5)
                    obtain ⟨s1, s2⟩ := shP_at hsc
                    dsimp only
                    refine w_ifs (w_t (K := K) (b := !decide (ts.length = shP sh c)) (tk_is (tk_v (ed_nei (ed_len (ed_var rfl t5)) (ed_ixT (i := 0) (ed_ixL (i := (c : Int)) (S5.rd rfl) (ed_ixT (i := 1) (ed_var rfl t1) ed_ci rfl) (atI_nat (by rw [List.getElem?_map, hsc]; rfl))) ed_ci atI_zero))) (by rw [s1]; congr 1; exact decide_eq_decide.mpr (by omega))) fun H6 e6 => ?_)
                    by_cases hts : ts.length = shP sh c
                    · refine ifF (by simp [hts]) (w_next ?_)
                      refine hN _ _ ⟨u, ts, rfl, ?_, rfl, ((e3.trans e4).trans e5).trans e6, t5.ex e6⟩
                      simp only [callD, Int.toNat_natCast, hts]
                      simp [hcl, hci]
                    · refine ifT (by simp [hts]) (w_ret (w_c ?_))
                      have : callD sh i (.int (c : Int)) (.tuple ts) = false := by simp [callD, hts]
                      rw [this] at q
                      exact q H6 (((e03.trans e4).trans e5).trans e6)
                · refine w_seq (w_ifs (w_t (K := K) (b := true) (tk_is (tk_or enum fun _ => tk_orT (tk_is (tk_v (ed_I0b ea (ed_var rfl (.int _)))) (by simp; omega))) (by simp)) fun H4 e4 => ifT rfl (w_ret (w_c ?_))))
                  have : callD sh i (.int (c : Int)) b = false := by
                    cases b <;> simp [callD, hci]
                  rw [this] at q
                  exact q H4 (e03.trans e4)
              · refine w_seq (w_ifs (w_t (K := K) (b := true) (tk_orT (tk_is enum (by simp [hnum]))) fun H4 e4 => ifT rfl (w_ret (w_c ?_))))
                have : callD sh i a b = false := by
                  cases a <;> try rfl
                  cases b <;> try rfl
                  simp only [isNumD, Bool.not_eq_true, Bool.and_eq_false_iff] at hnum
                  simp only [callD, Bool.and_eq_false_iff]
                  rcases hnum with h | h
                  · exact .inl h
                  · exact .inr (.inl h)
                rw [this] at q
                exact q H4 (e03.trans e4)
          · skip
            refine w_seq (w_ifs (w_t (K := K) (b := true) (tk_is (tk_or (tk_v (ed_niTD ["set", "say", "if", "call"] (ed_ixT (i := 0) (ed_var rfl t1) ed_ci atI_zero) (eda_cons ed_cs (eda_cons ed_cs (eda_cons ed_cs (eda_cons ed_cs eda_nil)))) hh (by decide +kernel) (by decide))) fun _ => tk_v (ed_nei (ed_len (ed_var rfl t1)) (ed_i (ev_dgetD (K := K) (s := "call") [(Sum.inr "set", .int 3), (Sum.inr "say", .int 2), (Sum.inr "if", .int 4), (Sum.inr "call", .int 3)] (eps_cons ev_c ev_c (eps_cons ev_c ev_c (eps_cons ev_c ev_c (eps_cons ev_c ev_c eps_nil)))) (by simp) (ed_ixT (i := 0) (ed_var rfl t1) ed_ci atI_zero) rfl)))) ?_) fun H2 e2 => ?_))
            · simp; omega
            refine ifT rfl (w_ret (w_c ?_))
            rw [← no4 "call" rfl (.inr (.inr (.inr rfl))) (by rw [(by decide +kernel : lenW "call" = 3)]; exact hlen)]
            exact q H2 (e1.trans e2)
        · skip
          refine w_seq (w_ifs (w_t (K := K) (b := true) (tk_orT (tk_is (tk_v (ed_niTD ["set", "say", "if", "call"] (ed_ixT (i := 0) (ed_var rfl t1) ed_ci atI_zero) (eda_cons ed_cs (eda_cons ed_cs (eda_cons ed_cs (eda_cons ed_cs eda_nil)))) hh (by decide +kernel) (by decide))) (by simp [g4.1, g4.2.1, g4.2.2.1, g4.2.2.2]))) fun H2 e2 => ifT rfl (w_ret (w_c ?_))))
          rw [show (false : Bool) = fSt (m + 1) sh i (.tuple (h :: r)) from (isStD_no g4).symm]
          exact q H2 (e1.trans e2)
  | _ =>
    refine w_seq (w_ifs (w_t (K := K) (b := true) (tk_orT (tk_notF (tk_vB (ed_isi (b := false) (ed_var rfl t1) (by rfl))))) fun H1 e1 => ifT rfl (w_ret (w_c ?_))))
    have := q H1 e1
    rw [fSt_not rfl] at this
    exact this
end
end Hw

set_option maxRecDepth 100000
set_option maxHeartbeats 4000000
/-! LI4: the law's own look at programs -/
namespace Hw
open PySem PySem.Spec PyProof.Rows L2 Evl
local macro_rules | `(tactic| walk_at "dd") => `(tactic| first | rfl | decide | (simp; done) | omega)
local macro_rules | `(tactic| walk_at "td") => `(tactic| first | assumption | exact Td.int _ | exact Td.bl _ | exact Td.str _ | exact Td.non | exact Td.tup (by assumption) (by assumption))
local macro_rules | `(tactic| walk_at "ev") => `(tactic| first
  | exact ed_ci | exact ed_cs | exact ed_cb | exact ed_cn
  | (apply ed_cg; assumption)
  | (apply ed_var; (rfl); (walk_at "td"))
  | (apply ed_ixT; (walk_at "ev"); (walk_at "ev"); (first | rfl | assumption))
  | (apply ed_rowI; (rfl); (assumption); (walk_at "ev"); (rfl))
  | (apply ed_ixL; (apply EvDL.rd; walk_at "edl"); (walk_at "ev"); (rfl))
  | (apply ed_intb; (walk_at "ev"))
  | (apply ed_len; walk_at "ev")
  | (apply ed_lenV; (apply ev_rowR; (rfl); (assumption); (walk_at "ev"); (rfl)); (assumption))
  | (apply ed_Ii; (walk_at "ev"); (walk_at "ev"); (walk_at "cc"))
  | (apply ed_isi; (walk_at "ev"); (rfl))
  | (apply ed_I0i; (walk_at "ev"); (walk_at "ev"))
  | (apply ed_I0b; (walk_at "ev"); (walk_at "ev"))
  | (apply ed_eqi; (walk_at "ev"); (walk_at "ev"))
  | (apply ed_nei; (walk_at "ev"); (walk_at "ev"))
  | (apply ed_andF; walk_at "ev")
  | (apply ed_andV; (walk_at "ev"); (intro _; walk_at "ev"))
  | (apply ed_orT; walk_at "ev")
  | (apply ed_orV; (walk_at "ev"); (intro _; walk_at "ev"))
  | (apply ed_notT; walk_at "ev")
  | (apply ed_notF; walk_at "ev")
  | (apply ed_notV; walk_at "ev")
  | (apply ed_chain; (walk_at "ev"); (walk_at "ev"); (intro _; walk_at "ev"))
  | (apply ed_eqS; (walk_at "ev"); (walk_at "ev"); (walk_at "bb"); (walk_at "bb"))
  | (apply ed_neS; (walk_at "ev"); (walk_at "ev"); (walk_at "bb"); (walk_at "bb"))
  | (apply ed_inT; (walk_at "ev"); (walk_at "ev"); (rfl); (rfl))
  | (apply ed_niT; (walk_at "ev"); (walk_at "ev"); (rfl); (rfl))
  | (apply ed_tup; (walk_at "eva"); (walk_at "bb"))
  | (apply ed_sl; (walk_at "ev"); (walk_at "evo"); (walk_at "evo"))
  | (apply ed_eqN; (apply EvDL.rd; walk_at "edl"); (walk_at "edl"); (walk_at "bb"))
  | (apply ed_neN; (apply EvDL.rd; walk_at "edl"); (walk_at "edl"); (walk_at "bb"))
  | (apply ed_ixL; (apply edr_var; (rfl); (assumption); (assumption)); (walk_at "ev"); (first | rfl | assumption))
  | (apply ed_lenL; (apply edr_var; (rfl); (assumption); (assumption)))
  | (apply ed_call; (walk_at "eva"); (walk_at "post")))
local macro_rules | `(tactic| walk_at "edl") => `(tactic| first
  | assumption
  | (apply edl_lst; (walk_at "eva"); (walk_at "bb")))
local macro_rules | `(tactic| walk_at "eva") => `(tactic| first
  | exact eda_nil
  | (apply eda_cons; (walk_at "ev"); (walk_at "eva")))
local macro_rules | `(tactic| walk_at "evo") => `(tactic| first
  | exact eok_none
  | (apply eok_some; walk_at "ev"))
local macro_rules | `(tactic| walk_at "bb") => `(tactic| first | rfl | assumption | (simp; done) | (simp; omega) | decide +kernel)
local macro_rules | `(tactic| walk_at "et") => `(tactic| first
  | exact tk_yes
  | (apply tk_andF; walk_at "et")
  | (apply tk_and; (walk_at "et"); (intro _; walk_at "et"))
  | (apply tk_orT; walk_at "et")
  | (apply tk_or; (walk_at "et"); (intro _; walk_at "et"))
  | (apply tk_notT; walk_at "et")
  | (apply tk_notF; walk_at "et")
  | (apply tk_not; walk_at "et")
  | (apply tk_v; walk_at "ev")
  | (apply tk_vB; walk_at "ev"))
local macro_rules | `(tactic| walk_at "if") => `(tactic| first
  | (apply pst_whenF; (walk_at "et"); (walk_at "bb"))
  | (apply pst_whenT; (walk_at "et"); (walk_at "bb")))
local macro_rules | `(tactic| walk_at "post") => `(tactic| first | assumption | exact ⟨_, _, rfl, rfl⟩ | exact ⟨_, _, _, _, rfl, by omega, by omega, rfl⟩ | exact ⟨_, _, _, 0, rfl, by omega, by omega, rfl⟩)
local macro_rules | `(tactic| walk_at "cc") => `(tactic| first | assumption | decide | omega | (refine ⟨?_, ?_⟩ <;> first | decide | omega) | (exact Or.inl (by constructor <;> omega)))

def extS : Stm → Nat
  | .ite _ a b => cntB a + cntB b
  | _ => 0
theorem cntB_ext : ∀ b : List Stm, cntB b = b.length + (b.map extS).sum
  | [] => by simp [cntB]
  | s :: r => by
    have := cntB_ext r
    cases s <;> simp [cntB, cntS, extS] at this ⊢ <;> omega
theorem sum_take {b : List Stm} {i : Nat} {x : Stm} (h : b[i]? = some x) : ((b.take (i + 1)).map extS).sum = ((b.take i).map extS).sum + extS x := by
  rw [take_snoc h]
  simp
/-- how many steps -/
def cntD : Nat → List PyData → Nat
  | 0, _ => 0
  | n + 1, ds => (ds.map fun d => match d with
    | .tuple [h, _, .tuple b, .tuple c] => if isStrD "if" h then 1 + (cntD n b + cntD n c) else 1
    | _ => 1).sum
theorem cntD_enc : ∀ (n : Nat) (b : List Stm), dpB b < n → cntD n (encB b) = cntB b
  | 0, b, h => by omega
  | n + 1, [], h => by simp [cntD, encB, cntB]
  | n + 1, s :: r, h => by
    have hs : dpS s < n + 1 ∧ dpB r < n + 1 := by simp only [dpB] at h; omega
    have ih := cntD_enc (n + 1) r hs.2
    simp only [cntD, encB, List.map_cons, List.sum_cons, cntB] at ih ⊢
    rw [ih]
    congr 1
    cases s with
    | ite t a c =>
      have hd : dpB a < n ∧ dpB c < n := by have := hs.1; simp only [dpS] at this; omega
      simp only [encS, cntS, cntD_enc n a hd.1, cntD_enc n c hd.2, sd_if_if, if_true]
    | _ => simp [encS, cntS]
  termination_by n b => (n, b.length)
structure WkD where
  ps : Int
  os : Int
  body : PyData
def encWD (w : WkD) : PyData := .tuple [.int w.ps, .int w.os, w.body]
def shD (ws : List WkD) : List (Nat × Nat) := ws.map fun w => (w.ps.toNat, w.os.toNat)
def inD : PyData → List PyData
  | .tuple ds => ds
  | _ => []
def okWD (ws : List WkD) (i : Nat) : Bool := match ws[i]? with
  | some w => bdAll (isStD (shD ws) i 5) w.body && decide (cntD 6 (inD w.body) ≤ 100)
  | none => false
def rgD (w : WkD) : Bool := (decide (0 ≤ w.ps) && decide (w.ps ≤ 3)) && (decide (0 ≤ w.os) && decide (w.os ≤ 99))
def firstD0 (ws : List WkD) : Bool := match ws with
  | w :: _ => decide (w.ps = 0)
  | [] => true
/-- whether works are a program -/
def isPrD (ws : List WkD) : Bool := (decide (1 ≤ ws.length) && decide (ws.length ≤ 4)) && (firstD0 ws && (ws.all rgD && (List.range ws.length).all (okWD ws)))
def toD (w : Wk) : WkD := ⟨w.params, w.owns, .tuple (encB w.body)⟩
theorem shD_toD (p : List Wk) : shD (p.map toD) = shapes p := by
  simp [shD, shapes, toD, Function.comp_def]
theorem encWD_toD (p : List Wk) : (p.map toD).map encWD = p.map encW := by
  simp [encWD, toD, encW, Function.comp_def]
theorem okWD_toD {p : List Wk} {i : Nat} {w : Wk} (h : p[i]? = some w) : okWD (p.map toD) i = (okB (shapes p) i w.body 0 && decide (cntB w.body ≤ 100)) := by
  simp only [okWD, List.getElem?_map, h, Option.map_some, shD_toD, toD, bdAll, inD]
  rw [isBdD_enc w.body 5 0 rfl]
  cases hb : okB (shapes p) i w.body 0 with
  | false => rfl
  | true =>
    congr 1
    refine decide_eq_decide.mpr ?_
    show cntD 6 (encB w.body) ≤ 100 ↔ _
    rw [cntD_enc 6 w.body (by have := okB_dp _ _ hb; omega)]
theorem isPrD_toD (p : List Wk) : isPrD (p.map toD) = okP p := by
  have hr : ∀ w : Wk, rgD (toD w) = (decide (w.params ≤ 3) && decide (w.owns ≤ 99)) := fun w => by
    show ((decide ((0 : Int) ≤ (w.params : Int)) && decide ((w.params : Int) ≤ 3)) && (decide ((0 : Int) ≤ (w.owns : Int)) && decide ((w.owns : Int) ≤ 99))) = _
    rw [Bool.eq_iff_iff]
    simp only [Bool.and_eq_true, decide_eq_true_eq]
    omega
  rw [Bool.eq_iff_iff]
  simp only [isPrD, okP, Bool.and_eq_true, decide_eq_true_eq, List.length_map, List.all_eq_true, List.mem_range]
  constructor
  · rintro ⟨⟨h1, h2⟩, h3, h4, h5⟩
    refine ⟨h1, h2, fun i hi => ?_⟩
    have hg : p[i]? = some p[i] := List.getElem?_eq_getElem hi
    have g4 := h4 (toD p[i]) (List.mem_map_of_mem (List.getElem_mem hi))
    rw [hr] at g4
    have g5 := h5 i hi
    rw [okWD_toD hg] at g5
    simp only [Bool.and_eq_true, decide_eq_true_eq] at g4 g5
    simp only [okW, hg, Bool.and_eq_true, Bool.or_eq_true, decide_eq_true_eq]
    refine ⟨g4.1, g4.2, ?_, g5.1, g5.2⟩
    by_cases e : i = 0
    · subst e
      refine .inr ?_
      cases p with
      | nil => simp at hi
      | cons w r =>
        simp only [firstD0, List.map_cons, toD, decide_eq_true_eq] at h3
        simpa using h3
    · exact .inl e
  · rintro ⟨h1, h2, h3⟩
    have hw : ∀ i (hi : i < p.length), p[i].params ≤ 3 ∧ p[i].owns ≤ 99 ∧ (i ≠ 0 ∨ p[i].params = 0) ∧ okB (shapes p) i p[i].body 0 = true ∧ cntB p[i].body ≤ 100 := fun i hi => by
      have hg : p[i]? = some p[i] := List.getElem?_eq_getElem hi
      have := h3 i hi
      simpa only [okW, hg, Bool.and_eq_true, Bool.or_eq_true, decide_eq_true_eq] using this
    refine ⟨⟨h1, h2⟩, ?_, fun x hx => ?_, fun i hi => ?_⟩
    · cases p with
      | nil => rfl
      | cons w r =>
        have := (hw 0 (by simp)).2.2.1
        simp only [List.getElem_cons_zero] at this
        simp only [firstD0, List.map_cons, toD, decide_eq_true_eq]
        rcases this with h | h
        · exact absurd rfl h
        · omega
    · obtain ⟨w, hm, rfl⟩ := List.mem_map.mp hx
      obtain ⟨i, hi, rfl⟩ := List.mem_iff_getElem.mp hm
      have := hw i hi
      rw [hr]
      simp [this.1, this.2.1]
    · have hg : p[i]? = some p[i] := List.getElem?_eq_getElem hi
      rw [okWD_toD hg]
      have := hw i hi
      simp [this.2.2.2.1, this.2.2.2.2]
mutual
theorem smDs_S : ∀ s : Stm, smD (encS s) = true → smS s = true
  | .set p t, _ => rfl
  | .say t, _ => rfl
  | .call c ts, h => by
    simp only [encS, smD, smDs, Bool.and_eq_true, decide_eq_true_eq, List.length_map] at h
    simp only [smS, decide_eq_true_eq]
    exact h.2.2.2.1.1
  | .ite t a b, h => by
    simp only [encS, smD, smDs, Bool.and_eq_true, decide_eq_true_eq, encB_length] at h
    simp only [smS, Bool.and_eq_true, decide_eq_true_eq]
    exact ⟨⟨h.2.2.2.1.1, h.2.2.2.2.1.1⟩, smDs_B a h.2.2.2.1.2, smDs_B b h.2.2.2.2.1.2⟩
theorem smDs_B : ∀ b : List Stm, smDs (encB b) = true → smB b = true
  | [], _ => rfl
  | s :: r, h => by
    simp only [encB, smDs, Bool.and_eq_true] at h
    simp only [smB, Bool.and_eq_true]
    exact ⟨smDs_S s h.1, smDs_B r h.2⟩
end
def pLP (ds : List PyData) (d : PyData) : Prop := ∃ ws : List WkD, ds = [.tuple (ws.map encWD)] ∧ ws.length ≤ 1000 ∧ (∀ w ∈ ws, w.body.canLay0 = true ∧ smD w.body = true) ∧ d = .bool (isPrD ws)
theorem layAll_of : ∀ {L : List PyData}, (∀ y ∈ L, y.canLay0 = true) → PyData.canLayAll0 L = true
  | [], _ => by simp [PyData.canLayAll0]
  | x :: r, h => by
    simp only [PyData.canLayAll0, Bool.and_eq_true]
    exact ⟨h x List.mem_cons_self, layAll_of fun y hy => h y (List.mem_cons_of_mem _ hy)⟩
section
variable {P : Program} {w : World} {K : PySem.W.Frag} {mg : Str → Option Value} {base : Heap} (T : Tx K mg)
include T
theorem lcnt_step {n : Nat} (spI : Sp) (hI : 0 < n → spI = spF K (pCount n)) (GI : Fn__law_count T P w base CX0 n spI) : Fn__law_count T P w base CX0 (n + 1) (spF K (pCount (n + 1))) := by
  have G__law_count := GI
  refine T.F__law_count.ok sc__law_count (spF_len fun ds d h => by obtain ⟨_, rfl, _⟩ := h; rfl) fun cdv A outer s H vs Q E hr h => ?_
  obtain ⟨ds, d, ht, ⟨b, rfl, hl, hs, hd, rfl⟩, k⟩ := h
  obtain _ | ⟨t1, _ | _⟩ := ht
  refine ⟨_, (pss_cons (ps_set (i := 1) sc__law_count.nd rfl (Or.inl rfl) (pe_callB (kc_len K) rfl T.b_len PySem.boot_len (pa_cons (pv 0) pa_nil)))
  (pss_cons (ps_for (passes_of rfl) rfl (kpi_tup K (pv 0)) (pg_name (i := 2) sc__law_count.nd rfl (Or.inl rfl))
    (pss_one (ps_if (pt_cmpR (kop_eq K hr.units) (pe_ix (kix_tup K) (pv 2) pe_int (fun _ _ => rfl)) pe_str (nomark _))
      (pss_one (ps_set (i := 1) sc__law_count.nd rfl (Or.inl rfl) (pe_op op_add (pe_op op_add (pv 1) (pe_call G__law_count (hr.mono (by omega)) (by rfl) T.g__law_count T.k__law_count T.bd__law_count .nil pass0 (pa_cons (pe_ix (kix_tup K) (pv 2) pe_int (fun _ _ => rfl)) pa_nil))) (pe_call G__law_count (hr.mono (by omega)) (by rfl) T.g__law_count T.k__law_count T.bd__law_count .nil pass0 (pa_cons (pe_ix (kix_tup K) (pv 2) pe_int (fun _ _ => rfl)) pa_nil)))))
      pss_nil)))
  (pss_one (ps_ret (pv 1))))), ?_⟩
  rename_i v
  have t0 := t1
  rw [encB_map] at t1
  refine w_seq (w_asg (w_d (K := K) (d := .int (b.length : Int)) (ed_is (ed_len (ed_var rfl t1)) (by rw [List.length_map])) fun u H1 e1 tu => ?_))
  cases tu
  replace t1 := t1.ex e1
  dsimp only
  refine w_seq (w_forTv (K := K) (n := 0) (j := 2) b encS rfl t1 (fun i σ' H' => ∃ u2 : Option V, σ' = [some v, some (.int ((b.length + ((b.take i).map extS).sum : Nat) : Int)), u2] ∧ Ex H1 H') ⟨none, by simp; rfl, Ex.refl _⟩ ?_ ?_ ?_)
  · rintro i σ' H' ⟨_, rfl, e⟩
    exact ex_keep e
  · rintro i x v2 σ' H2 hx tx ⟨u2, rfl, e2⟩
    have hm : x ∈ b := List.mem_of_getElem? hx
    have hsx := smB_mem hs hm
    have hdx := dpB_mem hm
    dsimp only
    obtain ⟨z, zs, hz⟩ := encS_tup x
    cases x with
    | ite t a c =>
      simp only [encS] at tx
      simp only [smS, Bool.and_eq_true, decide_eq_true_eq] at hsx
      simp only [dpS] at hdx
      have hsp := hI (by omega)
      subst hsp
      refine w_ifs (w_t (K := K) (b := true) (tk_is (tk_v (ed_eqT (s := "if") (ed_ixT (i := 0) (ed_var rfl tx) ed_ci atI_zero) (by decide +kernel) (by decide +kernel))) (by simp)) fun H3 e3 => ifT rfl ?_)
      replace tx := tx.ex e3
      refine w_asg (w_d (K := K) (ed_I0i (ed_I0i (ed_var rfl (.int _)) (ed_call (eda_cons (ed_ixT (i := 2) (ed_var rfl tx) ed_ci rfl) eda_nil) ⟨a, rfl, hsx.1.1, hsx.2.1, by omega, rfl⟩)) (ed_call (eda_cons (ed_ixT (i := 3) (ed_var rfl tx) ed_ci rfl) eda_nil) ⟨c, rfl, hsx.1.2, hsx.2.2, by omega, rfl⟩)) fun u H4 e4 tu => ?_)
      cases tu
      refine ⟨some v2, ?_, (e2.trans e3).trans e4⟩
      rw [sum_take hx]
      simp only [extS, List.set, Int.natCast_add, Int.add_assoc]
    | _ =>
      simp only [encS] at tx
      refine w_ifs (w_t (K := K) (b := false) (tk_is (tk_v (ed_eqT (s := "if") (ed_ixT (i := 0) (ed_var rfl tx) ed_ci atI_zero) (by decide +kernel) (by decide +kernel))) (by simp)) fun H3 e3 => ifF rfl (w_next ?_))
      refine ⟨some v2, ?_, e2.trans e3⟩
      rw [sum_take hx]
      simp only [extS, List.set, Nat.add_zero]
  · rintro σ' H2 ⟨u2, rfl, e2⟩
    rw [List.take_length]
    dsimp only
    refine w_ret (w_v rfl ?_)
    have := k (.int (cntB b : Int)) H2 (e1.trans e2) (.int _)
    rw [cntB_ext b] at this
    exact this
theorem ok_lcnt : ∀ n : Nat, Fn__law_count T P w base CX0 (n + 1) (spF K (pCount (n + 1)))
  | 0 => lcnt_step T (n := 0) (fun _ _ _ _ => False) (fun h => absurd h (Nat.lt_irrefl _)) (fn_vac fun _ _ _ _ h => h)
  | n + 1 => lcnt_step T (n := n + 1) (spF K (pCount (n + 1))) (fun _ => rfl) (ok_lcnt n)
theorem ok_lpr (GB : Fn__law_is_body T P w base CX0 19 (spLS K (fBd 5) 5)) (GC : Fn__law_count T P w base CX0 7 (spF K (pCount 7))) : Fn__law_is_program T P w base CX0 20 (spF K pLP) := by
  have G__law_is_body := GB
  have G__law_count := GC
  refine T.F__law_is_program.ok sc__law_is_program (spF_len fun ds d h => by obtain ⟨_, rfl, _⟩ := h; rfl) fun cdv A outer s H vs Q E hr h => ?_
  obtain ⟨ds, d, ht, ⟨ws, rfl, hz, hb, rfl⟩, k⟩ := h
  obtain _ | ⟨t1, _ | _⟩ := ht
  rename_i v
  refine ⟨_, (pss_cons (ps_setLc (i := 1) (own := [("_law_work", 3)]) (g := gName 3) (tt := tYes) rfl sc__law_is_program.nd rfl rfl (sw_true rfl rfl rfl (by decide +kernel)) (kpi_tup K (pv 0)) (blkOk_by (N := ["_law_program_here", "_law_shapes", "_law_at", "_law_work", "_law_one"]) (sc := defScope s__law_is_program) (by decide +kernel)) (fun _ _ _ _ _ => (pg_name (i := 3) sc__law_is_program.nd rfl (Or.inl rfl))) (fun _ _ _ _ _ => pts_nil) (fun _ _ _ _ _ => (pe_slice (ksl_tup K) (pv 3) po_none (po_some pe_int))))
  (pss_cons (ps_if (PW.pt (pw_or (pt_not (pt_chain op_le op_le pe_int (pe_callB (kc_len K) rfl T.b_len PySem.boot_len (pa_cons (pv 1) pa_nil)) pe_int)) (pw_or1 (pt_cmpR op_ne (pe_ix (kix_tup K) (pe_ix (kix_list K) (pv 1) pe_int (fun _ _ => rfl)) pe_int (fun _ _ => rfl)) pe_int (nomark _)))))
    (pss_one (ps_ret pe_bl))
    pss_nil)
  (pss_cons (ps_if (pt_cmpR (kop_ne K hr.units) (pe_lc (own := [("_law_one", 4)]) (g := gName 4) (tt := _) rfl sc__law_is_program.nd (kpi_list K (pv 1)) (blkOk_by (N := ["_law_program_here", "_law_shapes", "_law_at", "_law_work", "_law_one"]) (sc := defScope s__law_is_program) (by decide +kernel)) (fun _ _ _ _ _ => (pg_name (i := 4) sc__law_is_program.nd rfl (Or.inl rfl))) (fun _ _ _ _ _ => (pts_one (PW.pt (pw_or (pt_not (pt_chain op_le op_le pe_int (pe_ix (kix_tup K) (pv 4) pe_int (fun _ _ => rfl)) pe_int)) (pw_or1 (pt_not (pt_chain op_le op_le pe_int (pe_ix (kix_tup K) (pv 4) pe_int (fun _ _ => rfl)) pe_int))))))) (fun _ _ _ _ _ => (pv 4))) (pe_lst pa_nil) (nomark _))
    (pss_one (ps_ret pe_bl))
    pss_nil)
  (pss_cons (ps_for (passes_of rfl) rfl (pi_range1 rfl T.b_range (pa_cons (pe_callB (kc_len K) rfl T.b_len PySem.boot_len (pa_cons (pv 0) pa_nil)) pa_nil)) (pg_name (i := 2) sc__law_is_program.nd rfl (Or.inl rfl))
    (pss_one (ps_if (PW.pt (pw_or (pt_not (pt_val (pe_call G__law_is_body (hr.mono (by omega)) (by rfl) T.g__law_is_body T.k__law_is_body T.bd__law_is_body .nil pass0 (pa_cons (pv 1) (pa_cons (pv 2) (pa_cons (pe_ix (kix_tup K) (pe_ix (kix_tup K) (pv 0) (pv 2) (fun _ _ => rfl)) pe_int (fun _ _ => rfl)) (pa_cons pe_int pa_nil))))))) (pw_or1 (pt_cmpR op_gt (pe_call G__law_count (hr.mono (by omega)) (by rfl) T.g__law_count T.k__law_count T.bd__law_count .nil pass0 (pa_cons (pe_ix (kix_tup K) (pe_ix (kix_tup K) (pv 0) (pv 2) (fun _ _ => rfl)) pe_int (fun _ _ => rfl)) pa_nil)) pe_int (nomark _)))))
      (pss_one (ps_ret pe_bl))
      pss_nil)))
  (pss_one (ps_ret pe_bl)))))), ?_⟩
  have kq : ∀ b H', isPrD ws = b → Ex H H' → Q (.bl b) H' := fun b H' e h => k (.bl b) H' h (by rw [e]; exact .bl _)
  clear k
  refine w_seq (w_asg (w_dl (K := K) (edl_lcM (xs := ws) (f := encWD) (p := fun _ => true) (g := fun w => .tuple [.int w.ps, .int w.os]) (ed_var rfl t1) rfl (by omega) (fun x => rfl) (fun x v H1 e1 hx tx => tk_yes) (fun x v H1 e1 hx _ tx => ed_is (ed_sl (lo := none) (hi := some ((2 : Nat) : Int)) (ed_var rfl tx) eok_none (eok_some ed_ci)) (by rfl))) fun sl xs H1 hp e1 hsl ta => ?_))
  rw [filter_yes] at ta
  replace t1 := t1.ex e1
  dsimp only
  have elen : EvD K (tCB (rLenS K) (tCons (tVar 1) tNil)) [some v, some (.ref sl), none, none, none] H1 (.int (ws.length : Int)) := ed_is (ed_lenL (edr_var rfl (SqL.of hsl) ta)) (by rw [List.length_map])
  by_cases hlen : 1 ≤ ws.length ∧ ws.length ≤ 4
  · obtain ⟨w0, r, rfl⟩ : ∃ w0 r, ws = w0 :: r := by
      cases ws with
      | nil => simp at hlen
      | cons a b => exact ⟨a, b, rfl⟩
    have hle : (1 : Int) ≤ ((w0 :: r).length : Int) ∧ ((w0 :: r).length : Int) ≤ 4 := by omega
    refine w_seq (w_ifs (w_t (K := K) (b := !decide (w0.ps = 0)) (tk_is (tk_or (tk_not (tk_v (ed_chain (i := 1) (k := 4) ed_ci elen fun _ => ed_ci))) fun _ => tk_v (ed_nei (ed_ixT (i := 0) (ed_ixL (i := 0) (d := .tuple [.int w0.ps, .int w0.os]) (edr_var rfl (SqL.of hsl) ta) ed_ci atI_zero) ed_ci atI_zero) ed_ci)) (by rw [decide_eq_true hle.1, decide_eq_true hle.2]; simp)) fun H2 e2 => ?_))
    by_cases h0 : w0.ps = 0
    · refine ifF (by simp [h0]) (w_next ?_)
      have ta2 := ta.ex e2
      have hsl2 := e2 _ _ hsl
      dsimp only
      refine w_seq (w_ifs (w_t (K := K) (b := !(w0 :: r).all rgD) (tk_is (tk_v (ed_neN (EvDL.rd (edl_lcML (xs := w0 :: r) (f := fun w => .tuple [.int w.ps, .int w.os]) (p := fun w => !rgD w) (g := fun w => .tuple [.int w.ps, .int w.os]) (edr_var rfl (SqL.of hsl2) ta2) rfl (by omega) (fun x => rfl) (fun x v H3 e3 hx tx => tk_is (tk_or (tk_not (tk_v (ed_chain (i := 0) (k := 3) ed_ci (ed_ixT (i := 0) (ed_var rfl tx) ed_ci atI_zero) fun _ => ed_ci))) fun _ => tk_not (tk_v (ed_chain (i := 0) (k := 99) ed_ci (ed_ixT (i := 1) (ed_var rfl tx) ed_ci rfl) fun _ => ed_ci))) (Bool.not_and _ _).symm) (fun x v H3 e3 hx _ tx => ed_var rfl tx))) (edl_lst eda_nil (by decide)) (layAll_of fun y hy => by obtain ⟨x, _, rfl⟩ := List.mem_map.mp hy; simp [PyData.canLay0, PyData.canLayAll0]))) (by rw [List.isEmpty_map, filter_not_isEmpty])) fun H3 e3 => ?_))
      cases hrg : (w0 :: r).all rgD with
      | false =>
        refine ifT rfl (w_ret (w_c (kq false H3 (by simp only [isPrD, hrg, Bool.false_and, Bool.and_false]) ((e1.trans e2).trans e3))))
      | true =>
        refine ifF rfl (w_next ?_)
        have hS : ShAt K sl (shD (w0 :: r)) H3 := by
          refine ⟨⟨xs, SqL.of (e3 _ _ hsl2), ?_⟩, by simp only [shD, List.length_map]; omega⟩
          have e : (shD (w0 :: r)).map encSh = (w0 :: r).map fun w => .tuple [.int w.ps, .int w.os] := by
            simp only [shD, List.map_map]
            refine List.map_congr_left fun w hw => ?_
            have := List.all_eq_true.mp hrg w hw
            simp only [rgD, Bool.and_eq_true, decide_eq_true_eq] at this
            simp only [Function.comp_apply, encSh, Int.toNat_of_nonneg this.1.1, Int.toNat_of_nonneg this.2.1]
          rw [e]
          exact ta2.ex e3
        have e03 := (e1.trans e2).trans e3
        replace t1 := (t1.ex e2).ex e3
        have hpr : isPrD (w0 :: r) = (List.range (w0 :: r).length).all (okWD (w0 :: r)) := by
          simp only [isPrD, hrg, firstD0, h0, hlen.1, hlen.2, decide_true, Bool.true_and]
        generalize w0 :: r = ws at *
        dsimp only
        refine w_seq (w_forR (K := K) (n := ws.length) (eda_cons (ed_is (ed_len (ed_var rfl t1)) (by rw [List.length_map])) eda_nil) (by omega) (fun i σ' H' => ∃ u, σ' = [some v, some (.ref sl), u, none, none] ∧ Ex H3 H' ∧ ∀ j < i, okWD ws j = true) ?_ ?_ ?_)
        · exact fun H4 e4 => ⟨_, rfl, e4, fun j hj => absurd hj (Nat.not_lt_zero j)⟩
        · rintro i σ' H4 hi ⟨u, rfl, e4, hj⟩
          have hg : ws[i]? = some ws[i] := List.getElem?_eq_getElem hi
          obtain ⟨hb1, hb2⟩ := hb ws[i] (List.getElem_mem hi)
          have S4 := hS.ex e4
          have t4 := t1.ex e4
          have hsi : i < (shD ws).length := by simp only [shD, List.length_map]; exact hi
          have ebd : EvD K (tOp (rIxT K) (tOp (rIxT K) (tVar 0) (tVar 2)) (tC (.int 2))) [some v, some (.ref sl), some (.int (i : Int)), none, none] H4 ws[i].body := ed_ixT (i := 2) (ed_ixT (i := (i : Int)) (ed_var rfl t4) (ed_var rfl (.int _)) (atI_nat (by rw [List.getElem?_map, hg]; rfl))) ed_ci rfl
          have ebody := ed_ls (K := K) (f := fBd 5) (n := 5) (E := fun _ _ _ => False) S4 (j := 1) (σ := [some v, some (.ref sl), some (.int (i : Int)), none, none]) (te := tVar 2) (tg := tC (.int 0)) (w := 0) rfl (ed_var rfl (.int _)) ebd ed_ci hsi rfl hb1 hb2
          dsimp only
          cases hbd : fBd 5 (shD ws) i ws[i].body with
          | false =>
            rw [hbd] at ebody
            refine w_ifs (w_t (K := K) (b := true) (tk_orT (tk_notF (tk_vB ebody))) fun H5 e5 => ifT rfl (w_ret (w_c (kq false H5 ?_ ((e03.trans e4).trans e5)))))
            rw [hpr, List.all_eq_false]
            refine ⟨i, List.mem_range.mpr hi, ?_⟩
            have : bdAll (isStD (shD ws) i 5) ws[i].body = false := hbd
            simp [okWD, hg, this]
          | true =>
            rw [hbd] at ebody
            obtain ⟨b, hbb⟩ := isBdD_inv hbd
            have hbd2 : okB (shD ws) i b 0 = true := by
              rw [← isBdD_enc b 5 0 rfl]
              have := hbd
              simp only [fBd, hbb, bdAll] at this
              exact this
            have hdp := okB_dp _ _ hbd2
            rw [hbb] at ebd
            have hok : okWD ws i = decide (cntB b ≤ 100) := by
              have h2 : bdAll (isStD (shD ws) i 5) ws[i].body = true := hbd
              rw [hbb] at h2
              simp only [okWD, hg, hbb, h2, Bool.true_and, inD, cntD_enc 6 b (by omega)]
            have sb : b.length ≤ 20000 ∧ smB b = true := by
              rw [hbb] at hb2
              simp only [smD, Bool.and_eq_true, decide_eq_true_eq, encB_length] at hb2
              exact ⟨hb2.1, smDs_B b hb2.2⟩
            refine w_ifs (w_t (K := K) (b := !decide (cntB b ≤ 100)) (tk_is (tk_or (tk_notT (tk_vB ebody)) fun _ => tk_v (ed_I0b (ed_call (eda_cons ebd eda_nil) ⟨b, rfl, sb.1, sb.2, by omega, rfl⟩) ed_ci)) (by by_cases h : cntB b ≤ 100 <;> simp [h] <;> omega)) fun H5 e5 => ?_)
            by_cases hc : cntB b ≤ 100
            · refine ifF (by simp [hc]) (w_next ⟨_, rfl, e4.trans e5, fun j hj2 => ?_⟩)
              rcases (by omega : j < i ∨ j = i) with h | h
              · exact hj j h
              · rw [h, hok]
                simp [hc]
            · refine ifT (by simp [hc]) (w_ret (w_c (kq false H5 ?_ ((e03.trans e4).trans e5))))
              rw [hpr, List.all_eq_false]
              exact ⟨i, List.mem_range.mpr hi, by rw [hok]; simp [hc]⟩
        · rintro σ' H4 ⟨u, rfl, e4, hj⟩
          dsimp only
          refine w_ret (w_c (kq true H4 ?_ (e03.trans e4)))
          rw [hpr, List.all_eq_true]
          exact fun j hj2 => hj j (List.mem_range.mp hj2)
    · refine ifT (by simp [h0]) (w_ret (w_c (kq false H2 ?_ (e1.trans e2))))
      simp [isPrD, firstD0, h0]
  · refine w_seq (w_ifs (w_t (K := K) (b := true) (tk_orT (tk_is (tk_not (tk_v (ed_chain (i := 1) (k := 4) ed_ci elen fun _ => ed_ci))) (by simp; omega))) fun H2 e2 => ifT rfl (w_ret (w_c (kq false H2 ?_ (e1.trans e2))))))
    have : (decide (1 ≤ ws.length) && decide (ws.length ≤ 4)) = false := by simp; omega
    simp only [isPrD, this, Bool.false_and]
end
end Hw

set_option maxRecDepth 100000
set_option maxHeartbeats 4000000
/-! LF3: the law's own reader: things -/
namespace Hw
open PySem PySem.Spec PyProof.Rows L2 Evl
local macro_rules | `(tactic| walk_at "dd") => `(tactic| first | rfl | decide | (simp; done) | omega)
local macro_rules | `(tactic| walk_at "td") => `(tactic| first | assumption | exact Td.int _ | exact Td.bl _ | exact Td.str _ | exact Td.non | exact Td.tup (by assumption) (by assumption))
local macro_rules | `(tactic| walk_at "ev") => `(tactic| first
  | exact ed_ci | exact ed_cs | exact ed_cb | exact ed_cn
  | (apply ed_cg; assumption)
  | (apply ed_var; (rfl); (walk_at "td"))
  | (apply ed_ixT; (walk_at "ev"); (walk_at "ev"); (first | rfl | assumption))
  | (apply ed_rowI; (rfl); (assumption); (walk_at "ev"); (rfl))
  | (apply ed_ixL; (apply EvDL.rd; walk_at "edl"); (walk_at "ev"); (rfl))
  | (apply ed_intb; (walk_at "ev"))
  | (apply ed_len; walk_at "ev")
  | (apply ed_lenV; (apply ev_rowR; (rfl); (assumption); (walk_at "ev"); (rfl)); (assumption))
  | (apply ed_Ii; (walk_at "ev"); (walk_at "ev"); (walk_at "cc"))
  | (apply ed_isi; (walk_at "ev"); (rfl))
  | (apply ed_I0i; (walk_at "ev"); (walk_at "ev"))
  | (apply ed_I0b; (walk_at "ev"); (walk_at "ev"))
  | (apply ed_eqi; (walk_at "ev"); (walk_at "ev"))
  | (apply ed_nei; (walk_at "ev"); (walk_at "ev"))
  | (apply ed_andF; walk_at "ev")
  | (apply ed_andV; (walk_at "ev"); (intro _; walk_at "ev"))
  | (apply ed_orT; walk_at "ev")
  | (apply ed_orV; (walk_at "ev"); (intro _; walk_at "ev"))
  | (apply ed_notT; walk_at "ev")
  | (apply ed_notF; walk_at "ev")
  | (apply ed_notV; walk_at "ev")
  | (apply ed_chain; (walk_at "ev"); (walk_at "ev"); (intro _; walk_at "ev"))
  | (apply ed_eqS; (walk_at "ev"); (walk_at "ev"); (walk_at "bb"); (walk_at "bb"))
  | (apply ed_neS; (walk_at "ev"); (walk_at "ev"); (walk_at "bb"); (walk_at "bb"))
  | (apply ed_inT; (walk_at "ev"); (walk_at "ev"); (rfl); (rfl))
  | (apply ed_niT; (walk_at "ev"); (walk_at "ev"); (rfl); (rfl))
  | (apply ed_tup; (walk_at "eva"); (walk_at "bb"))
  | (apply ed_sl; (walk_at "ev"); (walk_at "evo"); (walk_at "evo"))
  | (apply ed_eqN; (apply EvDL.rd; walk_at "edl"); (walk_at "edl"); (walk_at "bb"))
  | (apply ed_neN; (apply EvDL.rd; walk_at "edl"); (walk_at "edl"); (walk_at "bb"))
  | (apply ed_ixL; (apply edr_var; (rfl); (assumption); (assumption)); (walk_at "ev"); (first | rfl | assumption))
  | (apply ed_lenL; (apply edr_var; (rfl); (assumption); (assumption)))
  | (apply ed_call; (walk_at "eva"); (walk_at "post")))
local macro_rules | `(tactic| walk_at "edl") => `(tactic| first
  | assumption
  | (apply edl_lst; (walk_at "eva"); (walk_at "bb")))
local macro_rules | `(tactic| walk_at "eva") => `(tactic| first
  | exact eda_nil
  | (apply eda_cons; (walk_at "ev"); (walk_at "eva")))
local macro_rules | `(tactic| walk_at "evo") => `(tactic| first
  | exact eok_none
  | (apply eok_some; walk_at "ev"))
local macro_rules | `(tactic| walk_at "bb") => `(tactic| first | rfl | assumption | (simp; done) | (simp; omega) | decide +kernel)
local macro_rules | `(tactic| walk_at "et") => `(tactic| first
  | exact tk_yes
  | (apply tk_andF; walk_at "et")
  | (apply tk_and; (walk_at "et"); (intro _; walk_at "et"))
  | (apply tk_orT; walk_at "et")
  | (apply tk_or; (walk_at "et"); (intro _; walk_at "et"))
  | (apply tk_notT; walk_at "et")
  | (apply tk_notF; walk_at "et")
  | (apply tk_not; walk_at "et")
  | (apply tk_v; walk_at "ev")
  | (apply tk_vB; walk_at "ev"))
local macro_rules | `(tactic| walk_at "if") => `(tactic| first
  | (apply pst_whenF; (walk_at "et"); (walk_at "bb"))
  | (apply pst_whenT; (walk_at "et"); (walk_at "bb")))
local macro_rules | `(tactic| walk_at "post") => `(tactic| first | assumption | exact ⟨_, _, rfl, rfl⟩ | exact ⟨_, _, _, _, rfl, by omega, by omega, rfl⟩ | exact ⟨_, _, _, 0, rfl, by omega, by omega, rfl⟩)
local macro_rules | `(tactic| walk_at "cc") => `(tactic| first | assumption | decide | omega | (refine ⟨?_, ?_⟩ <;> first | decide | omega) | (exact Or.inl (by constructor <;> omega)))

/-- what is told of what was read -/
def resD {α : Type} (enc : α → PyData) : Option (α × Nat) → PyData
  | none => .none
  | some (x, m) => .tuple [enc x, .int (m : Int)]
structure WsAt (wl : Addr) (ws : List Str) (H : Hp) : Prop where
  hx : H wl = some (.lst (ws.map V.str))
  ok : wdOk ws
theorem WsAt.ex {wl : Addr} {ws : List Str} {H H' : Hp} (h : WsAt wl ws H) (e : Ex H H') : WsAt wl ws H' := ⟨e _ _ h.hx, h.ok⟩
theorem WsAt.here {wl : Addr} {ws : List Str} {H : Hp} (h : WsAt wl ws H) (i : Nat) : (PyData.str (hereW ws i)).canLay0 = true ∧ (hereW ws i).length ≤ 40000 := by
  unfold hereW
  cases hw : ws[i]? with
  | none => exact ⟨by decide +kernel, by decide +kernel⟩
  | some z => exact ⟨(h.ok.2 z (List.mem_of_getElem? hw)).2, (h.ok.2 z (List.mem_of_getElem? hw)).1⟩
def spAt (K : PySem.W.Frag) {α : Type} (f : List Str → Nat → Rd α) (enc : α → PyData) : Sp := fun vs H Q _ => ∃ (wl : Addr) (ws : List Str) (n : Nat) (r : Option (α × Nat)), vs = [.ref wl, .int (n : Int)] ∧ WsAt wl ws H ∧ f ws n = some r ∧ ∀ v H', Ex H H' → Td K H' v (resD enc r) → Q v H'
theorem spAt_len {K : PySem.W.Frag} {α : Type} {f : List Str → Nat → Rd α} {enc : α → PyData} (vs : List V) (H : Hp) (Q : VK) (E : XK) (h : spAt K f enc vs H Q E) : vs.length = 2 := by
  obtain ⟨_, _, _, _, rfl, _⟩ := h
  rfl
theorem rdNum_here {ws : List Str} {n : Nat} : rdNum ws n = match numOf (hereW ws n) with
    | some k => some (some (k, n + 1))
    | none => some none := by
  unfold rdNum rdWord hereW
  cases ws[n]? with
  | none => rfl
  | some z => rfl
theorem numOf_int {z : Str} {k : Nat} (h : numOf z = some k) : PySem.intText? z = some (k : Int) ∧ z.length ≤ 640 := by
  obtain ⟨rfl, hk⟩ := numOf_inv h
  obtain ⟨_, _, hi, hl⟩ := num_facts k hk
  exact ⟨hi, by omega⟩
section
variable {K : PySem.W.Frag} {σ : L2.St} {H H' : Hp} {te ta tb tj : TE} {E : XK} {wl : Addr} {ws : List Str} {n : Nat} {α : Type} {f : List Str → Nat → Rd α} {enc : α → PyData} {r : Option (α × Nat)} {z : Str}
theorem ed_at {j : Nat} (hs : σ[j]? = some (some (.ref wl))) (h : WsAt wl ws H) (hn : EvD K te σ H (.int (n : Int))) (hr : f ws n = some r) : EvD K (tCall (spAt K f enc) [] E (tCons (tVar j) (tCons te tNil))) σ H (resD enc r) := fun H1 e1 Q q =>
  ⟨.ref wl, hs, hn.iv H1 e1 _ fun H2 e2 => ⟨wl, ws, n, r, rfl, h.ex (e1.trans e2), hr, fun v H3 e3 tv => q v H3 (e2.trans e3) tv⟩⟩
theorem ed_fig (h : EvD K te σ H (.str z)) (hz : z.length ≤ 40000) (hl : (PyData.str z).canLay0 = true) : EvD K (tCall (spFig K) [] E (tCons te tNil)) σ H (.bool (numOf z).isSome) := fun H1 e1 Q q =>
  h.sv H1 e1 _ fun H2 e2 => ⟨z, rfl, hz, hl, fun H3 e3 => q _ H3 (e2.trans e3) (.bl _)⟩
theorem ed_succ {k : Nat} (h : EvD K te σ H (.int (n : Int))) : EvD K (tOp (rI0 fun i j => .int (i + j)) te (tC (.int (k : Int)))) σ H (.int ((n + k : Nat) : Int)) := ed_is (ed_I0i h ed_ci) (by simp)
theorem ed_here1 {j k : Nat} (hs : σ[j]? = some (some (.ref wl))) (h : WsAt wl ws H) (hi : EvD K te σ H (.int (k : Int))) (hj : EvD K tj σ H (.int ((k + 1 : Nat) : Int))) :
    EvD K (tOp (rIxL K) (tOp rCat (tSl (rSlL K) (tVar j) (tPart te) (tPart tj)) (tLst (tCons (tC (.str "")) tNil))) (tC (.int 0))) σ H (.str (hereW ws k)) := ed_hereL hs h.hx hi hj (edl_lst (eda_cons ed_cs eda_nil) (by decide)) (by simp)
/-- a number, if it is one: ((w, int(z)), m) or None -/
theorem ed_numR {tw tz tm : TE} {w : Str} {m : Nat} (hw : EvD K tw σ H (.str w)) (hz : EvD K tz σ H (.str z)) (hm : EvD K tm σ H (.int (m : Int))) (hl : z.length ≤ 40000) (hy : (PyData.str z).canLay0 = true) (g : Nat → PyData) (hg : ∀ k, g k = .tuple [.str w, .int (k : Int)]) :
    EvD K (tIf (tB (tCall (spFig K) [] E (tCons tz tNil))) (tTup (tCons (tTup (tCons tw (tCons (tCB (fun xs H Q => ∃ a n, xs = [.str a] ∧ PySem.intText? a = some n ∧ a.length ≤ 640 ∧ Q (.int n) H) (tCons tz tNil)) tNil))) (tCons tm tNil))) (tC .non)) σ H
      (resD g ((numOf z).map fun k => (k, m))) := by
  cases hn : numOf z with
  | none =>
    have h := ed_fig (E := E) hz hl hy
    rw [hn] at h
    exact ed_ifF (tk_vB h) ed_cn
  | some k =>
    have h := ed_fig (E := E) hz hl hy
    rw [hn] at h
    obtain ⟨h1, h2⟩ := numOf_int hn
    refine ed_ifT (tk_vB h) (ed_is (ed_tup (eda_cons (ed_tup (eda_cons hw (eda_cons (ed_intS hz h1 h2) eda_nil)) (by simp)) (eda_cons hm eda_nil)) (by simp)) ?_)
    simp only [Option.map_some, resD, hg]
end
theorem rdT_num {ws : List Str} {d n : Nat} (h : hereW ws n ≠ "+" ∧ hereW ws n ≠ "cell" ∧ hereW ws n ≠ "own" ∧ hereW ws n ≠ "par") : rdT ws (d + 1) n = some ((numOf (hereW ws n)).map fun k => (Th.num k, n + 1)) := by
  simp only [rdT, h.1, h.2.1, h.2.2.1, h.2.2.2, if_false, rdNum_here]
  cases numOf (hereW ws n) <;> rfl
theorem rdT_own {ws : List Str} {d n : Nat} (h : hereW ws n = "own") : rdT ws (d + 1) n = some ((numOf (hereW ws (n + 1))).map fun k => (Th.own k, n + 1 + 1)) := by
  have a : ¬ ("own" : Str) = "+" := by decide +kernel
  have b : ¬ ("own" : Str) = "cell" := by decide +kernel
  simp only [rdT, h, a, b, if_false, if_true, rdNum_here]
  cases numOf (hereW ws (n + 1)) <;> rfl
theorem rdT_par {ws : List Str} {d n : Nat} (h : hereW ws n = "par") : rdT ws (d + 1) n = some ((numOf (hereW ws (n + 1))).map fun k => (Th.par k, n + 1 + 1)) := by
  have a : ¬ ("par" : Str) = "+" := by decide +kernel
  have b : ¬ ("par" : Str) = "cell" := by decide +kernel
  have c : ¬ ("par" : Str) = "own" := by decide +kernel
  simp only [rdT, h, a, b, c, if_false, if_true, rdNum_here]
  cases numOf (hereW ws (n + 1)) <;> rfl
theorem rdT_cell {ws : List Str} {d n : Nat} (h : hereW ws n = "cell") : rdT ws (d + 1) n = bindR (rdT ws d (n + 1)) fun a m => some (some (.cell a, m)) := by
  have a : ¬ ("cell" : Str) = "+" := by decide +kernel
  simp only [rdT, h, a, if_false, if_true]
theorem rdT_sum {ws : List Str} {d n : Nat} (h : hereW ws n = "+") : rdT ws (d + 1) n = bindR (rdT ws d (n + 1)) fun a m => bindR (rdT ws d m) fun b l => some (some (.sum a b, l)) := by
  simp only [rdT, h, if_true]
section
variable {P : Program} {w : World} {K : PySem.W.Frag} {mg : Str → Option Value} {base : Heap} (T : Tx K mg)
include T
theorem lta_step {d : Nat} (GF : Fn__law_is_figures T P w base CX0 1 (spFig K)) (GI : Fn__law_thing_at T P w base CX0 (d + 1) (spAt K (fun ws => rdT ws d) encT)) : Fn__law_thing_at T P w base CX0 (d + 2) (spAt K (fun ws => rdT ws (d + 1)) encT) := by
  have G__law_is_figures := GF
  have G__law_thing_at := GI
  refine T.F__law_thing_at.ok sc__law_thing_at spAt_len fun cdv A outer s0 H vs Q E hr h => ?_
  obtain ⟨wl, ws, n, r, rfl, hW, hrd, k⟩ := h
  dsimp only at hrd
  refine ⟨_, (pss_cons (ps_set (i := 2) sc__law_thing_at.nd rfl (Or.inl rfl) (pe_ix (kix_list K) (pe_op op_cat (pe_slice (ksl_list K) (pv 0) (po_some (pv 1)) (po_some (pe_op op_add (pv 1) pe_int))) (pe_lst (pa_cons pe_str (pa_cons pe_str pa_nil)))) pe_int (fun _ _ => rfl)))
  (pss_cons (ps_if (pt_cmpR (kop_in K) (pv 2) (pe_tup (pa_cons pe_str (pa_cons pe_str pa_nil))) rfl)
    (pss_cons (ps_set (i := 3) sc__law_thing_at.nd rfl (Or.inl rfl) (pe_ix (kix_list K) (pe_op op_cat (pe_slice (ksl_list K) (pv 0) (po_some (pe_op op_add (pv 1) pe_int)) (po_some (pe_op op_add (pv 1) pe_int))) (pe_lst (pa_cons pe_str pa_nil))) pe_int (fun _ _ => rfl)))
    (pss_one (ps_ret (pe_ifExp (pt_val (pe_call G__law_is_figures (hr.mono (by omega)) (by rfl) T.g__law_is_figures T.k__law_is_figures T.bd__law_is_figures .nil pass0 (pa_cons (pv 3) pa_nil))) (pe_tup (pa_cons (pe_tup (pa_cons (pv 2) (pa_cons (pe_callTy call_int_str rfl T.b_int (by decide +kernel) (pa_cons (pv 3) pa_nil)) pa_nil))) (pa_cons (pe_op op_add (pv 1) pe_int) pa_nil))) pe_non))))
    pss_nil)
  (pss_cons (ps_if (pt_cmpR (kop_ni K) (pv 2) (pe_tup (pa_cons pe_str (pa_cons pe_str pa_nil))) rfl)
    (pss_one (ps_ret (pe_ifExp (pt_val (pe_call G__law_is_figures (hr.mono (by omega)) (by rfl) T.g__law_is_figures T.k__law_is_figures T.bd__law_is_figures .nil pass0 (pa_cons (pv 2) pa_nil))) (pe_tup (pa_cons (pe_tup (pa_cons pe_str (pa_cons (pe_callTy call_int_str rfl T.b_int (by decide +kernel) (pa_cons (pv 2) pa_nil)) pa_nil))) (pa_cons (pe_op op_add (pv 1) pe_int) pa_nil))) pe_non)))
    pss_nil)
  (pss_cons (ps_set (i := 4) sc__law_thing_at.nd rfl (Or.inl rfl) (pe_call G__law_thing_at (hr.mono (by omega)) (by rfl) T.g__law_thing_at T.k__law_thing_at T.bd__law_thing_at .nil pass0 (pa_cons (pv 0) (pa_cons (pe_op op_add (pv 1) pe_int) pa_nil))))
  (pss_cons (ps_if (PW.pt (pw_or (pt_cmp (pc_isN (pv 4)) rfl) (pw_or1 (pt_cmpR (kop_eq K hr.units) (pv 2) pe_str (nomark _)))))
    (pss_one (ps_ret (pe_ifExp (pt_cmp (pc_isN (pv 4)) rfl) pe_non (pe_tup (pa_cons (pe_tup (pa_cons pe_str (pa_cons (pe_ix (kix_tup K) (pv 4) pe_int (fun _ _ => rfl)) pa_nil))) (pa_cons (pe_ix (kix_tup K) (pv 4) pe_int (fun _ _ => rfl)) pa_nil))))))
    pss_nil)
  (pss_cons (ps_set (i := 5) sc__law_thing_at.nd rfl (Or.inl rfl) (pe_call G__law_thing_at (hr.mono (by omega)) (by rfl) T.g__law_thing_at T.k__law_thing_at T.bd__law_thing_at .nil pass0 (pa_cons (pv 0) (pa_cons (pe_ix (kix_tup K) (pv 4) pe_int (fun _ _ => rfl)) pa_nil))))
  (pss_one (ps_ret (pe_ifExp (pt_cmp (pc_isN (pv 5)) rfl) pe_non (pe_tup (pa_cons (pe_tup (pa_cons pe_str (pa_cons (pe_ix (kix_tup K) (pv 4) pe_int (fun _ _ => rfl)) (pa_cons (pe_ix (kix_tup K) (pv 5) pe_int (fun _ _ => rfl)) pa_nil)))) (pa_cons (pe_ix (kix_tup K) (pv 5) pe_int (fun _ _ => rfl)) pa_nil)))))))))))), ?_⟩
  refine w_seq (w_asg (w_d (K := K) (ed_hereL rfl hW.hx (ed_var rfl (.int _)) (ed_succ (k := 1) (ed_var rfl (.int _))) (edl_lst (eda_cons ed_cs (eda_cons ed_cs eda_nil)) (by decide)) (by simp)) fun v H1 e1 tv => ?_))
  cases tv
  have hz := hW.here n
  have hz1 := hW.here (n + 1)
  have W1 := hW.ex e1
  dsimp only
  by_cases hop : hereW ws n = "own" ∨ hereW ws n = "par"
  · refine w_seq (w_ifs (w_t (K := K) (b := true) (tk_is (tk_v (ed_inT (ed_var rfl (.str _)) (ed_tup (eda_cons ed_cs (eda_cons ed_cs eda_nil)) (by decide)) rfl rfl)) (by simp only [List.any_cons, List.any_nil, eqv_str2]; rcases hop with e | e <;> rw [e] <;> decide +kernel)) fun H2 e2 => ifT rfl ?_))
    have W2 := W1.ex e2
    refine w_seq (w_asg (w_d (K := K) (ed_here1 rfl W2 (ed_succ (k := 1) (ed_var rfl (.int _))) (ed_succ (k := 2) (ed_var rfl (.int _)))) fun v H3 e3 tv => ?_))
    cases tv
    dsimp only
    rcases hop with e | e
    · rw [rdT_own e] at hrd
      cases hrd
      refine w_ret (w_d (K := K) (ed_numR (w := "own") (m := n + 1 + 1) (ed_var rfl (by rw [e]; exact .str _)) (ed_var rfl (.str _)) (ed_succ (k := 2) (ed_var rfl (.int _))) hz1.2 hz1.1 (fun k => encT (.own k)) fun k => rfl) fun v H4 e4 tv => k v H4 (((e1.trans e2).trans e3).trans e4) ?_)
      revert tv
      cases numOf (hereW ws (n + 1)) <;> exact id
    · rw [rdT_par e] at hrd
      cases hrd
      refine w_ret (w_d (K := K) (ed_numR (w := "par") (m := n + 1 + 1) (ed_var rfl (by rw [e]; exact .str _)) (ed_var rfl (.str _)) (ed_succ (k := 2) (ed_var rfl (.int _))) hz1.2 hz1.1 (fun k => encT (.par k)) fun k => rfl) fun v H4 e4 tv => k v H4 (((e1.trans e2).trans e3).trans e4) ?_)
      revert tv
      cases numOf (hereW ws (n + 1)) <;> exact id
  · have hno : hereW ws n ≠ "own" ∧ hereW ws n ≠ "par" := not_or.mp hop
    refine w_seq (w_ifs (w_t (K := K) (b := false) (tk_is (tk_v (ed_inT (ed_var rfl (.str _)) (ed_tup (eda_cons ed_cs (eda_cons ed_cs eda_nil)) (by decide)) rfl rfl)) (by simp only [List.any_cons, List.any_nil, eqv_str2]; simp [Ne.symm hno.1, Ne.symm hno.2])) fun H2 e2 => ifF rfl (w_next ?_)))
    have W2 := W1.ex e2
    dsimp only
    by_cases hpc : hereW ws n = "+" ∨ hereW ws n = "cell"
    · refine w_seq (w_ifs (w_t (K := K) (b := false) (tk_is (tk_v (ed_niT (ed_var rfl (.str _)) (ed_tup (eda_cons ed_cs (eda_cons ed_cs eda_nil)) (by decide)) rfl rfl)) (by simp only [List.any_cons, List.any_nil, eqv_str2]; rcases hpc with e | e <;> rw [e] <;> decide +kernel)) fun H3 e3 => ifF rfl (w_next ?_)))
      have W3 := W2.ex e3
      dsimp only
      obtain ⟨r1, hr1⟩ : ∃ r1, rdT ws d (n + 1) = some r1 := by
        cases h1 : rdT ws d (n + 1) with
        | some r1 => exact ⟨r1, rfl⟩
        | none =>
          rcases hpc with e | e
          · rw [rdT_sum e, h1] at hrd; cases hrd
          · rw [rdT_cell e, h1] at hrd; cases hrd
      refine w_seq (w_asg (w_d (K := K) (ed_at (f := fun ws => rdT ws d) (enc := encT) rfl W3 (ed_succ (k := 1) (ed_var rfl (.int _))) hr1) fun v H4 e4 tv => ?_))
      have W4 := W3.ex e4
      have e04 := ((e1.trans e2).trans e3).trans e4
      dsimp only
      cases r1 with
      | none =>
        have hrn : r = none := by
          rcases hpc with e | e
          · rw [rdT_sum e, bindR_b hr1] at hrd; cases hrd; rfl
          · rw [rdT_cell e, bindR_b hr1] at hrd; cases hrd; rfl
        subst hrn
        refine w_seq (w_ifs (w_t (K := K) (b := true) (tk_orT (tk_vB (ed_isN (ed_var rfl tv)))) fun H5 e5 => ifT rfl ?_))
        refine w_ret (w_d (K := K) (ed_ifT (tk_vB (ed_isN (ed_var rfl (tv.ex e5)))) ed_cn) fun v H6 e6 tv => k v H6 ((e04.trans e5).trans e6) tv)
      | some am =>
        obtain ⟨a, m⟩ := am
        have tv : Td K H4 v (.tuple [encT a, .int (m : Int)]) := tv
        by_cases hc : hereW ws n = "cell"
        · rw [rdT_cell hc, bindR_of hr1] at hrd
          cases hrd
          refine w_seq (w_ifs (w_t (K := K) (b := true) (tk_is (tk_or (tk_vB (ed_isN (ed_var rfl tv))) fun _ => tk_v (ed_eqS (ed_var rfl (.str _)) ed_cs hz.1 (by decide +kernel))) (by rw [eqv_str2, hc]; rfl)) fun H5 e5 => ifT rfl ?_))
          have tv5 := tv.ex e5
          refine w_ret (w_d (K := K) (ed_ifF (tk_vB (ed_isN (ed_var rfl tv5))) (ed_tup (ds := [.tuple [.str "cell", encT a], .int (m : Int)]) (eda_cons (ed_tup (eda_cons ed_cs (eda_cons (ed_ixT (i := 0) (ed_var rfl tv5) ed_ci atI_zero) eda_nil)) (by simp)) (eda_cons (ed_ixT (i := 1) (ed_var rfl tv5) ed_ci rfl) eda_nil)) (by simp))) fun v H6 e6 tv => k v H6 ((e04.trans e5).trans e6) tv)
        · have hs : hereW ws n = "+" := hpc.resolve_right hc
          rw [rdT_sum hs, bindR_of hr1] at hrd
          refine w_seq (w_ifs (w_t (K := K) (b := false) (tk_is (tk_or (tk_vB (ed_isN (ed_var rfl tv))) fun _ => tk_v (ed_eqS (ed_var rfl (.str _)) ed_cs hz.1 (by decide +kernel))) (by rw [eqv_str2]; simp [hc, noneD])) fun H5 e5 => ifF rfl (w_next ?_)))
          have tv5 := tv.ex e5
          have W5 := W4.ex e5
          dsimp only
          obtain ⟨r2, hr2⟩ : ∃ r2, rdT ws d m = some r2 := by
            cases h1 : rdT ws d m with
            | some r1 => exact ⟨r1, rfl⟩
            | none => rw [h1] at hrd; cases hrd
          refine w_seq (w_asg (w_d (K := K) (ed_at (f := fun ws => rdT ws d) (enc := encT) rfl W5 (ed_ixT (i := 1) (ed_var rfl tv5) ed_ci rfl) hr2) fun u H6 e6 tu => ?_))
          have tv6 := tv5.ex e6
          have e06 := (e04.trans e5).trans e6
          dsimp only
          cases r2 with
          | none =>
            rw [bindR_b hr2] at hrd
            cases hrd
            refine w_ret (w_d (K := K) (ed_ifT (tk_vB (ed_isN (ed_var rfl tu))) ed_cn) fun v H7 e7 tv => k v H7 (e06.trans e7) tv)
          | some bl =>
            obtain ⟨b, l⟩ := bl
            rw [bindR_of hr2] at hrd
            cases hrd
            have tu : Td K H6 u (.tuple [encT b, .int (l : Int)]) := tu
            refine w_ret (w_d (K := K) (ed_ifF (tk_vB (ed_isN (ed_var rfl tu))) (ed_tup (ds := [.tuple [.str "sum", encT a, encT b], .int (l : Int)]) (eda_cons (ed_tup (eda_cons ed_cs (eda_cons (ed_ixT (i := 0) (ed_var rfl tv6) ed_ci atI_zero) (eda_cons (ed_ixT (i := 0) (ed_var rfl tu) ed_ci atI_zero) eda_nil))) (by simp)) (eda_cons (ed_ixT (i := 1) (ed_var rfl tu) ed_ci rfl) eda_nil)) (by simp))) fun v H7 e7 tv => k v H7 (e06.trans e7) tv)
    · have hno2 : hereW ws n ≠ "+" ∧ hereW ws n ≠ "cell" := not_or.mp hpc
      rw [rdT_num ⟨hno2.1, hno2.2, hno.1, hno.2⟩] at hrd
      cases hrd
      refine w_seq (w_ifs (w_t (K := K) (b := true) (tk_is (tk_v (ed_niT (ed_var rfl (.str _)) (ed_tup (eda_cons ed_cs (eda_cons ed_cs eda_nil)) (by decide)) rfl rfl)) (by simp only [List.any_cons, List.any_nil, eqv_str2]; simp [Ne.symm hno2.1, Ne.symm hno2.2])) fun H3 e3 => ifT rfl ?_))
      refine w_ret (w_d (K := K) (ed_numR (w := "num") (m := n + 1) ed_cs (ed_var rfl (.str _)) (ed_succ (k := 1) (ed_var rfl (.int _))) hz.2 hz.1 (fun k => encT (.num k)) fun k => rfl) fun v H4 e4 tv => k v H4 (((e1.trans e2).trans e3).trans e4) ?_)
      revert tv
      cases numOf (hereW ws n) <;> exact id
theorem ok_lta (GF : Fn__law_is_figures T P w base CX0 1 (spFig K)) : ∀ d : Nat, Fn__law_thing_at T P w base CX0 (d + 1) (spAt K (fun ws => rdT ws d) encT)
  | 0 => fn_vac fun vs H Q E h => by
    obtain ⟨_, _, _, _, _, _, h, _⟩ := h
    simp [rdT] at h
  | d + 1 => lta_step T GF (ok_lta GF d)
end
end Hw

set_option maxRecDepth 100000
set_option maxHeartbeats 4000000
/-! LF4: the law's own reader: things up to a point, bodies -/
namespace Hw
open PySem PySem.Spec PyProof.Rows L2 Evl
local macro_rules | `(tactic| walk_at "dd") => `(tactic| first | rfl | decide | (simp; done) | omega)
local macro_rules | `(tactic| walk_at "td") => `(tactic| first | assumption | exact Td.int _ | exact Td.bl _ | exact Td.str _ | exact Td.non | exact Td.tup (by assumption) (by assumption))
local macro_rules | `(tactic| walk_at "ev") => `(tactic| first
  | exact ed_ci | exact ed_cs | exact ed_cb | exact ed_cn
  | (apply ed_cg; assumption)
  | (apply ed_var; (rfl); (walk_at "td"))
  | (apply ed_ixT; (walk_at "ev"); (walk_at "ev"); (first | rfl | assumption))
  | (apply ed_rowI; (rfl); (assumption); (walk_at "ev"); (rfl))
  | (apply ed_ixL; (apply EvDL.rd; walk_at "edl"); (walk_at "ev"); (rfl))
  | (apply ed_intb; (walk_at "ev"))
  | (apply ed_len; walk_at "ev")
  | (apply ed_lenV; (apply ev_rowR; (rfl); (assumption); (walk_at "ev"); (rfl)); (assumption))
  | (apply ed_Ii; (walk_at "ev"); (walk_at "ev"); (walk_at "cc"))
  | (apply ed_isi; (walk_at "ev"); (rfl))
  | (apply ed_I0i; (walk_at "ev"); (walk_at "ev"))
  | (apply ed_I0b; (walk_at "ev"); (walk_at "ev"))
  | (apply ed_eqi; (walk_at "ev"); (walk_at "ev"))
  | (apply ed_nei; (walk_at "ev"); (walk_at "ev"))
  | (apply ed_andF; walk_at "ev")
  | (apply ed_andV; (walk_at "ev"); (intro _; walk_at "ev"))
  | (apply ed_orT; walk_at "ev")
  | (apply ed_orV; (walk_at "ev"); (intro _; walk_at "ev"))
  | (apply ed_notT; walk_at "ev")
  | (apply ed_notF; walk_at "ev")
  | (apply ed_notV; walk_at "ev")
  | (apply ed_chain; (walk_at "ev"); (walk_at "ev"); (intro _; walk_at "ev"))
  | (apply ed_eqS; (walk_at "ev"); (walk_at "ev"); (walk_at "bb"); (walk_at "bb"))
  | (apply ed_neS; (walk_at "ev"); (walk_at "ev"); (walk_at "bb"); (walk_at "bb"))
  | (apply ed_inT; (walk_at "ev"); (walk_at "ev"); (rfl); (rfl))
  | (apply ed_niT; (walk_at "ev"); (walk_at "ev"); (rfl); (rfl))
  | (apply ed_tup; (walk_at "eva"); (walk_at "bb"))
  | (apply ed_sl; (walk_at "ev"); (walk_at "evo"); (walk_at "evo"))
  | (apply ed_eqN; (apply EvDL.rd; walk_at "edl"); (walk_at "edl"); (walk_at "bb"))
  | (apply ed_neN; (apply EvDL.rd; walk_at "edl"); (walk_at "edl"); (walk_at "bb"))
  | (apply ed_ixL; (apply edr_var; (rfl); (assumption); (assumption)); (walk_at "ev"); (first | rfl | assumption))
  | (apply ed_lenL; (apply edr_var; (rfl); (assumption); (assumption)))
  | (apply ed_call; (walk_at "eva"); (walk_at "post")))
local macro_rules | `(tactic| walk_at "edl") => `(tactic| first
  | assumption
  | (apply edl_lst; (walk_at "eva"); (walk_at "bb")))
local macro_rules | `(tactic| walk_at "eva") => `(tactic| first
  | exact eda_nil
  | (apply eda_cons; (walk_at "ev"); (walk_at "eva")))
local macro_rules | `(tactic| walk_at "evo") => `(tactic| first
  | exact eok_none
  | (apply eok_some; walk_at "ev"))
local macro_rules | `(tactic| walk_at "bb") => `(tactic| first | rfl | assumption | (simp; done) | (simp; omega) | decide +kernel)
local macro_rules | `(tactic| walk_at "et") => `(tactic| first
  | exact tk_yes
  | (apply tk_andF; walk_at "et")
  | (apply tk_and; (walk_at "et"); (intro _; walk_at "et"))
  | (apply tk_orT; walk_at "et")
  | (apply tk_or; (walk_at "et"); (intro _; walk_at "et"))
  | (apply tk_notT; walk_at "et")
  | (apply tk_notF; walk_at "et")
  | (apply tk_not; walk_at "et")
  | (apply tk_v; walk_at "ev")
  | (apply tk_vB; walk_at "ev"))
local macro_rules | `(tactic| walk_at "if") => `(tactic| first
  | (apply pst_whenF; (walk_at "et"); (walk_at "bb"))
  | (apply pst_whenT; (walk_at "et"); (walk_at "bb")))
local macro_rules | `(tactic| walk_at "post") => `(tactic| first | assumption | exact ⟨_, _, rfl, rfl⟩ | exact ⟨_, _, _, _, rfl, by omega, by omega, rfl⟩ | exact ⟨_, _, _, 0, rfl, by omega, by omega, rfl⟩)
local macro_rules | `(tactic| walk_at "cc") => `(tactic| first | assumption | decide | omega | (refine ⟨?_, ?_⟩ <;> first | decide | omega) | (exact Or.inl (by constructor <;> omega)))

section
variable {K : PySem.W.Frag} {σ : L2.St} {H H' : Hp} {D : Ends} {te ta tb tj tcall : TE} {E : XK} {wl fl : Addr} {ws : List Str} {n : Nat} {α : Type} {enc : α → PyData} {z : Str} {ds es : List PyData} {S : Nat → Rd α} {go : Nat → Bool} {c : TT}
theorem ed_eqLL (ha : EvDR K ta σ H ds) (hb : EvDL K tb σ H es) (sd : PyData.canLayAll0 ds = true) (se : PyData.canLayAll0 es = true) (hm : PyData.depthAll es ≤ 60) : EvD K (tOp (rEqM K) ta tb) σ H (.bool (PyData.eqvAll ds es)) := fun H1 a Q q =>
  ha H1 a _ fun p xs H2 e2 hs ht => hb H2 (a.trans e2) _ fun w ys H3 _ e3 hw hy => ⟨.list ds, .list es, .lst (ex_l e3 hs) (ht.ex e3).dp, .lst (SqL.of hw) hy.dp, (show PyData.canLay0 (.list ds) = true by simpa [PyData.canLay0] using sd), (show PyData.canLay0 (.list es) = true by simpa [PyData.canLay0] using se), by
    have : PyData.depth (.list es) ≤ 61 := by simp only [PyData.depth]; omega
    have := Nat.min_le_right (PyData.depth (.list ds)) (PyData.depth (.list es))
    omega, by
    have e : PyData.eqv (.list ds) (.list es) = PyData.eqvAll ds es := by simp [PyData.eqv]
    rw [e]
    exact q _ H3 (e2.trans e3) (.bl _)⟩
theorem ed_neLL (ha : EvDR K ta σ H ds) (hb : EvDL K tb σ H es) (sd : PyData.canLayAll0 ds = true) (se : PyData.canLayAll0 es = true) (hm : PyData.depthAll es ≤ 60) : EvD K (tOp (rNeM K) ta tb) σ H (.bool (!PyData.eqvAll ds es)) := fun H1 a Q q =>
  ha H1 a _ fun p xs H2 e2 hs ht => hb H2 (a.trans e2) _ fun w ys H3 _ e3 hw hy => ⟨.list ds, .list es, .lst (ex_l e3 hs) (ht.ex e3).dp, .lst (SqL.of hw) hy.dp, (show PyData.canLay0 (.list ds) = true by simpa [PyData.canLay0] using sd), (show PyData.canLay0 (.list es) = true by simpa [PyData.canLay0] using se), by
    have : PyData.depth (.list es) ≤ 61 := by simp only [PyData.depth]; omega
    have := Nat.min_le_right (PyData.depth (.list ds)) (PyData.depth (.list es))
    omega, by
    have e : PyData.eqv (.list ds) (.list es) = PyData.eqvAll ds es := by simp [PyData.eqv]
    rw [e]
    exact q _ H3 (e2.trans e3) (.bl _)⟩
theorem WsAt.upd {o : HO} (h : WsAt wl ws H) (ne : wl ≠ fl) : WsAt wl ws (upd H fl o) := ⟨by rw [upd_ne ne]; exact h.hx, h.ok⟩
theorem WsAt.fr (h : WsAt wl ws H) (ne : wl ≠ fl) (f : Fr [fl] H H') : WsAt wl ws H' := ⟨f _ _ (by simpa using ne) h.hx, h.ok⟩
theorem fr_keep {vs : List V} (h : H fl = some (.lst vs)) (f : Fr [fl] H H') : Keep K H H' := f.keep fun b hb => by
  have : b = fl := by simpa using hb
  rw [this]
  exact ⟨_, h, True.intro⟩
/-- while ..: told = ..; if told is None: return None; found.append(told[0]); at = told[1] -/
theorem w_itL (hc : ∀ (m : Nat) u H1, WsAt wl ws H1 → EvTK K c [some (.ref wl), some (.int (m : Int)), some (.ref fl), u] H1 (go m))
    (hS : ∀ (m : Nat) u r H1, WsAt wl ws H1 → go m = true → S m = some r → EvD K tcall [some (.ref wl), some (.int (m : Int)), some (.ref fl), u] H1 (resD enc r))
    (k : Nat) (hk : k ≤ 50000) (u0 : Option V) (hW : WsAt wl ws H) (hf : H fl = some (.lst [])) (ne : wl ≠ fl) (hne : itR S go k n ≠ none) (hbad : itR S go k n = some none → ∀ H1, Fr [fl] H H1 → D.rt .non H1)
    (hd : ∀ xs (m : Nat) vs u H1, itR S go k n = some (some (xs, m)) → WsAt wl ws H1 → Fr [fl] H H1 → H1 fl = some (.lst vs) → TdAll K H1 vs (xs.map enc) → D.nx [some (.ref wl), some (.int (m : Int)), some (.ref fl), u] H1) :
    tWhile c (tSeq (tAsg tcall (gName 3)) (tSeq (tIfS (tB (tIsN (tVar 3))) (tRet (tC .non)) tNext) (tSeq (tDrop (tBM K "list" rAppend (tVar 2) (tCons (tOp (rIxT K) (tVar 3) (tC (.int 0))) tNil))) (tAsg (tOp (rIxT K) (tVar 3) (tC (.int 1))) (gName 1))))) D [some (.ref wl), some (.int (n : Int)), some (.ref fl), u0] H := by
  refine w_while (fun i σ' H1 => ∃ (m : Nat) (vs : List V) (xs : List α) (u : Option V), σ' = [some (.ref wl), some (.int (m : Int)), some (.ref fl), u] ∧ WsAt wl ws H1 ∧ Fr [fl] H H1 ∧ H1 fl = some (.lst vs) ∧ TdAll K H1 vs (xs.map enc) ∧ xs.length + i ≤ k ∧
    itR S go i m ≠ none ∧ (itR S go i m = some none → itR S go k n = some none) ∧ ∀ r l, itR S go i m = some (some (r, l)) → itR S go k n = some (some (xs ++ r, l))) k ⟨n, [], [], u0, rfl, hW, Fr.refl, hf, .nil, by simp, hne, id, fun r l h => h⟩ ?_
  rintro i σ' H1 ⟨m, vs, xs, u, rfl, W1, f1, hl, td, hle, h1, h2, h3⟩
  refine w_t (K := K) (hc m u H1 W1) fun H2 e2 => ?_
  have W2 := W1.ex e2
  cases i with
  | zero => exact absurd rfl h1
  | succ i =>
    cases hg : go m with
    | false =>
      refine ifF rfl ?_
      have e : itR S go (i + 1) m = some (some ([], m)) := by simp [itR, hg]
      have := h3 [] m e
      rw [List.append_nil] at this
      exact hd xs m vs u H2 this W2 (f1.trans (Fr.of e2)) (e2 _ _ hl) (td.ex e2)
    | true =>
      refine ifT rfl ⟨fun σ2 H3 => ∃ (m : Nat) (vs : List V) (xs : List α) (u : Option V), σ2 = [some (.ref wl), some (.int (m : Int)), some (.ref fl), u] ∧ WsAt wl ws H3 ∧ Fr [fl] H H3 ∧ H3 fl = some (.lst vs) ∧ TdAll K H3 vs (xs.map enc) ∧ xs.length + i ≤ k ∧
        itR S go i m ≠ none ∧ (itR S go i m = some none → itR S go k n = some none) ∧ ∀ r l, itR S go i m = some (some (r, l)) → itR S go k n = some (some (xs ++ r, l)), fun σ2 H3 h => ⟨i, by omega, h⟩, ?_⟩
      have e : itR S go (i + 1) m = bindR (S m) fun x l => bindR (itR S go i l) fun r e => some (some (x :: r, e)) := by simp [itR, hg]
      rw [e] at h1 h2 h3
      have hvl := td.length
      rw [List.length_map] at hvl
      obtain ⟨r, hr⟩ : ∃ r, S m = some r := by
        cases hs : S m with
        | some r => exact ⟨r, rfl⟩
        | none => exact absurd hs (bindR_ne h1)
      refine w_seq (w_asg (w_d (K := K) (hS m u r H2 W2 hg hr) fun v H3 e3 tv => ?_))
      have W3 := W2.ex e3
      have f3 : Fr [fl] H H3 := f1.trans (Fr.of (e2.trans e3))
      have hl3 := (e2.trans e3) _ _ hl
      have td3 := td.ex (e2.trans e3)
      dsimp only
      cases r with
      | none =>
        refine w_seq (w_ifs (w_t (K := K) (b := true) (tk_vB (ed_isN (ed_var rfl tv))) fun H4 e4 => ifT rfl (w_ret (w_c ?_))))
        exact hbad (h2 (bindR_b hr)) H4 (f3.trans (Fr.of e4))
      | some xl =>
        obtain ⟨x, l⟩ := xl
        have tv : Td K H3 v (.tuple [enc x, .int (l : Int)]) := tv
        rw [bindR_of hr] at h1 h2 h3
        refine w_seq (w_ifs (w_t (K := K) (b := false) (tk_vB (ed_isN (ed_var rfl tv))) fun H4 e4 => ifF rfl (w_next ?_)))
        have hl4 := e4 _ _ hl3
        dsimp only
        refine w_seq (w_app rfl hl4 (w_d (K := K) (ed_ixT (i := 0) (ed_var rfl (tv.ex e4)) ed_ci atI_zero) fun y H5 e5 ty => ⟨vs, e5 _ _ hl4, sz_lt (by omega), ?_⟩))
        have W5 := (W3.ex e4).ex e5
        have hl5 := e5 _ _ hl4
        have kp : Keep K H5 (upd H5 fl (.lst (vs ++ [y]))) := Keep.upd hl5 True.intro
        have e35 := e4.trans e5
        dsimp only
        refine w_asg (w_d (K := K) (ed_ixT (i := 1) (ed_var rfl ((tv.ex e35).kp kp)) ed_ci rfl) fun q H6 e6 tq => ?_)
        cases tq
        refine ⟨l, vs ++ [y], xs ++ [x], some v, rfl, (W5.upd ne).ex e6, ((f3.trans (Fr.of e35)).trans (Fr.upd (by simp))).trans (Fr.of e6), e6 _ _ upd_same, ?_, by rw [List.length_append]; simp only [List.length_cons, List.length_nil]; omega, bindR_ne h1, fun h => h2 (bindR_b h), fun r e h => ?_⟩
        · rw [List.map_append]
          exact (((td3.ex e35).kp kp).snoc (ty.kp kp)).ex e6
        · rw [h3 (x :: r) e (bindR_of h)]
          simp
end
def rdTsE (ws : List Str) (dt n : Nat) : Rd (List Th) := bindR (rdTs ws dt n) fun ts e => some (some (ts, e + 1))
def encTs (ts : List Th) : PyData := .tuple (ts.map encT)
def encBd (b : List Stm) : PyData := .tuple (encB b)
/-- a step's reading, where one stands -/
def rdSg (ws : List Str) (dt d n : Nat) : Rd Stm := if isStepW (hereW ws n) then rdS ws dt d n else none
section
variable {P : Program} {w : World} {K : PySem.W.Frag} {mg : Str → Option Value} {base : Heap} (T : Tx K mg)
include T
theorem ok_ltsa {lv dt : Nat} (GT : Fn__law_thing_at T P w base CX0 lv (spAt K (fun ws => rdT ws dt) encT)) : Fn__law_things_at T P w base CX0 (lv + 1) (spAt K (fun ws => rdTsE ws dt) encTs) := by
  have G__law_thing_at := GT
  refine T.F__law_things_at.ok sc__law_things_at spAt_len fun cdv A outer s0 H vs Q E hr h => ?_
  obtain ⟨wl, ws, n, r, rfl, hW, hrd, k⟩ := h
  dsimp only at hrd
  have hlen := hW.ok.1
  refine ⟨_, (pss_cons (ps_set (i := 2) sc__law_things_at.nd rfl (Or.inl rfl) (pe_lst pa_nil))
  (pss_cons (ps_while (passes_of rfl) (pt_cmpR (kop_ne K hr.units) (pe_ix (kix_list K) (pe_op op_cat (pe_slice (ksl_list K) (pv 0) (po_some (pv 1)) (po_some (pe_op op_add (pv 1) pe_int))) (pe_lst (pa_cons pe_str pa_nil))) pe_int (fun _ _ => rfl)) pe_str (nomark _))
    (pss_cons (ps_set (i := 3) sc__law_things_at.nd rfl (Or.inl rfl) (pe_call G__law_thing_at (hr.mono (by omega)) (by rfl) T.g__law_thing_at T.k__law_thing_at T.bd__law_thing_at .nil pass0 (pa_cons (pv 0) (pa_cons (pv 1) pa_nil))))
    (pss_cons (ps_if (pt_cmp (pc_isN (pv 3)) rfl)
      (pss_one (ps_ret pe_non))
      pss_nil)
    (pss_cons (ps_expr (pe_bm PySem.F.plainAttrs_list PySem.F.slot_list_append PySem.F.type_list_append mt_append (pv 2) (pa_cons (pe_ix (kix_tup K) (pv 3) pe_int (fun _ _ => rfl)) pa_nil)))
    (pss_one (ps_set (i := 1) sc__law_things_at.nd rfl (Or.inl rfl) (pe_ix (kix_tup K) (pv 3) pe_int (fun _ _ => rfl))))))))
  (pss_one (ps_ret (pe_tup (pa_cons (pe_callTy (kc_tuple K) rfl T.b_tuple (by decide +kernel) (pa_cons (pv 2) pa_nil)) (pa_cons (pe_op op_add (pv 1) pe_int) pa_nil))))))), ?_⟩
  refine w_seq (w_asg (w_lst (w_nil ⟨Nat.zero_le _, fun fl hfl => ?_⟩)))
  have e1 : Ex H (upd H fl (.lst [])) := Ex.new hfl
  have hf1 : upd H fl (.lst []) fl = some (.lst []) := upd_same
  have W1 := hW.ex e1
  have ne : wl ≠ fl := fun e => by rw [← e, hW.hx] at hfl; cases hfl
  have exF : ∀ {H'}, Fr [fl] (upd H fl (.lst [])) H' → Ex H H' := fun f => ex_fr1 e1 hfl f
  generalize upd H fl (.lst []) = H1 at *
  dsimp only
  have hne : rdTs ws dt n ≠ none := bindR_ne (g := fun ts e => some (some (ts, e + 1))) (by unfold rdTsE at hrd; rw [hrd]; simp)
  refine w_seq (w_itL (S := rdT ws dt) (enc := encT) (go := fun i => !decide (hereW ws i = ".")) (fun m u H2 W2 => ?_) (fun m u r H2 W2 _ hr => ed_at (f := fun ws => rdT ws dt) rfl W2 (ed_var rfl (.int _)) hr) (ws.length + 1) (by omega) none W1 hf1 ne hne (fun hb H2 f2 => ?_) fun xs m vs u H2 hx W2 f2 hl tds => ?_)
  · exact tk_is (tk_v (ed_neS (ed_here1 rfl W2 (ed_var rfl (.int _)) (ed_succ (k := 1) (ed_var rfl (.int _)))) ed_cs (W2.here m).1 (by decide +kernel))) (by rw [eqv_str2])
  · have : rdTs ws dt n = some none := hb
    unfold rdTsE at hrd
    rw [bindR_b this] at hrd
    cases hrd
    exact k .non H2 (exF f2) .non
  · have : rdTs ws dt n = some (some (xs, m)) := hx
    unfold rdTsE at hrd
    rw [bindR_of this] at hrd
    cases hrd
    dsimp only
    refine w_ret (w_d (K := K) (ed_tup (ds := [.tuple (xs.map encT), .int ((m + 1 : Nat) : Int)]) (eda_cons (ed_tupL (edr_var rfl (SqL.of hl) tds)) (eda_cons (ed_succ (k := 1) (ed_var rfl (.int _))) eda_nil)) (by simp)) fun v H3 e3 tv => k v H3 ((exF f2).trans e3) tv)
theorem ok_lba {lv dt d : Nat} (GS : Fn__law_step_at T P w base CX0 lv (spAt K (fun ws => rdSg ws dt d) encS)) : Fn__law_body_at T P w base CX0 (lv + 1) (spAt K (fun ws => rdB ws dt d) encBd) := by
  have G__law_step_at := GS
  refine T.F__law_body_at.ok sc__law_body_at spAt_len fun cdv A outer s0 H vs Q E hr h => ?_
  obtain ⟨wl, ws, n, r, rfl, hW, hrd, k⟩ := h
  dsimp only at hrd
  have hlen := hW.ok.1
  refine ⟨_, (pss_cons (ps_set (i := 2) sc__law_body_at.nd rfl (Or.inl rfl) (pe_lst pa_nil))
  (pss_cons (ps_while (passes_of rfl) (pt_cmpR (kop_in K) (pe_ix (kix_list K) (pe_op op_cat (pe_slice (ksl_list K) (pv 0) (po_some (pv 1)) (po_some (pe_op op_add (pv 1) pe_int))) (pe_lst (pa_cons pe_str pa_nil))) pe_int (fun _ _ => rfl)) (pe_tup (pa_cons pe_str (pa_cons pe_str (pa_cons pe_str (pa_cons pe_str pa_nil))))) rfl)
    (pss_cons (ps_set (i := 3) sc__law_body_at.nd rfl (Or.inl rfl) (pe_call G__law_step_at (hr.mono (by omega)) (by rfl) T.g__law_step_at T.k__law_step_at T.bd__law_step_at .nil pass0 (pa_cons (pv 0) (pa_cons (pv 1) pa_nil))))
    (pss_cons (ps_if (pt_cmp (pc_isN (pv 3)) rfl)
      (pss_one (ps_ret pe_non))
      pss_nil)
    (pss_cons (ps_expr (pe_bm PySem.F.plainAttrs_list PySem.F.slot_list_append PySem.F.type_list_append mt_append (pv 2) (pa_cons (pe_ix (kix_tup K) (pv 3) pe_int (fun _ _ => rfl)) pa_nil)))
    (pss_one (ps_set (i := 1) sc__law_body_at.nd rfl (Or.inl rfl) (pe_ix (kix_tup K) (pv 3) pe_int (fun _ _ => rfl))))))))
  (pss_one (ps_ret (pe_tup (pa_cons (pe_callTy (kc_tuple K) rfl T.b_tuple (by decide +kernel) (pa_cons (pv 2) pa_nil)) (pa_cons (pv 1) pa_nil))))))), ?_⟩
  refine w_seq (w_asg (w_lst (w_nil ⟨Nat.zero_le _, fun fl hfl => ?_⟩)))
  have e1 : Ex H (upd H fl (.lst [])) := Ex.new hfl
  have hf1 : upd H fl (.lst []) fl = some (.lst []) := upd_same
  have W1 := hW.ex e1
  have ne : wl ≠ fl := fun e => by rw [← e, hW.hx] at hfl; cases hfl
  have exF : ∀ {H'}, Fr [fl] (upd H fl (.lst [])) H' → Ex H H' := fun f => ex_fr1 e1 hfl f
  generalize upd H fl (.lst []) = H1 at *
  dsimp only
  refine w_seq (w_itL (S := rdS ws dt d) (enc := encS) (go := fun j => isStepW (hereW ws j)) (fun m u H2 W2 => ?_) (fun m u r H2 W2 hg hr => ed_at (f := fun ws => rdSg ws dt d) rfl W2 (ed_var rfl (.int _)) (by unfold rdSg; rw [if_pos hg]; exact hr)) (ws.length + 1) (by omega) none W1 hf1 ne (by unfold rdB at hrd; rw [hrd]; simp) (fun hb H2 f2 => ?_) fun xs m vs u H2 hx W2 f2 hl tds => ?_)
  · refine tk_v (ed_is (ed_inT (ed_here1 rfl W2 (ed_var rfl (.int _)) (ed_succ (k := 1) (ed_var rfl (.int _)))) (ed_tup (eda_cons ed_cs (eda_cons ed_cs (eda_cons ed_cs (eda_cons ed_cs eda_nil)))) (by decide)) rfl rfl) ?_)
    simp only [List.any_cons, List.any_nil, eqv_str2, Bool.or_false, isStepW]
    congr 1
    generalize hereW ws m = z
    simp only [eq_comm]
  · have : rdB ws dt d n = some none := hb
    rw [this] at hrd
    cases hrd
    exact k .non H2 (exF f2) .non
  · have : rdB ws dt d n = some (some (xs, m)) := hx
    rw [this] at hrd
    cases hrd
    dsimp only
    refine w_ret (w_d (K := K) (ed_tup (ds := [.tuple (xs.map encS), .int (m : Int)]) (eda_cons (ed_tupL (edr_var rfl (SqL.of hl) tds)) (eda_cons (ed_var rfl (.int _)) eda_nil)) (by simp)) fun v H3 e3 tv => k v H3 ((exF f2).trans e3) ?_)
    rw [← encB_map] at tv
    exact tv
end
end Hw

set_option maxRecDepth 100000
set_option maxHeartbeats 4000000
/-! LF5: the law's own reader: steps -/
namespace Hw
open PySem PySem.Spec PyProof.Rows L2 Evl
local macro_rules | `(tactic| walk_at "dd") => `(tactic| first | rfl | decide | (simp; done) | omega)
local macro_rules | `(tactic| walk_at "td") => `(tactic| first | assumption | exact Td.int _ | exact Td.bl _ | exact Td.str _ | exact Td.non | exact Td.tup (by assumption) (by assumption))
local macro_rules | `(tactic| walk_at "ev") => `(tactic| first
  | exact ed_ci | exact ed_cs | exact ed_cb | exact ed_cn
  | (apply ed_cg; assumption)
  | (apply ed_var; (rfl); (walk_at "td"))
  | (apply ed_ixT; (walk_at "ev"); (walk_at "ev"); (first | rfl | assumption))
  | (apply ed_rowI; (rfl); (assumption); (walk_at "ev"); (rfl))
  | (apply ed_ixL; (apply EvDL.rd; walk_at "edl"); (walk_at "ev"); (rfl))
  | (apply ed_intb; (walk_at "ev"))
  | (apply ed_len; walk_at "ev")
  | (apply ed_lenV; (apply ev_rowR; (rfl); (assumption); (walk_at "ev"); (rfl)); (assumption))
  | (apply ed_Ii; (walk_at "ev"); (walk_at "ev"); (walk_at "cc"))
  | (apply ed_isi; (walk_at "ev"); (rfl))
  | (apply ed_I0i; (walk_at "ev"); (walk_at "ev"))
  | (apply ed_I0b; (walk_at "ev"); (walk_at "ev"))
  | (apply ed_eqi; (walk_at "ev"); (walk_at "ev"))
  | (apply ed_nei; (walk_at "ev"); (walk_at "ev"))
  | (apply ed_andF; walk_at "ev")
  | (apply ed_andV; (walk_at "ev"); (intro _; walk_at "ev"))
  | (apply ed_orT; walk_at "ev")
  | (apply ed_orV; (walk_at "ev"); (intro _; walk_at "ev"))
  | (apply ed_notT; walk_at "ev")
  | (apply ed_notF; walk_at "ev")
  | (apply ed_notV; walk_at "ev")
  | (apply ed_chain; (walk_at "ev"); (walk_at "ev"); (intro _; walk_at "ev"))
  | (apply ed_eqS; (walk_at "ev"); (walk_at "ev"); (walk_at "bb"); (walk_at "bb"))
  | (apply ed_neS; (walk_at "ev"); (walk_at "ev"); (walk_at "bb"); (walk_at "bb"))
  | (apply ed_inT; (walk_at "ev"); (walk_at "ev"); (rfl); (rfl))
  | (apply ed_niT; (walk_at "ev"); (walk_at "ev"); (rfl); (rfl))
  | (apply ed_tup; (walk_at "eva"); (walk_at "bb"))
  | (apply ed_sl; (walk_at "ev"); (walk_at "evo"); (walk_at "evo"))
  | (apply ed_eqN; (apply EvDL.rd; walk_at "edl"); (walk_at "edl"); (walk_at "bb"))
  | (apply ed_neN; (apply EvDL.rd; walk_at "edl"); (walk_at "edl"); (walk_at "bb"))
  | (apply ed_ixL; (apply edr_var; (rfl); (assumption); (assumption)); (walk_at "ev"); (first | rfl | assumption))
  | (apply ed_lenL; (apply edr_var; (rfl); (assumption); (assumption)))
  | (apply ed_call; (walk_at "eva"); (walk_at "post")))
local macro_rules | `(tactic| walk_at "edl") => `(tactic| first
  | assumption
  | (apply edl_lst; (walk_at "eva"); (walk_at "bb")))
local macro_rules | `(tactic| walk_at "eva") => `(tactic| first
  | exact eda_nil
  | (apply eda_cons; (walk_at "ev"); (walk_at "eva")))
local macro_rules | `(tactic| walk_at "evo") => `(tactic| first
  | exact eok_none
  | (apply eok_some; walk_at "ev"))
local macro_rules | `(tactic| walk_at "bb") => `(tactic| first | rfl | assumption | (simp; done) | (simp; omega) | decide +kernel)
local macro_rules | `(tactic| walk_at "et") => `(tactic| first
  | exact tk_yes
  | (apply tk_andF; walk_at "et")
  | (apply tk_and; (walk_at "et"); (intro _; walk_at "et"))
  | (apply tk_orT; walk_at "et")
  | (apply tk_or; (walk_at "et"); (intro _; walk_at "et"))
  | (apply tk_notT; walk_at "et")
  | (apply tk_notF; walk_at "et")
  | (apply tk_not; walk_at "et")
  | (apply tk_v; walk_at "ev")
  | (apply tk_vB; walk_at "ev"))
local macro_rules | `(tactic| walk_at "if") => `(tactic| first
  | (apply pst_whenF; (walk_at "et"); (walk_at "bb"))
  | (apply pst_whenT; (walk_at "et"); (walk_at "bb")))
local macro_rules | `(tactic| walk_at "post") => `(tactic| first | assumption | exact ⟨_, _, rfl, rfl⟩ | exact ⟨_, _, _, _, rfl, by omega, by omega, rfl⟩ | exact ⟨_, _, _, 0, rfl, by omega, by omega, rfl⟩)
local macro_rules | `(tactic| walk_at "cc") => `(tactic| first | assumption | decide | omega | (refine ⟨?_, ?_⟩ <;> first | decide | omega) | (exact Or.inl (by constructor <;> omega)))

/-- so many, one behind the other -/
def seqR {α : Type} (S : Nat → Rd α) : Nat → Nat → Rd (List α)
  | 0, n => some (some ([], n))
  | c + 1, n => bindR (S n) fun x m => bindR (seqR S c m) fun r l => some (some (x :: r, l))
def mkS : List Th → List (List Stm) → Stm
  | [t], [] => .say t
  | [t, u], [] => .set t u
  | [t], [a, b] => .ite t a b
  | _, _ => .say (.num 0)
theorem rdS_parts {ws : List Str} {dt d n : Nat} {z : Str} (hw : ws[n]? = some z) (c1 c2 : Nat) (hz : (z = "set" ∧ c1 = 2 ∧ c2 = 0) ∨ (z = "say" ∧ c1 = 1 ∧ c2 = 0) ∨ (z = "if" ∧ c1 = 1 ∧ c2 = 2)) :
    rdS ws dt (d + 1) n = bindR (seqR (rdT ws dt) c1 (n + 1)) fun ts l => bindR (seqR (rdIn ws (rdB ws dt d)) c2 l) fun bs e => some (some (mkS ts bs, e)) := by
  have ew : rdWord ws n = some (some (z, n + 1)) := by unfold rdWord; rw [hw]
  rw [rdS_succ, bindR_of ew]
  have n1 : ¬ ("set" : Str) = "call" := by decide +kernel
  have n2 : ¬ ("say" : Str) = "call" := by decide +kernel
  have n3 : ¬ ("if" : Str) = "call" := by decide +kernel
  have n4 : ¬ ("set" : Str) = "say" := by decide +kernel
  have n5 : ¬ ("if" : Str) = "say" := by decide +kernel
  have n6 : ¬ ("if" : Str) = "set" := by decide +kernel
  rcases hz with ⟨rfl, rfl, rfl⟩ | ⟨rfl, rfl, rfl⟩ | ⟨rfl, rfl, rfl⟩
  · simp only [n1, n4, if_false, if_true, seqR]
    rcases rdT ws dt (n + 1) with _ | _ | ⟨t, l⟩
    · rfl
    · rfl
    · simp only [bindR]
      rcases rdT ws dt l with _ | _ | ⟨u, e⟩ <;> rfl
  · simp only [n2, if_false, if_true, seqR]
    rcases rdT ws dt (n + 1) with _ | _ | ⟨t, l⟩ <;> rfl
  · simp only [n3, n5, n6, if_false, if_true, seqR]
    rcases rdT ws dt (n + 1) with _ | _ | ⟨t, l⟩
    · rfl
    · rfl
    · simp only [bindR]
      rcases rdIn ws (rdB ws dt d) l with _ | _ | ⟨a, e⟩
      · rfl
      · rfl
      · simp only [bindR]
        rcases rdIn ws (rdB ws dt d) e with _ | _ | ⟨b, e2⟩ <;> rfl
theorem seqR_len {α : Type} {S : Nat → Rd α} : ∀ {c n : Nat} {xs : List α} {m : Nat}, seqR S c n = some (some (xs, m)) → xs.length = c
  | 0, n, xs, m, h => by
    simp only [seqR] at h
    cases h
    rfl
  | c + 1, n, xs, m, h => by
    simp only [seqR] at h
    obtain ⟨x, l, _, h2⟩ := bindR_inv h
    obtain ⟨r, e, h3, h4⟩ := bindR_inv h2
    cases h4
    simp [seqR_len h3]
section
variable {K : PySem.W.Frag} {σ : L2.St} {H H' : Hp} {D : Ends} {tu : TS} {ta : TA} {te tb tj : TE} {E : XK} {wl fl : Addr} {ws : List Str} {n : Nat} {α : Type} {enc : α → PyData} {ds : List PyData} {S : Nat → Rd α}
/-- for k in range(c): told = ..; if none: return None; found.append(told[0]); at = .. -/
theorem w_seqL (c : Nat) (hc : c ≤ 10) {u2 u3 u5 : Option V} {vs : List V} (ha : EvDA K ta [some (.ref wl), some (.int (n : Int)), u2, u3, some (.ref fl), u5] H [.int (c : Int)])
    (hb : ∀ (i m : Nat) u3 vs H1 r (N : L2.St → Hp → Prop), WsAt wl ws H1 → Fr [fl] H H1 → H1 fl = some (.lst vs) → vs.length ≤ 100 → TdAll K H1 (vs.take 1) (ds.take 1) → S m = some r → (r = none → ∀ H2, Fr [fl] H1 H2 → D.rt .non H2) →
      (∀ x l v' u' H2, r = some (x, l) → WsAt wl ws H2 → Fr [fl] H1 H2 → H2 fl = some (.lst (vs ++ [v'])) → Td K H2 v' (enc x) → N [some (.ref wl), some (.int (l : Nat)), u2, u', some (.ref fl), some (.int (i : Int))] H2) →
      tu { D with nx := N, ct := N, bk := D.nx } [some (.ref wl), some (.int (m : Int)), u2, u3, some (.ref fl), some (.int (i : Int))] H1)
    (hW : WsAt wl ws H) (hf : H fl = some (.lst vs)) (hd0 : TdAll K H vs ds) (h1 : 1 ≤ ds.length) (hl : ds.length ≤ 50) (hne : seqR S c n ≠ none) (hbad : seqR S c n = some none → ∀ H1, Fr [fl] H H1 → D.rt .non H1)
    (hd : ∀ xs (m : Nat) vs u3 u5 H1, seqR S c n = some (some (xs, m)) → WsAt wl ws H1 → Fr [fl] H H1 → H1 fl = some (.lst vs) → TdAll K H1 vs (ds ++ xs.map enc) → D.nx [some (.ref wl), some (.int (m : Int)), u2, u3, some (.ref fl), u5] H1) :
    tFor (iRng1 ta) (gName 5) tu D [some (.ref wl), some (.int (n : Int)), u2, u3, some (.ref fl), u5] H := by
  refine w_forR (K := K) (n := c) ha (by omega) (fun i σ' H1 => ∃ (m : Nat) (vs : List V) (xs : List α) (u3 u5 : Option V), σ' = [some (.ref wl), some (.int (m : Int)), u2, u3, some (.ref fl), u5] ∧ WsAt wl ws H1 ∧ Fr [fl] H H1 ∧ H1 fl = some (.lst vs) ∧ TdAll K H1 vs (ds ++ xs.map enc) ∧ xs.length = i ∧
    seqR S (c - i) m ≠ none ∧ (seqR S (c - i) m = some none → seqR S c n = some none) ∧ ∀ r l, seqR S (c - i) m = some (some (r, l)) → seqR S c n = some (some (xs ++ r, l))) ?_ ?_ ?_
  · intro H1 e1
    exact ⟨n, vs, [], u3, u5, rfl, hW.ex e1, Fr.of e1, e1 _ _ hf, by simpa using hd0.ex e1, rfl, hne, id, fun r l h => h⟩
  · rintro i σ' H1 hi ⟨m, vs, xs, u3, u5, rfl, W1, f1, hl1, td, hxl, g1, g2, g3⟩
    have e : seqR S (c - i) m = bindR (S m) fun x l => bindR (seqR S (c - (i + 1)) l) fun r e => some (some (x :: r, e)) := by
      have : c - i = (c - (i + 1)) + 1 := by omega
      rw [this]
      rfl
    rw [e] at g1 g2 g3
    obtain ⟨r, hr⟩ : ∃ r, S m = some r := by
      cases hs : S m with
      | some r => exact ⟨r, rfl⟩
      | none => exact absurd hs (bindR_ne g1)
    have hvl := td.length
    rw [List.length_append, List.length_map] at hvl
    have td1 : TdAll K H1 (vs.take 1) (ds.take 1) := by
      have := td.take 1
      rw [List.take_append_of_le_length h1] at this
      exact this
    refine hb i m u3 vs H1 r _ W1 f1 hl1 (by omega) td1 hr (fun hrn H2 f2 => ?_) fun x l v' u' H2 hrx W2 f2 hl2 tv => ?_
    · subst hrn
      exact hbad (g2 (bindR_b hr)) H2 (f1.trans f2)
    · subst hrx
      rw [bindR_of hr] at g1 g2 g3
      refine ⟨l, vs ++ [v'], xs ++ [x], u', some (.int (i : Int)), rfl, W2, f1.trans f2, hl2, ?_, by rw [List.length_append, hxl]; rfl, bindR_ne g1, fun h => g2 (bindR_b h), fun r e h => ?_⟩
      · rw [List.map_append, ← List.append_assoc]
        exact (td.kp (fr_keep hl1 f2)).snoc tv
      · rw [g3 (x :: r) e (bindR_of h)]
        simp
  · rintro σ' H1 ⟨m, vs, xs, u3, u5, rfl, W1, f1, hl1, td, hxl, g1, g2, g3⟩
    have := g3 [] m (by rw [Nat.sub_self]; rfl)
    rw [List.append_nil] at this
    exact hd xs m vs u3 u5 H1 this W1 f1 hl1 td
end
abbrev lpS : Str := "("
abbrev rpS : Str := ")"
theorem isStepW_iff {z : Str} : isStepW z = true ↔ z = "set" ∨ z = "say" ∨ z = "if" ∨ z = "call" := by
  simp only [isStepW, Bool.or_eq_true, decide_eq_true_eq]
theorem hereW_at {ws : List Str} {n : Nat} {z : Str} (h : hereW ws n = z) (hz : z ≠ "") : ws[n]? = some z := by
  unfold hereW at h
  cases hw : ws[n]? with
  | none => rw [hw] at h; exact absurd h.symm hz
  | some y => rw [hw] at h; simp only [Option.getD_some] at h; rw [h]
theorem cut1_eq {ws : List Str} {m : Nat} {y : Str} : PyData.eqvAll (cutD (ws.map PyData.str) (some (m : Int)) (some ((m + 1 : Nat) : Int))) [.str y] = decide (ws[m]? = some y) := by
  rw [cut_one]
  cases ws[m]? with
  | none => simp [PyData.eqvAll]
  | some z =>
    simp only [PyData.eqvAll, eqv_str2, Bool.and_true, Option.some.injEq]
theorem cut1_lay {ws : List Str} (h : wdOk ws) {m : Nat} : PyData.canLayAll0 (cutD (ws.map PyData.str) (some (m : Int)) (some ((m + 1 : Nat) : Int))) = true := by
  rw [cut_one]
  cases hw : ws[m]? with
  | none => rfl
  | some z => simp [PyData.canLayAll0, (h.2 z (List.mem_of_getElem? hw)).2]
theorem encS_mk {z : Str} {c1 c2 : Nat} (hz : (z = "set" ∧ c1 = 2 ∧ c2 = 0) ∨ (z = "say" ∧ c1 = 1 ∧ c2 = 0) ∨ (z = "if" ∧ c1 = 1 ∧ c2 = 2)) {ts : List Th} {bs : List (List Stm)} (h1 : ts.length = c1) (h2 : bs.length = c2) :
    encS (mkS ts bs) = .tuple (.str z :: (ts.map encT ++ bs.map encBd)) := by
  rcases hz with ⟨rfl, rfl, rfl⟩ | ⟨rfl, rfl, rfl⟩ | ⟨rfl, rfl, rfl⟩
  · match ts, bs, h1, h2 with
    | [t, u], [], _, _ => simp [mkS, encS]
  · match ts, bs, h1, h2 with
    | [t], [], _, _ => simp [mkS, encS]
  · match ts, bs, h1, h2 with
    | [t], [a, b], _, _ => simp [mkS, encS, encBd]
section
variable {P : Program} {w : World} {K : PySem.W.Frag} {mg : Str → Option Value} {base : Heap} (T : Tx K mg)
include T
theorem ok_lsa {lv l1 l2 l3 dt d : Nat} (h1 : l1 ≤ lv) (h2 : l2 ≤ lv) (h3 : l3 ≤ lv) (h0 : 1 ≤ lv) (GF : Fn__law_is_figures T P w base CX0 1 (spFig K)) (GT : Fn__law_thing_at T P w base CX0 l1 (spAt K (fun ws => rdT ws dt) encT)) (GTs : Fn__law_things_at T P w base CX0 l2 (spAt K (fun ws => rdTsE ws dt) encTs))
    (GB : Fn__law_body_at T P w base CX0 l3 (spAt K (fun ws => rdB ws dt d) encBd)) : Fn__law_step_at T P w base CX0 (lv + 1) (spAt K (fun ws => rdSg ws dt (d + 1)) encS) := by
  have G__law_is_figures := GF
  have G__law_thing_at := GT
  have G__law_things_at := GTs
  have G__law_body_at := GB
  refine T.F__law_step_at.ok sc__law_step_at spAt_len fun cdv A outer s0 H vs Q E hr h => ?_
  obtain ⟨wl, ws, n, r, rfl, hW, hrd, k⟩ := h
  dsimp only at hrd
  have hlen := hW.ok.1
  refine ⟨_, (pss_cons (ps_if (pt_cmpR (kop_eq K hr.units) (pe_ix (kix_list K) (pv 0) (pv 1) (fun _ _ => rfl)) pe_str (nomark _))
    (pss_cons (ps_set (i := 2) sc__law_step_at.nd rfl (Or.inl rfl) (pe_ix (kix_list K) (pe_op op_cat (pe_slice (ksl_list K) (pv 0) (po_some (pe_op op_add (pv 1) pe_int)) (po_some (pe_op op_add (pv 1) pe_int))) (pe_lst (pa_cons pe_str pa_nil))) pe_int (fun _ _ => rfl)))
    (pss_cons (ps_set (i := 3) sc__law_step_at.nd rfl (Or.inl rfl) (pe_ifExp (pt_val (pe_call G__law_is_figures (hr.mono (by omega)) (by rfl) T.g__law_is_figures T.k__law_is_figures T.bd__law_is_figures .nil pass0 (pa_cons (pv 2) pa_nil))) (pe_call G__law_things_at (hr.mono (by omega)) (by rfl) T.g__law_things_at T.k__law_things_at T.bd__law_things_at .nil pass0 (pa_cons (pv 0) (pa_cons (pe_op op_add (pv 1) pe_int) pa_nil))) pe_non))
    (pss_one (ps_ret (pe_ifExp (pt_cmp (pc_isN (pv 3)) rfl) pe_non (pe_tup (pa_cons (pe_tup (pa_cons pe_str (pa_cons (pe_callTy call_int_str rfl T.b_int (by decide +kernel) (pa_cons (pv 2) pa_nil)) (pa_cons (pe_ix (kix_tup K) (pv 3) pe_int (fun _ _ => rfl)) pa_nil)))) (pa_cons (pe_ix (kix_tup K) (pv 3) pe_int (fun _ _ => rfl)) pa_nil))))))))
    pss_nil)
  (pss_cons (ps_set (i := 4) sc__law_step_at.nd rfl (Or.inl rfl) (pe_lst (pa_cons (pe_ix (kix_list K) (pv 0) (pv 1) (fun _ _ => rfl)) pa_nil)))
  (pss_cons (ps_set (i := 1) sc__law_step_at.nd rfl (Or.inl rfl) (pe_op op_add (pv 1) pe_int))
  (pss_cons (ps_for (passes_of rfl) rfl (pi_range1 rfl T.b_range (pa_cons (pe_dget (hu_of hr) (pe_disp (pps_cons pe_str pe_int (pps_cons pe_str pe_int (pps_cons pe_str pe_int pps_nil))) (by rfl) (by rfl) (fun z => by cases z) (by decide)) (pe_ix (kix_list K) (pv 4) pe_int (fun _ _ => rfl)) (fun _ _ => rfl)) pa_nil)) (pg_name (i := 5) sc__law_step_at.nd rfl (Or.inl rfl))
    (pss_cons (ps_set (i := 3) sc__law_step_at.nd rfl (Or.inl rfl) (pe_call G__law_thing_at (hr.mono (by omega)) (by rfl) T.g__law_thing_at T.k__law_thing_at T.bd__law_thing_at .nil pass0 (pa_cons (pv 0) (pa_cons (pv 1) pa_nil))))
    (pss_cons (ps_if (pt_cmp (pc_isN (pv 3)) rfl)
      (pss_one (ps_ret pe_non))
      pss_nil)
    (pss_cons (ps_expr (pe_bm PySem.F.plainAttrs_list PySem.F.slot_list_append PySem.F.type_list_append mt_append (pv 4) (pa_cons (pe_ix (kix_tup K) (pv 3) pe_int (fun _ _ => rfl)) pa_nil)))
    (pss_one (ps_set (i := 1) sc__law_step_at.nd rfl (Or.inl rfl) (pe_ix (kix_tup K) (pv 3) pe_int (fun _ _ => rfl))))))))
  (pss_cons (ps_for (passes_of rfl) rfl (pi_range1 rfl T.b_range (pa_cons (pe_op op_mul pe_int (pe_callTy kc_int rfl T.b_int (by decide +kernel) (pa_cons (pe_cmpR (kop_eq K hr.units) (pe_ix (kix_list K) (pv 4) pe_int (fun _ _ => rfl)) pe_str (nomark _)) pa_nil))) pa_nil)) (pg_name (i := 5) sc__law_step_at.nd rfl (Or.inl rfl))
    (pss_cons (ps_set (i := 3) sc__law_step_at.nd rfl (Or.inl rfl) (pe_ifExp (pt_cmpR (kop_eq K hr.units) (pe_slice (ksl_list K) (pv 0) (po_some (pv 1)) (po_some (pe_op op_add (pv 1) pe_int))) (pe_lst (pa_cons pe_str pa_nil)) (nomark _)) (pe_call G__law_body_at (hr.mono (by omega)) (by rfl) T.g__law_body_at T.k__law_body_at T.bd__law_body_at .nil pass0 (pa_cons (pv 0) (pa_cons (pe_op op_add (pv 1) pe_int) pa_nil))) pe_non))
    (pss_cons (ps_if (PW.pt (pw_or (pt_cmp (pc_isN (pv 3)) rfl) (pw_or1 (pt_cmpR (kop_ne K hr.units) (pe_slice (ksl_list K) (pv 0) (po_some (pe_ix (kix_tup K) (pv 3) pe_int (fun _ _ => rfl))) (po_some (pe_op op_add (pe_ix (kix_tup K) (pv 3) pe_int (fun _ _ => rfl)) pe_int))) (pe_lst (pa_cons pe_str pa_nil)) (nomark _)))))
      (pss_one (ps_ret pe_non))
      pss_nil)
    (pss_cons (ps_expr (pe_bm PySem.F.plainAttrs_list PySem.F.slot_list_append PySem.F.type_list_append mt_append (pv 4) (pa_cons (pe_ix (kix_tup K) (pv 3) pe_int (fun _ _ => rfl)) pa_nil)))
    (pss_one (ps_set (i := 1) sc__law_step_at.nd rfl (Or.inl rfl) (pe_op op_add (pe_ix (kix_tup K) (pv 3) pe_int (fun _ _ => rfl)) pe_int)))))))
  (pss_one (ps_ret (pe_tup (pa_cons (pe_callTy (kc_tuple K) rfl T.b_tuple (by decide +kernel) (pa_cons (pv 4) pa_nil)) (pa_cons (pv 1) pa_nil)))))))))), ?_⟩
  unfold rdSg at hrd
  split at hrd
  case isFalse => cases hrd
  rename_i hgo
  have hw4 := isStepW_iff.mp hgo
  have hwn : hereW ws n ≠ "" := by
    rcases hw4 with e | e | e | e <;> rw [e] <;> decide +kernel
  have hat := hereW_at rfl hwn
  have hz := hW.here n
  have hz1 := hW.here (n + 1)
  generalize hereW ws n = z at *
  have ew : rdWord ws n = some (some (z, n + 1)) := by unfold rdWord; rw [hat]
  have eword : ∀ {σ : L2.St} {H' : Hp}, σ[0]? = some (some (.ref wl)) → σ[1]? = some (some (.int (n : Int))) → WsAt wl ws H' → EvD K (tOp (rIxL K) (tVar 0) (tVar 1)) σ H' (.str z) := fun s0 s1 hx => ed_ixL (i := (n : Int)) (edr_var s0 (SqL.of hx.hx) (strs_tdA _ ws)) (ed_var s1 (.int _)) (atI_nat (by rw [List.getElem?_map, hat]; rfl))
  by_cases hc : z = "call"
  · subst hc
    rw [rdS_succ, bindR_of ew, if_pos rfl] at hrd
    refine w_seq (w_ifs (w_t (K := K) (b := true) (tk_is (tk_v (ed_eqS (eword rfl rfl hW) ed_cs hz.1 (by decide +kernel))) (by simp)) fun H1 e1 => ifT rfl ?_))
    have W1 := hW.ex e1
    refine w_seq (w_asg (w_d (K := K) (ed_here1 rfl W1 (ed_succ (k := 1) (ed_var rfl (.int _))) (ed_succ (k := 2) (ed_var rfl (.int _)))) fun v H2 e2 tv => ?_))
    cases tv
    have W2 := W1.ex e2
    dsimp only
    rw [rdNum_here] at hrd
    cases hn : numOf (hereW ws (n + 1)) with
    | none =>
      rw [hn] at hrd
      cases hrd
      have hfg := ed_fig (K := K) (E := fun _ _ _ => False) (σ := [some (.ref wl), some (.int (n : Int)), some (.str (hereW ws (n + 1))), none, none, none]) (H := H2) (te := tVar 2) (ed_var rfl (.str _)) hz1.2 hz1.1
      rw [hn] at hfg
      refine w_seq (w_asg (w_d (K := K) (ed_ifF (tk_vB hfg) ed_cn) fun v H3 e3 tv => ?_))
      dsimp only
      refine w_ret (w_d (K := K) (ed_ifT (tk_vB (ed_isN (ed_var rfl tv))) ed_cn) fun v H4 e4 tv => k v H4 (((e1.trans e2).trans e3).trans e4) tv)
    | some c =>
      rw [hn] at hrd
      rw [bindR_ok] at hrd
      have hfg := ed_fig (K := K) (E := fun _ _ _ => False) (σ := [some (.ref wl), some (.int (n : Int)), some (.str (hereW ws (n + 1))), none, none, none]) (H := H2) (te := tVar 2) (ed_var rfl (.str _)) hz1.2 hz1.1
      rw [hn] at hfg
      have hts : rdTs ws dt (n + 1 + 1) ≠ none := bindR_ne (by rw [hrd]; simp)
      obtain ⟨r1, hr1⟩ : ∃ r1, rdTsE ws dt (n + 1 + 1) = some r1 := by
        unfold rdTsE
        rcases h : rdTs ws dt (n + 1 + 1) with _ | _ | ⟨ts, e⟩
        · exact absurd h hts
        · exact ⟨_, rfl⟩
        · exact ⟨_, rfl⟩
      refine w_seq (w_asg (w_d (K := K) (ed_ifT (tk_vB hfg) (ed_at (f := fun ws => rdTsE ws dt) (enc := encTs) rfl W2 (ed_succ (k := 2) (ed_var rfl (.int _))) hr1)) fun v H3 e3 tv => ?_))
      have e03 := (e1.trans e2).trans e3
      dsimp only
      unfold rdTsE at hr1
      rcases h : rdTs ws dt (n + 1 + 1) with _ | _ | ⟨ts, e⟩
      · exact absurd h hts
      · rw [bindR_b h] at hr1 hrd
        cases hr1
        cases hrd
        refine w_ret (w_d (K := K) (ed_ifT (tk_vB (ed_isN (ed_var rfl tv))) ed_cn) fun v H4 e4 tv => k v H4 (e03.trans e4) tv)
      · rw [bindR_of h] at hr1 hrd
        cases hr1
        cases hrd
        have tv : Td K H3 v (.tuple [encTs ts, .int ((e + 1 : Nat) : Int)]) := tv
        obtain ⟨i1, i2⟩ := numOf_int hn
        refine w_ret (w_d (K := K) (ed_ifF (tk_vB (ed_isN (ed_var rfl tv))) (ed_tup (ds := [.tuple [.str "call", .int (c : Int), encTs ts], .int ((e + 1 : Nat) : Int)]) (eda_cons (ed_tup (eda_cons ed_cs (eda_cons (ed_intS (ed_var rfl (.str _)) i1 i2) (eda_cons (ed_ixT (i := 0) (ed_var rfl tv) ed_ci atI_zero) eda_nil))) (by simp)) (eda_cons (ed_ixT (i := 1) (ed_var rfl tv) ed_ci rfl) eda_nil)) (by simp))) fun v H4 e4 tv => k v H4 (e03.trans e4) ?_)
        have e5 : resD encS (some (Stm.call c ts, e + 1)) = .tuple [.tuple [.str "call", .int (c : Int), encTs ts], .int ((e + 1 : Nat) : Int)] := by simp only [resD, encS, encTs]
        rw [e5]
        exact tv
  · obtain ⟨c1, c2, hcz⟩ : ∃ c1 c2 : Nat, (z = "set" ∧ c1 = 2 ∧ c2 = 0) ∨ (z = "say" ∧ c1 = 1 ∧ c2 = 0) ∨ (z = "if" ∧ c1 = 1 ∧ c2 = 2) := by
      rcases hw4 with e | e | e | e
      · exact ⟨2, 0, .inl ⟨e, rfl, rfl⟩⟩
      · exact ⟨1, 0, .inr (.inl ⟨e, rfl, rfl⟩)⟩
      · exact ⟨1, 2, .inr (.inr ⟨e, rfl, rfl⟩)⟩
      · exact absurd e hc
    rw [rdS_parts hat c1 c2 hcz] at hrd
    have hc10 : c1 ≤ 10 ∧ c2 ≤ 10 := by rcases hcz with ⟨_, a, b⟩ | ⟨_, a, b⟩ | ⟨_, a, b⟩ <;> omega
    have hif : (2 : Int) * (if decide (z = "if") then 1 else 0) = (c2 : Int) := by
      rcases hcz with ⟨rfl, _, rfl⟩ | ⟨rfl, _, rfl⟩ | ⟨rfl, _, rfl⟩ <;> decide +kernel
    refine w_seq (w_ifs (w_t (K := K) (b := false) (tk_is (tk_v (ed_eqS (eword rfl rfl hW) ed_cs hz.1 (by decide +kernel))) (by rw [eqv_str2]; simp [hc])) fun H1 e1 => ifF rfl (w_next ?_)))
    have W1 := hW.ex e1
    dsimp only
    refine w_seq (w_asg (w_dl (K := K) (edl_lst (ds := [.str z]) (eda_cons (eword rfl rfl W1) eda_nil) (by simp)) fun fl xs H2 hfl e2 hf2 ta => ?_))
    have W2 := W1.ex e2
    have ne : wl ≠ fl := fun e => by rw [← e, W1.hx] at hfl; cases hfl
    have exF : ∀ {H'}, Fr [fl] H2 H' → Ex H H' := fun f => ex_fr1 (e1.trans e2) (fresh_back e1 hfl) f
    have efound : ∀ {σ : L2.St} {H' : Hp} {vs : List V} {ds : List PyData}, σ[4]? = some (some (.ref fl)) → H' fl = some (.lst vs) → TdAll K H' vs (.str z :: ds) → EvD K (tOp (rIxL K) (tVar 4) (tC (.int 0))) σ H' (.str z) := fun s hx ht => ed_ixL (i := 0) (edr_var s (SqL.of hx) ht) ed_ci atI_zero
    dsimp only
    refine w_seq (w_asg (w_d (K := K) (ed_succ (k := 1) (ed_var rfl (.int _))) fun v H3 e3 tv => ?_))
    cases tv
    have W3 := W2.ex e3
    have hf3 := e3 _ _ hf2
    have ta3 := ta.ex e3
    have f3 : Fr [fl] H2 H3 := Fr.of e3
    dsimp only
    have hs1 : seqR (rdT ws dt) c1 (n + 1) ≠ none := bindR_ne (by rw [hrd]; simp)
    refine w_seq (w_seqL (S := rdT ws dt) (enc := encT) (ds := [.str z]) c1 hc10.1 (eda_cons ?_ eda_nil) (fun i m u3 vs H4 r1 N W4 f4 hl4 hvl td4 hr1 hbad hgo => ?_) W3 hf3 ta3 (by simp) (by simp) hs1 (fun hb H4 f4 => ?_) fun ts m vs u3 u5 H4 hx W4 f4 hl4 td4 => ?_)
    · rcases hcz with ⟨rfl, rfl, _⟩ | ⟨rfl, rfl, _⟩ | ⟨rfl, rfl, _⟩ <;>
      exact ed_i (ev_dgetD (K := K) [(Sum.inr "set", .int 2), (Sum.inr "say", .int 1), (Sum.inr "if", .int 1)] (eps_cons ev_c ev_c (eps_cons ev_c ev_c (eps_cons ev_c ev_c eps_nil))) (by simp) (efound rfl hf3 ta3) rfl)
    · refine w_seq (w_asg (w_d (K := K) (ed_at (f := fun ws => rdT ws dt) (enc := encT) rfl W4 (ed_var rfl (.int _)) hr1) fun v H5 e5 tv => ?_))
      have W5 := W4.ex e5
      have hl5 := e5 _ _ hl4
      dsimp only
      cases r1 with
      | none => exact w_seq (w_ifs (w_t (K := K) (b := true) (tk_vB (ed_isN (ed_var rfl tv))) fun H6 e6 => ifT rfl (w_ret (w_c (hbad rfl H6 (Fr.of (e5.trans e6)))))))
      | some xl =>
        obtain ⟨x, l⟩ := xl
        have tv : Td K H5 v (.tuple [encT x, .int (l : Int)]) := tv
        refine w_seq (w_ifs (w_t (K := K) (b := false) (tk_vB (ed_isN (ed_var rfl tv))) fun H6 e6 => ifF rfl (w_next ?_)))
        have hl6 := e6 _ _ hl5
        dsimp only
        refine w_seq (w_app rfl hl6 (w_d (K := K) (ed_ixT (i := 0) (ed_var rfl (tv.ex e6)) ed_ci atI_zero) fun y H7 e7 ty => ⟨vs, e7 _ _ hl6, sz_lt (by omega), ?_⟩))
        have hl7 := e7 _ _ hl6
        have kp : Keep K H7 (upd H7 fl (.lst (vs ++ [y]))) := Keep.upd hl7 True.intro
        dsimp only
        refine w_asg (w_d (K := K) (ed_ixT (i := 1) (ed_var rfl ((tv.ex (e6.trans e7)).kp kp)) ed_ci rfl) fun q H8 e8 tq => ?_)
        cases tq
        exact hgo x l y _ H8 rfl ((((W5.ex e6).ex e7).upd ne).ex e8) (((Fr.of ((e5.trans e6).trans e7)).trans (Fr.upd (by simp))).trans (Fr.of e8)) (e8 _ _ upd_same) ((ty.kp kp).ex e8)
    · rw [bindR_b hb] at hrd
      cases hrd
      exact k .non H4 (exF (f3.trans f4)) .non
    · rw [bindR_of hx] at hrd
      have ht1 := seqR_len hx
      have f24 := f3.trans f4
      dsimp only
      have hs2 : seqR (rdIn ws (rdB ws dt d)) c2 m ≠ none := bindR_ne (by rw [hrd]; simp)
      refine w_seq (w_seqL (S := rdIn ws (rdB ws dt d)) (enc := encBd) (ds := [.str z] ++ ts.map encT) c2 hc10.2 (eda_cons ?_ eda_nil) (fun i m u3 vs H5 r1 N W5 f5 hl5 hvl td5 hr1 hbad hgo => ?_) W4 hl4 td4 (by simp) (by simp; omega) hs2 (fun hb H5 f5 => ?_) fun bs m2 vs u3 u5 H5 hx2 W5 f5 hl5 td5 => ?_)
      · refine ed_is (ed_Ii ed_ci (ed_intb (b := decide (z = "if")) (ed_is (ed_eqS (efound rfl hl4 td4) ed_cs hz.1 (by decide +kernel)) (by rw [eqv_str2]))) ?_) (by rw [hif])
        exact Or.inl (by constructor <;> decide)
      · unfold rdIn at hr1
        have eLL : EvD K (tOp (rEqM K) (tSl (rSlL K) (tVar 0) (tPart (tVar 1)) (tPart (tOp (rI0 fun i j => .int (i + j)) (tVar 1) (tC (.int 1))))) (tLst (tCons (tC (.str lpS)) tNil))) [some (.ref wl), some (.int (m : Int)), none, u3, some (.ref fl), some (.int (i : Int))] H5 (.bool (decide (ws[m]? = some lpS))) :=
          ed_is (ed_eqLL (EvDL.rd (edl_slL (edr_var rfl (SqL.of W5.hx) (strs_tdA _ ws)) (eok_some (ed_var rfl (.int _))) (eok_some (ed_succ (k := 1) (ed_var rfl (.int _)))))) (edl_lst (ds := [.str lpS]) (eda_cons ed_cs eda_nil) (by simp)) (cut1_lay W5.ok) (by decide +kernel) (by decide)) (by rw [cut1_eq])
        by_cases hp : ws[m]? = some lpS
        · have ew2 : rdWord ws m = some (some (lpS, m + 1)) := by unfold rdWord; rw [hp]
          rw [bindR_of ew2, if_pos rfl] at hr1
          obtain ⟨r2, hr2⟩ : ∃ r2, rdB ws dt d (m + 1) = some r2 := by
            cases h : rdB ws dt d (m + 1) with
            | some r2 => exact ⟨r2, rfl⟩
            | none => rw [h] at hr1; cases hr1
          refine w_seq (w_asg (w_d (K := K) (ed_ifT (tk_is (tk_v eLL) (by simp [hp])) (ed_at (f := fun ws => rdB ws dt d) (enc := encBd) rfl W5 (ed_succ (k := 1) (ed_var rfl (.int _))) hr2)) fun v H6 e6 tv => ?_))
          have W6 := W5.ex e6
          have hl6 := e6 _ _ hl5
          dsimp only
          cases r2 with
          | none =>
            rw [bindR_b hr2] at hr1
            cases hr1
            exact w_seq (w_ifs (w_t (K := K) (b := true) (tk_orT (tk_vB (ed_isN (ed_var rfl tv)))) fun H7 e7 => ifT rfl (w_ret (w_c (hbad rfl H7 (Fr.of (e6.trans e7)))))))
          | some bl =>
            obtain ⟨b, l⟩ := bl
            rw [bindR_of hr2] at hr1
            have tv : Td K H6 v (.tuple [encBd b, .int (l : Int)]) := tv
            refine w_seq (w_ifs (w_t (K := K) (b := !decide (ws[l]? = some rpS)) (tk_is (tk_or (tk_vB (ed_isN (ed_var rfl tv))) fun _ => tk_v (ed_neLL (EvDL.rd (edl_slL (lo := some (l : Int)) (hi := some ((l + 1 : Nat) : Int)) (edr_var rfl (SqL.of W6.hx) (strs_tdA _ ws)) (eok_some (ed_ixT (i := 1) (ed_var rfl tv) ed_ci rfl)) (eok_some (ed_succ (k := 1) (ed_ixT (i := 1) (ed_var rfl tv) ed_ci rfl))))) (edl_lst (ds := [.str rpS]) (eda_cons ed_cs eda_nil) (by simp)) (cut1_lay W6.ok) (by decide +kernel) (by decide))) (by rw [cut1_eq]; rfl)) fun H7 e7 => ?_))
            by_cases hq : ws[l]? = some rpS
            · have ew3 : rdWord ws l = some (some (rpS, l + 1)) := by unfold rdWord; rw [hq]
              rw [bindR_of ew3, if_pos rfl] at hr1
              cases hr1
              refine ifF (by simp [hq]) (w_next ?_)
              have hl7 := e7 _ _ hl6
              dsimp only
              refine w_seq (w_app rfl hl7 (w_d (K := K) (ed_ixT (i := 0) (ed_var rfl (tv.ex e7)) ed_ci atI_zero) fun y H8 e8 ty => ⟨vs, e8 _ _ hl7, sz_lt (by omega), ?_⟩))
              have hl8 := e8 _ _ hl7
              have kp : Keep K H8 (upd H8 fl (.lst (vs ++ [y]))) := Keep.upd hl8 True.intro
              dsimp only
              refine w_asg (w_d (K := K) (ed_succ (k := 1) (ed_ixT (i := 1) (ed_var rfl ((tv.ex (e7.trans e8)).kp kp)) ed_ci rfl)) fun q H9 e9 tq => ?_)
              cases tq
              exact hgo b (l + 1) y _ H9 rfl ((((W6.ex e7).ex e8).upd ne).ex e9) (((Fr.of ((e6.trans e7).trans e8)).trans (Fr.upd (by simp))).trans (Fr.of e9)) (e9 _ _ upd_same) ((ty.kp kp).ex e9)
            · have hrn : r1 = none := by
                unfold rdWord at hr1
                cases hw : ws[l]? with
                | none => rw [hw] at hr1; cases hr1; rfl
                | some y =>
                  rw [hw, bindR_ok, if_neg (fun e => hq (by rw [hw, e]))] at hr1
                  cases hr1
                  rfl
              exact ifT (by simp [hq]) (w_ret (w_c (hbad hrn H7 (Fr.of (e6.trans e7)))))
        · have hrn : r1 = none := by
            unfold rdWord at hr1
            cases hw : ws[m]? with
            | none => rw [hw] at hr1; cases hr1; rfl
            | some y =>
              rw [hw, bindR_ok, if_neg (fun e => hp (by rw [hw, e]))] at hr1
              cases hr1
              rfl
          refine w_seq (w_asg (w_d (K := K) (ed_ifF (tk_is (tk_v eLL) (by simp [hp])) ed_cn) fun v H6 e6 tv => ?_))
          dsimp only
          exact w_seq (w_ifs (w_t (K := K) (b := true) (tk_orT (tk_vB (ed_isN (ed_var rfl tv)))) fun H7 e7 => ifT rfl (w_ret (w_c (hbad hrn H7 (Fr.of (e6.trans e7)))))))
      · rw [bindR_b hb] at hrd
        cases hrd
        exact k .non H5 (exF (f24.trans f5)) .non
      · rw [bindR_of hx2] at hrd
        cases hrd
        have ht2 := seqR_len hx2
        dsimp only
        refine w_ret (w_d (K := K) (ed_tup (ds := [.tuple ([.str z] ++ ts.map encT ++ bs.map encBd), .int (m2 : Int)]) (eda_cons (ed_tupL (edr_var rfl (SqL.of hl5) td5)) (eda_cons (ed_var rfl (.int _)) eda_nil)) (by simp)) fun v H6 e6 tv => k v H6 ((exF (f24.trans f5)).trans e6) ?_)
        have e7 : resD encS (some (mkS ts bs, m2)) = .tuple [.tuple ([.str z] ++ ts.map encT ++ bs.map encBd), .int (m2 : Int)] := by
          simp only [resD, encS_mk hcz ht1 ht2, List.cons_append, List.nil_append]
        rw [e7]
        exact tv
end
end Hw

set_option maxRecDepth 100000
set_option maxHeartbeats 4000000
/-! LD: data let by, the law's own text, how deep the reader goes -/
namespace Hw
open PySem PySem.Spec PyProof.Rows L2 Evl
local macro_rules | `(tactic| walk_at "dd") => `(tactic| first | rfl | decide | (simp; done) | omega)
local macro_rules | `(tactic| walk_at "td") => `(tactic| first | assumption | exact Td.int _ | exact Td.bl _ | exact Td.str _ | exact Td.non | exact Td.tup (by assumption) (by assumption))
local macro_rules | `(tactic| walk_at "ev") => `(tactic| first
  | exact ed_ci | exact ed_cs | exact ed_cb | exact ed_cn
  | (apply ed_cg; assumption)
  | (apply ed_var; (rfl); (walk_at "td"))
  | (apply ed_ixT; (walk_at "ev"); (walk_at "ev"); (first | rfl | assumption))
  | (apply ed_rowI; (rfl); (assumption); (walk_at "ev"); (rfl))
  | (apply ed_ixL; (apply EvDL.rd; walk_at "edl"); (walk_at "ev"); (rfl))
  | (apply ed_intb; (walk_at "ev"))
  | (apply ed_len; walk_at "ev")
  | (apply ed_lenV; (apply ev_rowR; (rfl); (assumption); (walk_at "ev"); (rfl)); (assumption))
  | (apply ed_Ii; (walk_at "ev"); (walk_at "ev"); (walk_at "cc"))
  | (apply ed_isi; (walk_at "ev"); (rfl))
  | (apply ed_I0i; (walk_at "ev"); (walk_at "ev"))
  | (apply ed_I0b; (walk_at "ev"); (walk_at "ev"))
  | (apply ed_eqi; (walk_at "ev"); (walk_at "ev"))
  | (apply ed_nei; (walk_at "ev"); (walk_at "ev"))
  | (apply ed_andF; walk_at "ev")
  | (apply ed_andV; (walk_at "ev"); (intro _; walk_at "ev"))
  | (apply ed_orT; walk_at "ev")
  | (apply ed_orV; (walk_at "ev"); (intro _; walk_at "ev"))
  | (apply ed_notT; walk_at "ev")
  | (apply ed_notF; walk_at "ev")
  | (apply ed_notV; walk_at "ev")
  | (apply ed_chain; (walk_at "ev"); (walk_at "ev"); (intro _; walk_at "ev"))
  | (apply ed_eqS; (walk_at "ev"); (walk_at "ev"); (walk_at "bb"); (walk_at "bb"))
  | (apply ed_neS; (walk_at "ev"); (walk_at "ev"); (walk_at "bb"); (walk_at "bb"))
  | (apply ed_inT; (walk_at "ev"); (walk_at "ev"); (rfl); (rfl))
  | (apply ed_niT; (walk_at "ev"); (walk_at "ev"); (rfl); (rfl))
  | (apply ed_tup; (walk_at "eva"); (walk_at "bb"))
  | (apply ed_sl; (walk_at "ev"); (walk_at "evo"); (walk_at "evo"))
  | (apply ed_eqN; (apply EvDL.rd; walk_at "edl"); (walk_at "edl"); (walk_at "bb"))
  | (apply ed_neN; (apply EvDL.rd; walk_at "edl"); (walk_at "edl"); (walk_at "bb"))
  | (apply ed_ixL; (apply edr_var; (rfl); (assumption); (assumption)); (walk_at "ev"); (first | rfl | assumption))
  | (apply ed_lenL; (apply edr_var; (rfl); (assumption); (assumption)))
  | (apply ed_call; (walk_at "eva"); (walk_at "post")))
local macro_rules | `(tactic| walk_at "edl") => `(tactic| first
  | assumption
  | (apply edl_lst; (walk_at "eva"); (walk_at "bb")))
local macro_rules | `(tactic| walk_at "eva") => `(tactic| first
  | exact eda_nil
  | (apply eda_cons; (walk_at "ev"); (walk_at "eva")))
local macro_rules | `(tactic| walk_at "evo") => `(tactic| first
  | exact eok_none
  | (apply eok_some; walk_at "ev"))
local macro_rules | `(tactic| walk_at "bb") => `(tactic| first | rfl | assumption | (simp; done) | (simp; omega) | decide +kernel)
local macro_rules | `(tactic| walk_at "et") => `(tactic| first
  | exact tk_yes
  | (apply tk_andF; walk_at "et")
  | (apply tk_and; (walk_at "et"); (intro _; walk_at "et"))
  | (apply tk_orT; walk_at "et")
  | (apply tk_or; (walk_at "et"); (intro _; walk_at "et"))
  | (apply tk_notT; walk_at "et")
  | (apply tk_notF; walk_at "et")
  | (apply tk_not; walk_at "et")
  | (apply tk_v; walk_at "ev")
  | (apply tk_vB; walk_at "ev"))
local macro_rules | `(tactic| walk_at "if") => `(tactic| first
  | (apply pst_whenF; (walk_at "et"); (walk_at "bb"))
  | (apply pst_whenT; (walk_at "et"); (walk_at "bb")))
local macro_rules | `(tactic| walk_at "post") => `(tactic| first | assumption | exact ⟨_, _, rfl, rfl⟩ | exact ⟨_, _, _, _, rfl, by omega, by omega, rfl⟩ | exact ⟨_, _, _, 0, rfl, by omega, by omega, rfl⟩)
local macro_rules | `(tactic| walk_at "cc") => `(tactic| first | assumption | decide | omega | (refine ⟨?_, ?_⟩ <;> first | decide | omega) | (exact Or.inl (by constructor <;> omega)))

def spLTx (K : PySem.W.Frag) : Sp := fun vs H Q _ => ∃ (pw : V) (p : List Wk), vs = [pw] ∧ Td K H pw (encP p) ∧ okP p = true ∧ ∀ H', Ex H H' → Q (.str (txP p)) H'
theorem okD_str (n : Nat) (s : Str) : okD n (.str s) = true := by cases n <;> simp [okD]
theorem okD_int (n : Nat) (i : Int) : okD n (.int i) = true := by cases n <;> simp [okD]
theorem okD_T : ∀ (t : Th) (n : Nat), dpT t < n → okD n (encT t) = true
  | t, 0, h => by omega
  | .num m, n + 1, h => by cases n <;> simp [encT, okD]
  | .own m, n + 1, h => by cases n <;> simp [encT, okD]
  | .par m, n + 1, h => by cases n <;> simp [encT, okD]
  | .cell t, n + 1, h => by
    simp only [dpT] at h
    have := okD_T t n (by omega)
    cases n <;> simp_all [encT, okD]
  | .sum a b, n + 1, h => by
    simp only [dpT] at h
    have h1 := okD_T a n (by omega)
    have h2 := okD_T b n (by omega)
    cases n <;> simp_all [encT, okD]
mutual
theorem okD_S {sh : List (Nat × Nat)} {i : Nat} : ∀ (x : Stm) (w n : Nat), okS sh i x w = true → smS x = true → 7 + 2 * dpS x ≤ n → okD n (encS x) = true
  | .set p t, w, n, h, hs, hn => by
    obtain ⟨n, rfl⟩ : ∃ m, n = m + 1 := ⟨n - 1, by omega⟩
    simp only [okS, Bool.and_eq_true, decide_eq_true_eq] at h
    have g1 := okD_T p n (by have := (okT_wf _ _ h.2.1).2; omega)
    have g2 := okD_T t n (by have := (okT_wf _ _ h.2.2.2).2; omega)
    cases n <;> simp_all [encS, okD]
  | .say t, w, n, h, hs, hn => by
    obtain ⟨n, rfl⟩ : ∃ m, n = m + 1 := ⟨n - 1, by omega⟩
    simp only [okS, Bool.and_eq_true, decide_eq_true_eq] at h
    have g1 := okD_T t n (by have := (okT_wf _ _ h.2).2; omega)
    cases n <;> simp_all [encS, okD]
  | .call c ts, w, n, h, hs, hn => by
    obtain ⟨n, rfl⟩ : ∃ m, n = m + 2 := ⟨n - 2, by omega⟩
    simp only [okS, Bool.and_eq_true, decide_eq_true_eq, List.all_eq_true] at h
    simp only [smS, decide_eq_true_eq] at hs
    have g : (ts.map encT).all (okD n) = true := by
      rw [List.all_eq_true]
      intro d hd
      obtain ⟨t, ht, rfl⟩ := List.mem_map.mp hd
      exact okD_T t n (by have := (okT_wf _ _ (h.2.2.2.2 t ht)).2; omega)
    simp only [encS, okD, List.all_cons, List.all_nil, Bool.and_true, Bool.and_eq_true, decide_eq_true_eq, List.length_map, g, List.length_cons, List.length_nil, okD_str, okD_int, true_and, and_true]
    omega
  | .ite t a b, w, n, h, hs, hn => by
    simp only [dpS] at hn
    obtain ⟨n, rfl⟩ : ∃ m, n = m + 2 := ⟨n - 2, by omega⟩
    simp only [okS, Bool.and_eq_true, decide_eq_true_eq] at h
    simp only [smS, Bool.and_eq_true, decide_eq_true_eq] at hs
    have g0 := okD_T t (n + 1) (by have := (okT_wf _ _ h.2.1).2; omega)
    have g1 := okD_B a (w + 1) n h.2.2.1 hs.2.1 (by omega)
    have g2 := okD_B b (w + 1) n h.2.2.2 hs.2.2 (by omega)
    simp only [encS, okD, List.all_cons, List.all_nil, Bool.and_true, Bool.and_eq_true, decide_eq_true_eq, encB_length, g0, g1, g2, List.length_cons, List.length_nil, okD_str, okD_int, true_and, and_true]
    omega
theorem okD_B {sh : List (Nat × Nat)} {i : Nat} : ∀ (b : List Stm) (w n : Nat), okB sh i b w = true → smB b = true → 7 + 2 * dpB b ≤ n → (encB b).all (okD n) = true
  | [], w, n, h, hs, hn => by simp [encB]
  | x :: r, w, n, h, hs, hn => by
    simp only [okB, Bool.and_eq_true] at h
    simp only [smB, Bool.and_eq_true] at hs
    simp only [dpB] at hn
    have h1 := okD_S x w n h.1 hs.1 (by omega)
    have h2 := okD_B r w n h.2 hs.2 (by omega)
    simp only [encB, List.all_cons, h1, h2, Bool.and_true]
end
theorem okD_P {p : List Wk} (h : okP p = true) (hs : smP p) : okD 20 (encP p) = true := by
  have hl := okP_len h
  simp only [encP, okD, Bool.and_eq_true, decide_eq_true_eq, List.length_map, List.all_eq_true]
  refine ⟨by omega, fun d hd => ?_⟩
  obtain ⟨w, hw, rfl⟩ := List.mem_map.mp hd
  obtain ⟨i, hi⟩ := List.mem_iff_getElem?.mp hw
  have g := okP_get h hi
  have g2 := hs.2 w hw
  have g3 := okD_B w.body 0 17 g.2.2.1 g2.2 (by have := okB_dp _ _ g.2.2.1; omega)
  simp only [encW, okD, List.all_cons, List.all_nil, Bool.and_true, Bool.and_eq_true, decide_eq_true_eq, encB_length, g3, List.length_cons, List.length_nil, okD_str, okD_int, true_and, and_true]
  have := g2.1
  omega
section
variable {K : PySem.W.Frag} {σ : L2.St} {H : Hp} {ta tb : TE} {E : XK} {i n : Nat} {v : V} {p : List Wk} {f d : PyData}
theorem ed_alikeN (h1 : EvD K ta σ H f) (h2 : EvD K tb σ H d) (lf : f.canLay0 = true) (ld : d.canLay0 = true) (ho : okD n d = true) : EvD K (tCall (spAl K n) [] E (tCons ta (tCons tb tNil))) σ H (.bool (alikeN (n + 1) f d)) := fun H1 e1 Q q =>
  w_call (w_cons (h1 H1 e1 _ fun x H2 e2 tx => w_cons (h2 H2 (e1.trans e2) _ fun y H3 e3 ty => w_nil ⟨x, y, f, d, rfl, Td.tl _ (tx.ex e3), Td.tl _ ty, lf, ld, ho, fun H4 e4 => q _ H4 ((e2.trans e3).trans e4) (.bl _)⟩)))
end
section
variable {P : Program} {w : World} {K : PySem.W.Frag} {mg : Str → Option Value} {base : Heap} (T : Tx K mg)
include T
theorem ok_ltext (GW : Fn__law_words T P w base CX0 18 (spWd K (pLW 17))) : Fn__law_text T P w base CX0 19 (spLTx K) := by
  have G__law_words := GW
  refine T.F__law_text.ok sc__law_text (fun vs H Q E h => by obtain ⟨_, _, rfl, _⟩ := h; rfl) fun cdv A outer s0 H vs Q E hr h => ?_
  obtain ⟨pw, p, rfl, tp, hok, k⟩ := h
  have hl := okP_len hok
  refine ⟨_, (pss_cons (ps_set (i := 1) sc__law_text.nd rfl (Or.inl rfl) (pe_lst pa_nil))
  (pss_cons (ps_for (passes_of rfl) rfl (kpi_tup K (pv 0)) (kpg_tup K rfl (pgs_cons (pg_name (i := 2) sc__law_text.nd rfl (Or.inl rfl)) (pgs_cons (pg_name (i := 3) sc__law_text.nd rfl (Or.inl rfl)) (pgs_cons (pg_name (i := 4) sc__law_text.nd rfl (Or.inl rfl)) pgs_nil))))
    (pss_one (ps_expr (pe_bm PySem.F.plainAttrs_list PySem.F.slot_list_append PySem.F.type_list_append mt_append (pv 1) (pa_cons (pe_join pe_str (pe_op op_cat (pe_lst (pa_cons (pe_callTy call_str_int rfl T.b_str (by decide +kernel) (pa_cons (pv 2) pa_nil)) (pa_cons (pe_callTy call_str_int rfl T.b_str (by decide +kernel) (pa_cons (pv 3) pa_nil)) pa_nil))) (pe_call G__law_words (hr.mono (by omega)) (by rfl) T.g__law_words T.k__law_words T.bd__law_words .nil pass0 (pa_cons (pv 4) pa_nil)))) pa_nil)))))
  (pss_one (ps_ret (pe_join pe_str (pv 1)))))), ?_⟩
  refine w_seq (w_asg (w_lst (w_nil ⟨Nat.zero_le _, fun fl hfl => ?_⟩)))
  have e1 : Ex H (upd H fl (.lst [])) := Ex.new hfl
  have hf1 : upd H fl (.lst []) fl = some (.lst (([] : List Str).map V.str)) := upd_same
  dsimp only
  generalize upd H fl (.lst []) = H1 at *
  have tp1 := tp.ex e1
  refine w_seq (w_forT3 (K := K) p (fun w => .int (w.params : Int)) (fun w => .int (w.owns : Int)) (fun w => .tuple (encB w.body)) rfl tp1 (fun i σ' H' => ∃ u2 u3 u4 : Option V, σ' = [some pw, some (.ref fl), u2, u3, u4] ∧ Fr [fl] H1 H' ∧ H' fl = some (.lst (((p.take i).map lnW).map V.str))) ?_ ?_ ?_ ?_)
  · exact ⟨_, _, _, rfl, Fr.refl, by simpa using hf1⟩
  · rintro i σ' H' ⟨u2, u3, u4, rfl, f, hx⟩
    refine f.keep fun a ha => ?_
    have : a = fl := by simpa using ha
    rw [this]
    exact ⟨_, hf1, True.intro⟩
  · rintro i w v1 v2 v3 σ' H2 hw t1 t2 t3 ⟨u2, u3, u4, rfl, f2, hx⟩
    cases t1
    cases t2
    dsimp only
    have hwb := okP_get hok hw
    have hsh := shOk_of hok
    have hlen := wB_len hsh w.body 0 hwb.2.2.1
    have hln := lnW_len hok hw
    have hpw : pLW 17 [.tuple (encB w.body)] (wB w.body) := ⟨.bd w.body, shapes p, i, rfl, hsh, ⟨⟨0, hwb.2.2.1⟩, hwb.2.2.2⟩, by have := okB_dp _ _ hwb.2.2.1; simp only [rkPt]; omega, rfl⟩
    refine w_appW (K := K) rfl hx (ed_join (ws := strN w.params :: strN w.owns :: wB w.body) ed_cs (ew_is (ew_cat (ew_lst (ws := [strN w.params, strN w.owns]) (eda_cons (ed_strN (ed_var rfl (.int _)) (by omega)) (eda_cons (ed_strN (ed_var rfl (.int _)) (by omega)) eda_nil)) (by simp)) (ew_call (eda_cons (ed_var rfl t3) eda_nil) hpw) (by simp; omega)) (by simp)) (by have := hln.2.1; omega)) (by rw [List.length_map, List.length_take]; omega) fun H3 f3 h3 => ⟨_, _, _, rfl, f2.trans f3, ?_⟩
    rw [h3, take_snoc hw, List.map_append (f := lnW)]
    rfl
  · rintro σ' H2 ⟨u2, u3, u4, rfl, f2, hx⟩
    rw [List.take_length] at hx
    dsimp only
    refine w_ret (w_d (K := K) (ed_joinV ed_cs rfl hx ?_) fun v H3 e3 tv => ?_)
    · have e1 : ("\n" : Str).length = 1 := by decide +kernel
      rw [e1, List.length_map]
      have : ((p.map lnW).map (·.length)).sum ≤ 100000 * p.length := by
        have := sum_le (m := 100000) (ws := p.map lnW) fun z hz => ?_
        · rw [List.length_map] at this; exact this
        obtain ⟨w, hw, rfl⟩ := List.mem_map.mp hz
        obtain ⟨i, hi⟩ := List.mem_iff_getElem?.mp hw
        exact (lnW_len hok hi).1
      omega
    · cases tv
      exact k H3 ((ex_fr1 e1 hfl f2).trans e3)
theorem ok_stp {lw dt : Nat} (hlw : 1 ≤ lw) (GM : Fn_Line_must T P w base (L2.CX P w) lw (spMust K)) : ∀ d : Nat, Fn_Line_step T P w base (L2.CX P w) (lw + 2 + dt + 3 * d) (spRd K (fun ws => rdS ws dt d) encS)
  | 0 => fn_vac fun vs H Q E h => by
    obtain ⟨_, _, _, _, _, _, _, hne, _⟩ := h
    exact hne (by simp [rdS])
  | d + 1 => by
    have GH := ok_here (P := P) (w := w) (base := base) T
    have GW := ok_word T hlw GM
    have GN := ok_numb T hlw GM GW
    have GT := ok_thg T hlw GH GN dt
    have GS := ok_stp (dt := dt) hlw GM d
    have GB := ok_sth T (by omega) GH GS
    have GI := ok_inner T (lv := lw + 2 + dt + 3 * d + 1) (by omega) hlw (by omega) GM GW (by omega) GB
    exact ok_lstep T (lv := lw + 2 + dt + 3 * d + 2) hlw (by omega) (by omega) GH GW GN GT GI
end
end Hw

set_option maxRecDepth 100000
set_option maxHeartbeats 4000000
/-! LM1: texts cut at a sign, in plain Lean -/
namespace Hw
open PySem PySem.Spec PyProof.Rows L2 Evl
/-- cut at each s -/
def spL (s : Nat) : List Nat → List (List Nat)
  | [] => [[]]
  | c :: r => if c = s then [] :: spL s r else match spL s r with
    | [] => [[c]]
    | w :: ws => (c :: w) :: ws
theorem spL_ne (s : Nat) : ∀ l : List Nat, spL s l ≠ []
  | [] => by simp [spL]
  | c :: r => by
    simp only [spL]
    split
    · simp
    · split <;> simp
theorem spL_cons (s : Nat) (l : List Nat) : ∃ w ws, spL s l = w :: ws := by
  cases h : spL s l with
  | nil => exact absurd h (spL_ne s l)
  | cons w ws => exact ⟨w, ws, rfl⟩
theorem spL_hit {s : Nat} {r : List Nat} : spL s (s :: r) = [] :: spL s r := by simp [spL]
theorem spL_miss {s c : Nat} {r w : List Nat} {ws : List (List Nat)} (h : c ≠ s) (e : spL s r = w :: ws) : spL s (c :: r) = (c :: w) :: ws := by
  simp [spL, h, e]
theorem spl_spL (s : Nat) : ∀ (l acc w : List Nat) (ws : List (List Nat)), spL s l = w :: ws → TL.spl [s] 0 acc l = (acc ++ w) :: ws
  | [], acc, w, ws, h => by
    simp only [spL, List.cons.injEq] at h
    obtain ⟨rfl, rfl⟩ := h
    exact TL.spl_last1 (p := []) (by simp)
  | c :: r, acc, w, ws, h => by
    obtain ⟨w1, ws1, e⟩ := spL_cons s r
    by_cases hc : c = s
    · subst hc
      rw [spL_hit, e] at h
      cases h
      have := TL.spl_part1 (s := c) (S := []) (p := []) (rest := r) (acc := acc) (by simp)
      simp only [List.nil_append, List.singleton_append] at this
      rw [this, spl_spL c r [] _ _ e]
      simp
    · rw [spL_miss hc e] at h
      cases h
      rw [TL.spl_miss (TL.pre_of_head [] r hc), spl_spL s r (acc ++ [c]) _ _ e]
      simp
theorem split_tl {x y : Str} {s : Nat} (hy : TL.tl y = [s]) (hk : y.cps.all (· < 256) = true) : (Txt.split x y).map TL.tl = spL s (TL.tl x) := by
  rw [TL.split_spl x y (by rw [hy]; simp) (TL.kind_ok hk), hy]
  obtain ⟨w, ws, e⟩ := spL_cons s (TL.tl x)
  rw [spl_spL s _ [] w ws e, e]
  simp
theorem split_sp (x : Str) : (Txt.split x " ").map TL.tl = spL 32 (TL.tl x) := split_tl tl_sp.1 (by decide +kernel)
theorem split_nl (x : Str) : (Txt.split x "\n").map TL.tl = spL 10 (TL.tl x) := split_tl tl_sp.2 (by decide +kernel)
theorem split_sp_ne (x : Str) : Txt.split x " " ≠ [] := fun h => by
  have := split_sp x
  rw [h] at this
  exact spL_ne _ _ this.symm
theorem split_nl_ne (x : Str) : Txt.split x "\n" ≠ [] := fun h => by
  have := split_nl x
  rw [h] at this
  exact spL_ne _ _ this.symm
/-- the last of one and the first of the other, together -/
def glu : List (List Nat) → List (List Nat) → List (List Nat)
  | [], bs => bs
  | [a], bs => match bs with
    | [] => [a]
    | b :: bs => (a ++ b) :: bs
  | a :: as, bs => a :: glu as bs
theorem glu_cons {a : List Nat} {as bs : List (List Nat)} (h : as ≠ []) : glu (a :: as) bs = a :: glu as bs := by
  cases as with
  | nil => exact absurd rfl h
  | cons x r => rfl
theorem spL_app (s : Nat) : ∀ a b : List Nat, spL s (a ++ b) = glu (spL s a) (spL s b)
  | [], b => by
    obtain ⟨w, ws, e⟩ := spL_cons s b
    simp [spL, glu, e]
  | c :: r, b => by
    have ih := spL_app s r b
    obtain ⟨w, ws, e⟩ := spL_cons s r
    by_cases hc : c = s
    · subst hc
      rw [List.cons_append, spL_hit, spL_hit, glu_cons (spL_ne c r), ih]
    · rw [spL_miss hc e, List.cons_append]
      rw [e] at ih
      obtain ⟨v, vs, e2⟩ := spL_cons s b
      rw [e2] at ih ⊢
      cases ws with
      | nil =>
        simp only [glu] at ih ⊢
        rw [spL_miss hc ih]
        rfl
      | cons w2 ws2 =>
        rw [glu_cons (by simp)] at ih ⊢
        rw [spL_miss hc ih]
theorem glu_at : ∀ (as : List (List Nat)) (y : List Nat) (bs : List (List Nat)), as ≠ [] → ∃ as' x, as = as' ++ [x] ∧ glu as (y :: bs) = as' ++ (x ++ y) :: bs
  | [], y, bs, h => absurd rfl h
  | [a], y, bs, _ => ⟨[], a, rfl, rfl⟩
  | a :: b :: r, y, bs, _ => by
    obtain ⟨as', x, e1, e2⟩ := glu_at (b :: r) y bs (by simp)
    refine ⟨a :: as', x, by rw [e1]; rfl, ?_⟩
    rw [glu_cons (by simp), e2]
    rfl
theorem spL_free {s : Nat} : ∀ {l : List Nat}, s ∉ l → spL s l = [l]
  | [], _ => rfl
  | c :: r, h => by
    have hc : c ≠ s := fun e => h (by rw [e]; exact List.mem_cons_self)
    exact spL_miss hc (spL_free fun e => h (List.mem_cons_of_mem _ e))
theorem spL_mem {s : Nat} : ∀ {l w : List Nat}, w ∈ spL s l → s ∉ w ∧ ∀ c ∈ w, c ∈ l
  | [], w, h => by
    simp only [spL, List.mem_singleton] at h
    subst h
    simp
  | c :: r, w, h => by
    obtain ⟨w1, ws1, e⟩ := spL_cons s r
    by_cases hc : c = s
    · subst hc
      rw [spL_hit] at h
      rcases List.mem_cons.mp h with rfl | h
      · simp
      · obtain ⟨h1, h2⟩ := spL_mem h
        exact ⟨h1, fun c hc => List.mem_cons_of_mem _ (h2 c hc)⟩
    · rw [spL_miss hc e] at h
      rcases List.mem_cons.mp h with rfl | h
      · obtain ⟨h1, h2⟩ := spL_mem (s := s) (l := r) (w := w1) (by rw [e]; exact List.mem_cons_self)
        refine ⟨?_, ?_⟩
        · simp only [List.mem_cons, not_or]
          exact ⟨fun z => hc z.symm, h1⟩
        · intro x hx
          rcases List.mem_cons.mp hx with rfl | hx
          · exact List.mem_cons_self
          · exact List.mem_cons_of_mem _ (h2 x hx)
      · obtain ⟨h1, h2⟩ := spL_mem (s := s) (l := r) (w := w) (by rw [e]; exact List.mem_cons_of_mem _ h)
        exact ⟨h1, fun c hc => List.mem_cons_of_mem _ (h2 c hc)⟩
theorem spL_joinL {s : Nat} {ps : List (List Nat)} (hne : ps ≠ []) (h : ∀ p ∈ ps, s ∉ p) : spL s (TL.joinL [s] ps) = ps := by
  have := TL.spl_join (s := s) (S := []) hne h
  obtain ⟨w, ws, e⟩ := spL_cons s (TL.joinL [s] ps)
  rw [spl_spL s _ [] w ws e] at this
  rw [e, ← this]
  simp
/-- how long, a sign more for each -/
def wlen (ws : List (List Nat)) : Nat := (ws.map List.length).sum + ws.length
theorem wlen_app (u v : List (List Nat)) : wlen (u ++ v) = wlen u + wlen v := by
  simp only [wlen, List.map_append, List.sum_append, List.length_append]
  omega
theorem wlen_cons (w : List Nat) (v : List (List Nat)) : wlen (w :: v) = w.length + 1 + wlen v := by
  simp only [wlen, List.map_cons, List.sum_cons, List.length_cons]
  omega
theorem wlen_spL (s : Nat) : ∀ l : List Nat, wlen (spL s l) = l.length + 1
  | [] => rfl
  | c :: r => by
    have ih := wlen_spL s r
    obtain ⟨w, ws, e⟩ := spL_cons s r
    by_cases hc : c = s
    · subst hc
      rw [spL_hit, wlen_cons, ih]
      simp only [List.length_nil, List.length_cons]
      omega
    · rw [spL_miss hc e, wlen_cons]
      rw [e, wlen_cons] at ih
      simp only [List.length_cons]
      omega
theorem wlen_take (ws : List (List Nat)) (n : Nat) : wlen (ws.take n) ≤ wlen ws := by
  have := wlen_app (ws.take n) (ws.drop n)
  rw [List.take_append_drop] at this
  omega
theorem wlen_drop (ws : List (List Nat)) (n : Nat) : wlen (ws.drop n) ≤ wlen ws := by
  have := wlen_app (ws.take n) (ws.drop n)
  rw [List.take_append_drop] at this
  omega
theorem joinL_wlen (s : Nat) (ws : List (List Nat)) : (TL.joinL [s] ws).length ≤ wlen ws := by
  have := joinL_len [s] ws
  simp only [List.length_singleton, Nat.mul_one] at this
  exact this
theorem wlen_mem {ws : List (List Nat)} {w : List Nat} (h : w ∈ ws) : w.length + 1 ≤ wlen ws := by
  obtain ⟨u, v, rfl⟩ := List.append_of_mem h
  rw [wlen_app, wlen_cons]
  omega
end Hw

set_option maxRecDepth 100000
set_option maxHeartbeats 4000000
/-! LM2: measures of rows, in plain Lean -/
namespace Hw
open PySem PySem.Spec PyProof.Rows L2 Evl
/-! how many of f stand ahead of the next that is st -/
def cntO {α : Type} (st f : α → Bool) : List α → Nat
  | [] => 0
  | z :: r => if st z = true then 0 else (if f z = true then 1 else 0) + cntO st f r
def OB {α : Type} (st f : α → Bool) (k : Nat) (ws : List α) : Prop := ∀ n, cntO st f (ws.drop n) ≤ k
section
variable {α β : Type} {st f : α → Bool} {k a b : Nat} {u v ws : List α} {w : α}
theorem cntO_map {g : β → α} : ∀ ws : List β, cntO st f (ws.map g) = cntO (fun x => st (g x)) (fun x => f (g x)) ws
  | [] => rfl
  | z :: r => by simp only [List.map_cons, cntO, cntO_map r]
theorem OB_map {g : β → α} {ws : List β} (h : OB st f k (ws.map g)) : OB (fun x => st (g x)) (fun x => f (g x)) k ws := fun n => by
  have := h n
  rw [← List.map_drop, cntO_map] at this
  exact this
theorem cntO_app : ∀ u v : List α, cntO st f (u ++ v) ≤ cntO st f u + cntO st f v
  | [], v => by simp [cntO]
  | z :: r, v => by
    have ih := cntO_app r v
    simp only [List.cons_append, cntO]
    split
    · omega
    · omega
theorem cntO_pre : ∀ u v : List α, cntO st f u ≤ cntO st f (u ++ v)
  | [], v => by simp [cntO]
  | z :: r, v => by
    have ih := cntO_pre r v
    simp only [List.cons_append, cntO]
    split
    · omega
    · omega
theorem OB.mono (h : OB st f a ws) (le : a ≤ b) : OB st f b ws := fun n => Nat.le_trans (h n) le
theorem OB.app (h1 : OB st f a u) (h2 : OB st f b v) : OB st f (a + b) (u ++ v) := fun n => by
  rw [List.drop_append]
  have := cntO_app (st := st) (f := f) (u.drop n) (v.drop (n - u.length))
  have := h1 n
  have := h2 (n - u.length)
  omega
theorem OB.left (h : OB st f k (u ++ v)) : OB st f k u := fun n => by
  have h1 := h n
  rw [List.drop_append] at h1
  exact Nat.le_trans (cntO_pre _ _) h1
theorem OB.right (h : OB st f k (u ++ v)) : OB st f k v := fun n => by
  have h1 := h (u.length + n)
  rw [List.drop_append, List.drop_of_length_le (by omega), List.nil_append] at h1
  have : u.length + n - u.length = n := by omega
  rw [this] at h1
  exact h1
theorem OB.take (h : OB st f k ws) (n : Nat) : OB st f k (ws.take n) := by
  rw [← List.take_append_drop n ws] at h
  exact h.left
theorem OB.drop (h : OB st f k ws) (n : Nat) : OB st f k (ws.drop n) := by
  rw [← List.take_append_drop n ws] at h
  exact h.right
theorem OB.nil : OB st f 0 [] := fun n => by simp [cntO]
theorem OB.one : OB st f 1 [w] := fun n => by
  cases n with
  | zero =>
    simp only [List.drop_zero, cntO]
    split
    · omega
    · split <;> omega
  | succ n => simp [cntO]
theorem cntO_ins : ∀ u : List α, cntO st f (u ++ w :: v) ≤ cntO st f (u ++ v) + (if st w = true then 0 else 1)
  | [] => by
    simp only [List.nil_append, cntO]
    split
    · omega
    · split <;> omega
  | z :: r => by
    have ih := cntO_ins r
    simp only [List.cons_append, cntO]
    split
    · omega
    · omega
theorem OB.ins (h : OB st f k (u ++ v)) : OB st f (k + (if st w = true then 0 else 1)) (u ++ w :: v) := fun n => by
  by_cases hn : n ≤ u.length
  · rw [List.drop_append_of_le_length hn]
    have h1 := h n
    rw [List.drop_append_of_le_length hn] at h1
    exact Nat.le_trans (cntO_ins _) (Nat.add_le_add_right h1 _)
  · have h1 := h (n - 1)
    have e1 : (u ++ w :: v).drop n = v.drop (n - 1 - u.length) := by
      rw [List.drop_append, List.drop_of_length_le (by omega), List.nil_append]
      have : n - u.length = (n - 1 - u.length) + 1 := by omega
      rw [this, List.drop_succ_cons]
    have e2 : (u ++ v).drop (n - 1) = v.drop (n - 1 - u.length) := by
      rw [List.drop_append, List.drop_of_length_le (by omega), List.nil_append]
    rw [e1, ← e2]
    omega
theorem cntO_rem (hw : st w = false) : ∀ u : List α, cntO st f (u ++ v) ≤ cntO st f (u ++ w :: v)
  | [] => by
    simp only [List.nil_append, cntO, hw]
    simp
  | z :: r => by
    have ih := cntO_rem hw r
    simp only [List.cons_append, cntO]
    split
    · omega
    · omega
theorem OB.rem (hw : st w = false) (h : OB st f k (u ++ w :: v)) : OB st f k (u ++ v) := fun n => by
  by_cases hn : n ≤ u.length
  · have h1 := h n
    rw [List.drop_append_of_le_length hn] at h1 ⊢
    exact Nat.le_trans (cntO_rem hw _) h1
  · have h1 := h (n + 1)
    have e1 : (u ++ w :: v).drop (n + 1) = v.drop (n - u.length) := by
      rw [List.drop_append, List.drop_of_length_le (by omega), List.nil_append]
      have : n + 1 - u.length = (n - u.length) + 1 := by omega
      rw [this, List.drop_succ_cons]
    rw [e1] at h1
    rw [List.drop_append, List.drop_of_length_le (by omega), List.nil_append]
    exact h1
theorem OB.rem2 (h : OB st f k (u ++ w :: v)) : OB st f (k + k) (u ++ v) := OB.app h.left (OB.right (u := [w]) h.right)
/-- a word that is taken out, and put in elsewhere -/
theorem OB.move {x y : List α} (h : OB st f k (u ++ w :: v)) (e : u ++ v = x ++ y) : OB st f (2 * k + 1) (x ++ w :: y) := by
  cases hw : st w with
  | true =>
    have h1 := h.rem2
    rw [e] at h1
    have h2 := h1.ins (w := w)
    rw [hw, if_pos rfl] at h2
    exact h2.mono (by omega)
  | false =>
    have h1 := h.rem hw
    rw [e] at h1
    have h2 := h1.ins (w := w)
    exact h2.mono (by split <;> omega)
end
/-! the most by which openings are more than closings -/
def bal {α : Type} (g : α → Int) (ws : List α) : Int := (ws.map g).sum
def EB {α : Type} (g : α → Int) (k : Nat) (ws : List α) : Prop := ∀ i j, i ≤ j → bal g (ws.take j) - bal g (ws.take i) ≤ (k : Int)
section
variable {α β : Type} {g : α → Int} {k a b : Nat} {u v ws : List α} {w : α}
theorem bal_app (u v : List α) : bal g (u ++ v) = bal g u + bal g v := by simp [bal]
theorem bal_cons (w : α) (v : List α) : bal g (w :: v) = g w + bal g v := by simp [bal]
theorem bal_map {h : β → α} (ws : List β) : bal g (ws.map h) = bal (fun x => g (h x)) ws := by simp [bal, Function.comp_def]
theorem EB_map {h : β → α} {ws : List β} (e : EB g k (ws.map h)) : EB (fun x => g (h x)) k ws := fun i j hij => by
  have := e i j hij
  rw [← List.map_take, ← List.map_take, bal_map, bal_map] at this
  exact this
theorem EB.mono (h : EB g a ws) (le : a ≤ b) : EB g b ws := fun i j hij => by have := h i j hij; omega
theorem bal_take_app (n : Nat) : bal g ((u ++ v).take n) = bal g (u.take n) + bal g (v.take (n - u.length)) := by
  rw [List.take_append, bal_app]
theorem take_big {n : Nat} (h : u.length ≤ n) : u.take n = u := List.take_of_length_le h
theorem EB.app (h1 : EB g a u) (h2 : EB g b v) : EB g (a + b) (u ++ v) := fun i j hij => by
  rw [bal_take_app, bal_take_app]
  by_cases hj : j ≤ u.length
  · have e1 : j - u.length = 0 := by omega
    have e2 : i - u.length = 0 := by omega
    rw [e1, e2]
    have := h1 i j hij
    simp only [List.take_zero]
    omega
  · by_cases hi : i ≤ u.length
    · have e2 : i - u.length = 0 := by omega
      have q1 := h1 i j hij
      have q2 := h2 0 (j - u.length) (Nat.zero_le _)
      rw [e2]
      omega
    · have q2 := h2 (i - u.length) (j - u.length) (by omega)
      rw [take_big (by omega : u.length ≤ j), take_big (by omega : u.length ≤ i)]
      omega
theorem EB.left (h : EB g k (u ++ v)) : EB g k u := fun i j hij => by
  have := h (min i u.length) (min j u.length) (by omega)
  rw [bal_take_app, bal_take_app] at this
  have e1 : min j u.length - u.length = 0 := by omega
  have e2 : min i u.length - u.length = 0 := by omega
  have e3 : ∀ n, u.take (min n u.length) = u.take n := fun n => by
    rcases Nat.le_total n u.length with h | h
    · rw [Nat.min_eq_left h]
    · rw [Nat.min_eq_right h, take_big (Nat.le_refl _), take_big h]
  rw [e1, e2, e3, e3] at this
  simp only [List.take_zero] at this
  omega
theorem EB.right (h : EB g k (u ++ v)) : EB g k v := fun i j hij => by
  have := h (u.length + i) (u.length + j) (by omega)
  rw [bal_take_app, bal_take_app, take_big (by omega : u.length ≤ u.length + i), take_big (by omega : u.length ≤ u.length + j)] at this
  have e1 : u.length + j - u.length = j := by omega
  have e2 : u.length + i - u.length = i := by omega
  rw [e1, e2] at this
  omega
theorem EB.take (h : EB g k ws) (n : Nat) : EB g k (ws.take n) := by
  rw [← List.take_append_drop n ws] at h
  exact h.left
theorem EB.drop (h : EB g k ws) (n : Nat) : EB g k (ws.drop n) := by
  rw [← List.take_append_drop n ws] at h
  exact h.right
theorem EB.nil : EB g 0 [] := fun i j _ => by simp [bal]
theorem EB.one (h1 : g w ≤ 1) (h2 : -1 ≤ g w) : EB g 1 [w] := fun i j hij => by
  have e : ∀ n, bal g ([w].take n) = 0 ∧ n = 0 ∨ bal g ([w].take n) = g w ∧ 0 < n := fun n => by
    cases n with
    | zero => exact .inl ⟨rfl, rfl⟩
    | succ n => exact .inr ⟨by simp [bal], by omega⟩
  rcases e i with ⟨a, b⟩ | ⟨a, b⟩ <;> rcases e j with ⟨c, d⟩ | ⟨c, d⟩ <;> omega
theorem EB.ins (h : EB g k (u ++ v)) (h1 : g w ≤ 1) (h2 : -1 ≤ g w) : EB g (k + 1) (u ++ w :: v) := fun i j hij => by
  have e : ∀ n, u.length < n → bal g ((u ++ w :: v).take n) = bal g ((u ++ v).take (n - 1)) + g w := fun n hn => by
    rw [bal_take_app, bal_take_app, take_big (by omega : u.length ≤ n), take_big (by omega : u.length ≤ n - 1)]
    have : n - u.length = (n - 1 - u.length) + 1 := by omega
    rw [this, List.take_succ_cons, bal_cons]
    omega
  have e2 : ∀ n, n ≤ u.length → bal g ((u ++ w :: v).take n) = bal g ((u ++ v).take n) := fun n hn => by
    rw [bal_take_app, bal_take_app]
    have : n - u.length = 0 := by omega
    rw [this]
    simp
  by_cases hj : j ≤ u.length
  · rw [e2 j hj, e2 i (by omega)]
    have := h i j hij
    omega
  · by_cases hi : i ≤ u.length
    · rw [e j (by omega), e2 i hi]
      have := h i (j - 1) (by omega)
      omega
    · rw [e j (by omega), e i (by omega)]
      have := h (i - 1) (j - 1) (by omega)
      omega
theorem EB.rem2 (h : EB g k (u ++ w :: v)) : EB g (k + k) (u ++ v) := EB.app h.left (EB.right (u := [w]) h.right)
theorem EB.move {x y : List α} (h : EB g k (u ++ w :: v)) (e : u ++ v = x ++ y) (h1 : g w ≤ 1) (h2 : -1 ≤ g w) : EB g (2 * k + 1) (x ++ w :: y) := by
  have h3 := h.rem2
  rw [e] at h3
  exact (h3.ins h1 h2).mono (by omega)
end
/-! words as signs -/
def mkL (l : List Nat) : Str := ⟨l.toArray⟩
theorem mkL_tl (z : Str) : mkL (TL.tl z) = z := TL.mk_tl z
def isOpW (z : Str) : Bool := decide (z = "+") || decide (z = "cell")
def valW (z : Str) : Int := if z = "(" then 1 else if z = ")" then -1 else 0
def stL (l : List Nat) : Bool := isStepW (mkL l)
def opL (l : List Nat) : Bool := isOpW (mkL l)
def valL (l : List Nat) : Int := valW (mkL l)
theorem valW_le (z : Str) : valW z ≤ 1 ∧ -1 ≤ valW z := by
  unfold valW
  split
  · omega
  · split <;> omega
theorem OB_words {k : Nat} {ws : List Str} (h : OB stL opL k (ws.map TL.tl)) : OB isStepW isOpW k ws := by
  have := OB_map h
  simp only [stL, opL, mkL_tl] at this
  exact this
theorem EB_words {k : Nat} {ws : List Str} (h : EB valL k (ws.map TL.tl)) : EB valW k ws := by
  have := EB_map h
  simp only [valL, mkL_tl] at this
  exact this
/-- what is known of a row -/
structure RowB (A E L : Nat) (r : List Nat) : Prop where
  o : OB stL opL A (spL 32 r)
  e : EB valL E (spL 32 r)
  l : r.length ≤ L
  c : ∀ c ∈ r, c < 200 ∧ c ≠ 10
structure TxB (A E L R : Nat) (l : List Nat) : Prop where
  n : (spL 10 l).length ≤ R
  r : ∀ r ∈ spL 10 l, RowB A E L r
theorem RowB.mono {A E L A' E' L' : Nat} {r : List Nat} (h : RowB A E L r) (h1 : A ≤ A') (h2 : E ≤ E') (h3 : L ≤ L') : RowB A' E' L' r := ⟨h.o.mono h1, h.e.mono h2, Nat.le_trans h.l h3, h.c⟩
/-- a row of words -/
structure WdB (A E W : Nat) (ws : List (List Nat)) : Prop where
  o : OB stL opL A ws
  e : EB valL E ws
  l : wlen ws ≤ W
  c : ∀ w ∈ ws, ∀ c ∈ w, c < 200 ∧ c ≠ 10 ∧ c ≠ 32
theorem RowB.wd {A E L : Nat} {r : List Nat} (h : RowB A E L r) : WdB A E (L + 1) (spL 32 r) := ⟨h.o, h.e, by rw [wlen_spL]; have := h.l; omega, fun w hw c hc => by
  obtain ⟨h1, h2⟩ := spL_mem hw
  have := h.c c (h2 c hc)
  exact ⟨this.1, this.2, fun e => h1 (by rw [← e]; exact hc)⟩⟩
theorem joinL_mem2 {S : List Nat} {c : Nat} {ps : List (List Nat)} (h : c ∈ TL.joinL S ps) : c ∈ S ∨ ∃ p ∈ ps, c ∈ p := joinL_mem h
theorem stL_nil : stL [] = false ∧ opL [] = false ∧ valL [] = 0 := by decide +kernel
theorem RowB.nil {A E L : Nat} : RowB A E L [] := by
  refine ⟨fun n => ?_, fun i j _ => ?_, Nat.zero_le _, fun c hc => by simp at hc⟩
  · cases n with
    | zero => simp [spL, cntO, stL_nil.1, stL_nil.2.1]
    | succ n => simp [spL, cntO]
  · have e : ∀ n, bal valL ((spL 32 []).take n) = 0 := fun n => by
      cases n <;> simp [spL, bal, stL_nil.2.2]
    rw [e, e]
    omega
theorem WdB.row {A E W : Nat} {ws : List (List Nat)} (h : WdB A E W ws) : RowB A E W (TL.joinL [32] ws) := by
  by_cases hne : ws = []
  · subst hne
    exact RowB.nil
  · have e : spL 32 (TL.joinL [32] ws) = ws := spL_joinL hne fun p hp hc => (h.c p hp 32 hc).2.2 rfl
    refine ⟨by rw [e]; exact h.o, by rw [e]; exact h.e, Nat.le_trans (joinL_wlen 32 ws) h.l, fun c hc => ?_⟩
    rcases joinL_mem2 hc with hc | ⟨p, hp, hc⟩
    · have : c = 32 := by simpa using hc
      omega
    · have := h.c p hp c hc
      exact ⟨this.1, this.2.1⟩
theorem TxB.rows {A E L R : Nat} {rows : List (List Nat)} (hn : rows.length ≤ R) (h1 : 1 ≤ R) (h : ∀ r ∈ rows, RowB A E L r) : TxB A E L R (TL.joinL [10] rows) := by
  by_cases hne : rows = []
  · subst hne
    refine ⟨h1, fun r hr => ?_⟩
    have : r = [] := by simpa [spL, TL.joinL] using hr
    rw [this]
    exact RowB.nil
  · have e : spL 10 (TL.joinL [10] rows) = rows := spL_joinL hne fun p hp hc => ((h p hp).c 10 hc).2 rfl
    exact ⟨by rw [e]; exact hn, by rw [e]; exact h⟩
end Hw

set_option maxRecDepth 100000
set_option maxHeartbeats 4000000
/-! LM3: how deep a reader goes, in plain Lean -/
namespace Hw
open PySem PySem.Spec PyProof.Rows L2 Evl
abbrev cntW (ws : List Str) (n : Nat) : Nat := cntO isStepW isOpW (ws.drop n)
abbrev preW (ws : List Str) (n : Nat) : Int := bal valW (ws.take n)
section
variable {ws : List Str} {n m d dt : Nat} {z : Str}
theorem drop_here (h : n < ws.length) : ws.drop n = hereW ws n :: ws.drop (n + 1) := by
  unfold hereW
  rw [List.getElem?_eq_getElem h, List.drop_eq_getElem_cons h]
  rfl
theorem here_lt (h : hereW ws n ≠ "") : n < ws.length := by
  by_cases hl : n < ws.length
  · exact hl
  · exact absurd (by unfold hereW; rw [List.getElem?_eq_none (by omega)]; rfl) h
theorem pre_succ (h : n < ws.length) : preW ws (n + 1) = preW ws n + valW (hereW ws n) := by
  have e : ws[n]? = some (hereW ws n) := by
    unfold hereW
    rw [List.getElem?_eq_getElem h]
    rfl
  show bal valW (ws.take (n + 1)) = _
  rw [take_snoc e, bal_app, bal_cons]
  simp [bal]
theorem cnt_step (h : n < ws.length) (hs : isStepW (hereW ws n) = false) : cntW ws n = (if isOpW (hereW ws n) = true then 1 else 0) + cntW ws (n + 1) := by
  show cntO _ _ (ws.drop n) = _
  rw [drop_here h]
  simp only [cntO, hs]
  simp
/-- such a word goes by -/
def dull (z : Str) : Bool := !isStepW z && decide (valW z = 0)
theorem dull_go (h : n < ws.length) (hd : dull (hereW ws n) = true) : preW ws (n + 1) = preW ws n ∧ cntW ws (n + 1) ≤ cntW ws n := by
  simp only [dull, Bool.and_eq_true, Bool.not_eq_true', decide_eq_true_eq] at hd
  refine ⟨by rw [pre_succ h, hd.2]; omega, ?_⟩
  rw [cnt_step h hd.1]
  omega
theorem dull_num : ∀ k < 100, dull (strN k) = true ∧ strN k ≠ "" := by decide +kernel
theorem dull_ops : dull "+" = true ∧ dull "cell" = true ∧ dull "own" = true ∧ dull "par" = true ∧ dull "." = true := by decide +kernel
theorem numW_ok {k : Nat} (h : rdNum ws n = some (some (k, m))) : m = n + 1 ∧ n < ws.length ∧ preW ws m = preW ws n ∧ cntW ws m ≤ cntW ws n := by
  obtain ⟨h1, rfl, h2, h3⟩ := rdNum_inv h
  have e : hereW ws n = strN k := by unfold hereW; rw [h1]; rfl
  have := dull_go h2 (by rw [e]; exact (dull_num k h3).1)
  exact ⟨rfl, h2, this.1, this.2⟩
theorem rdT_ok : ∀ {d n m : Nat} {t : Th}, rdT ws d n = some (some (t, m)) → preW ws m = preW ws n ∧ cntW ws m ≤ cntW ws n
  | 0, _, _, _, h => by cases h
  | d + 1, n, m, t, h => by
    obtain ⟨d1, d2, d3, d4, _⟩ := dull_ops
    have go : ∀ z : Str, hereW ws n = z → dull z = true → z ≠ "" → preW ws (n + 1) = preW ws n ∧ cntW ws (n + 1) ≤ cntW ws n := fun z e hz hne => dull_go (here_lt (by rw [e]; exact hne)) (by rw [e]; exact hz)
    simp only [rdT] at h
    split at h
    · rename_i e
      obtain ⟨a, l, h1, h2⟩ := bindR_inv h
      obtain ⟨b, l2, h3, h4⟩ := bindR_inv h2
      cases h4
      have g := go _ e d1 (by decide +kernel)
      have q1 := rdT_ok h1
      have q2 := rdT_ok h3
      omega
    split at h
    · rename_i _ e
      obtain ⟨a, l, h1, h2⟩ := bindR_inv h
      cases h2
      have g := go _ e d2 (by decide +kernel)
      have q1 := rdT_ok h1
      omega
    split at h
    · rename_i _ _ e
      obtain ⟨a, l, h1, h2⟩ := bindR_inv h
      cases h2
      have g := go _ e d3 (by decide +kernel)
      have q1 := numW_ok h1
      omega
    split at h
    · rename_i _ _ _ e
      obtain ⟨a, l, h1, h2⟩ := bindR_inv h
      cases h2
      have g := go _ e d4 (by decide +kernel)
      have q1 := numW_ok h1
      omega
    · obtain ⟨a, l, h1, h2⟩ := bindR_inv h
      cases h2
      have q1 := numW_ok h1
      omega
theorem bindR_nn {α β : Type} {r : Rd α} {g : α → Nat → Rd β} (h : r ≠ none) (h2 : ∀ x n, r = some (some (x, n)) → g x n ≠ none) : bindR r g ≠ none := by
  rcases r with _ | _ | ⟨x, n⟩
  · exact absurd rfl h
  · simp [bindR]
  · exact h2 x n rfl
theorem rdT_ne : ∀ {d n : Nat}, cntW ws n < d → rdT ws d n ≠ none
  | 0, _, h => by omega
  | d + 1, n, h => by
    have go : ∀ z : Str, hereW ws n = z → isOpW z = true → isStepW z = false → z ≠ "" → cntW ws (n + 1) < d := fun z e hz hs hne => by
      have := cnt_step (here_lt (by rw [e]; exact hne)) (by rw [e]; exact hs)
      rw [e, hz, if_pos rfl] at this
      omega
    simp only [rdT]
    split
    · rename_i e
      have g := go _ e (by decide +kernel) (by decide +kernel) (by decide +kernel)
      refine bindR_nn (rdT_ne g) fun a l h1 => bindR_nn (rdT_ne ?_) fun b l2 h2 => by simp
      have := rdT_ok h1
      omega
    split
    · rename_i _ e
      have g := go _ e (by decide +kernel) (by decide +kernel) (by decide +kernel)
      exact bindR_nn (rdT_ne g) fun a l h1 => by simp
    split
    · exact bindR_nn rdNum_ne fun a l h1 => by simp
    split
    · exact bindR_nn rdNum_ne fun a l h1 => by simp
    · exact bindR_nn rdNum_ne fun a l h1 => by simp
end
section
variable {α : Type} {S : Nat → Rd α} {go : Nat → Bool} {C : Nat → Prop} {G : α → Prop} {L : Nat}
theorem itR_all (hS : ∀ n, C n → go n = true → S n ≠ none) (hC : ∀ n x m, C n → go n = true → S n = some (some (x, m)) → n < m ∧ m ≤ L ∧ C m ∧ G x) : ∀ (k n : Nat), C n → L - n < k →
    itR S go k n ≠ none ∧ ∀ xs m, itR S go k n = some (some (xs, m)) → n + xs.length ≤ m ∧ (m = n ∨ m ≤ L) ∧ C m ∧ ∀ x ∈ xs, G x
  | 0, n, _, h => by omega
  | k + 1, n, c, h => by
    simp only [itR]
    by_cases hg : go n = true
    · rw [if_pos hg]
      have hs := hS n c hg
      rcases hr : S n with _ | _ | ⟨x, m⟩
      · exact absurd hr hs
      · rw [bindR_bad]
        exact ⟨by simp, fun xs m h => by cases h⟩
      · rw [bindR_ok]
        obtain ⟨h1, h2, h3, h4⟩ := hC n x m c hg hr
        obtain ⟨i1, i2⟩ := itR_all hS hC k m h3 (by omega)
        refine ⟨bindR_nn i1 fun r l _ => by simp, fun xs l h => ?_⟩
        obtain ⟨r, e, h5, h6⟩ := bindR_inv h
        cases h6
        obtain ⟨j1, j2, j3, j4⟩ := i2 r l h5
        refine ⟨by simp only [List.length_cons]; omega, .inr (by rcases j2 with j | j <;> omega), j3, fun y hy => ?_⟩
        rcases List.mem_cons.mp hy with rfl | hy
        · exact h4
        · exact j4 y hy
    · rw [if_neg hg]
      refine ⟨by simp, fun xs m h => ?_⟩
      cases h
      exact ⟨by simp, .inl rfl, c, fun x hx => by simp at hx⟩
theorem seqR_all (hS : ∀ n, C n → S n ≠ none) (hC : ∀ n x m, C n → S n = some (some (x, m)) → n < m ∧ m ≤ L ∧ C m ∧ G x) : ∀ (c n : Nat), C n →
    seqR S c n ≠ none ∧ ∀ xs m, seqR S c n = some (some (xs, m)) → (m = n ∨ (n < m ∧ m ≤ L)) ∧ C m ∧ ∀ x ∈ xs, G x
  | 0, n, hc => ⟨by simp [seqR], fun xs m h => by
    simp only [seqR] at h
    cases h
    exact ⟨.inl rfl, hc, fun x hx => by simp at hx⟩⟩
  | c + 1, n, hc => by
    simp only [seqR]
    rcases hr : S n with _ | _ | ⟨x, m⟩
    · exact absurd hr (hS n hc)
    · rw [bindR_bad]
      exact ⟨by simp, fun xs m h => by cases h⟩
    · rw [bindR_ok]
      obtain ⟨h1, h2, h3, h4⟩ := hC n x m hc hr
      obtain ⟨i1, i2⟩ := seqR_all hS hC c m h3
      refine ⟨bindR_nn i1 fun r l _ => by simp, fun xs l h => ?_⟩
      obtain ⟨r, e, h5, h6⟩ := bindR_inv h
      cases h6
      obtain ⟨j2, j3, j4⟩ := i2 r l h5
      refine ⟨.inr (by rcases j2 with j | j <;> omega), j3, fun y hy => ?_⟩
      rcases List.mem_cons.mp hy with rfl | hy
      · exact h4
      · exact j4 y hy
end
theorem smB_of : ∀ {b : List Stm}, (∀ s ∈ b, smS s = true) → smB b = true
  | [], _ => rfl
  | s :: r, h => by
    simp only [smB, Bool.and_eq_true]
    exact ⟨h s List.mem_cons_self, smB_of fun x hx => h x (List.mem_cons_of_mem _ hx)⟩
section
variable {ws : List Str} {dt : Nat}
/-- all of a row's reading -/
theorem rdS_all (hdt : ∀ n, cntW ws n < dt) (hlen : ws.length ≤ 20000) : ∀ (d n : Nat), (∀ j, n ≤ j → preW ws j - preW ws n < (d : Int)) → isStepW (hereW ws n) = true →
    rdS ws dt d n ≠ none ∧ ∀ s m, rdS ws dt d n = some (some (s, m)) → n < m ∧ m ≤ ws.length ∧ preW ws m = preW ws n ∧ smS s = true
  | 0, n, h, _ => by
    have := h n (Nat.le_refl _)
    omega
  | d + 1, n, h, hs => by
    have hne : hereW ws n ≠ "" := by
      rcases isStepW_iff.mp hs with e | e | e | e <;> rw [e] <;> decide +kernel
    have hlt := here_lt hne
    have hat := hereW_at rfl hne
    have hp1 : preW ws (n + 1) = preW ws n := by
      rw [pre_succ hlt]
      have : valW (hereW ws n) = 0 := by
        rcases isStepW_iff.mp hs with e | e | e | e <;> rw [e] <;> decide +kernel
      omega
    have tS : ∀ i, rdT ws dt i ≠ none := fun i => rdT_ne (hdt i)
    by_cases hc : hereW ws n = "call"
    · have ew : rdWord ws n = some (some (("call" : Str), n + 1)) := by unfold rdWord; rw [hat, hc]
      rw [rdS_succ, bindR_of ew, if_pos rfl]
      have ts := fun k i (hk : ws.length - i < k) (c : n < i ∧ preW ws i = preW ws n) => itR_all (S := rdT ws dt) (go := fun i => !decide (hereW ws i = ".")) (C := fun i => n < i ∧ preW ws i = preW ws n) (G := fun _ => True) (L := ws.length) (fun i _ _ => tS i)
        (fun i x m c _ hx => ⟨(rdT_lt hx).1, (rdT_lt hx).2, ⟨by have := (rdT_lt hx).1; omega, by rw [(rdT_ok hx).1, c.2]⟩, True.intro⟩) k i c hk
      refine ⟨bindR_nn rdNum_ne fun k l hk => bindR_nn ?_ fun us e _ => by simp, fun s m hx => ?_⟩
      · obtain ⟨rfl, h2, h3, _⟩ := numW_ok hk
        exact (ts (ws.length + 1) (n + 1 + 1) (by omega) ⟨by omega, by rw [h3, hp1]⟩).1
      · obtain ⟨k, l, h1, h2⟩ := bindR_inv hx
        obtain ⟨us, e, h3, h4⟩ := bindR_inv h2
        cases h4
        obtain ⟨rfl, g2, g3, _⟩ := numW_ok h1
        obtain ⟨q1, q2, q3, _⟩ := (ts (ws.length + 1) (n + 1 + 1) (by omega) ⟨by omega, by rw [g3, hp1]⟩).2 us e h3
        -- the point
        have hpt : hereW ws e = "." := by
          have : ∀ (k i : Nat) us e, itR (rdT ws dt) (fun i => !decide (hereW ws i = ".")) k i = some (some (us, e)) → hereW ws e = "." := by
            intro k
            induction k with
            | zero => intro i us e h; cases h
            | succ k ih =>
              intro i us e h
              simp only [itR] at h
              split at h
              · obtain ⟨x, l, a1, a2⟩ := bindR_inv h
                obtain ⟨r, e2, a3, a4⟩ := bindR_inv a2
                cases a4
                exact ih l r e a3
              · rename_i hg
                cases h
                simpa using hg
          exact this _ _ _ _ h3
        have hel := here_lt (n := e) (by rw [hpt]; decide +kernel)
        have := dull_go hel (by rw [hpt]; exact dull_ops.2.2.2.2)
        refine ⟨by have := q3.1; omega, by omega, by rw [this.1, q3.2], ?_⟩
        simp only [smS, decide_eq_true_eq]
        rcases q2 with q2 | q2 <;> omega
    · obtain ⟨c1, c2, hz⟩ : ∃ c1 c2 : Nat, (hereW ws n = "set" ∧ c1 = 2 ∧ c2 = 0) ∨ (hereW ws n = "say" ∧ c1 = 1 ∧ c2 = 0) ∨ (hereW ws n = "if" ∧ c1 = 1 ∧ c2 = 2) := by
        rcases isStepW_iff.mp hs with e | e | e | e
        · exact ⟨2, 0, .inl ⟨e, rfl, rfl⟩⟩
        · exact ⟨1, 0, .inr (.inl ⟨e, rfl, rfl⟩)⟩
        · exact ⟨1, 2, .inr (.inr ⟨e, rfl, rfl⟩)⟩
        · exact absurd e hc
      rw [rdS_parts hat c1 c2 hz]
      have t1 := seqR_all (S := rdT ws dt) (C := fun i => n < i ∧ preW ws i = preW ws n) (G := fun _ => True) (L := ws.length) (fun i _ => tS i)
        (fun i x m c hx => ⟨(rdT_lt hx).1, (rdT_lt hx).2, ⟨by have := (rdT_lt hx).1; omega, by rw [(rdT_ok hx).1, c.2]⟩, True.intro⟩) c1 (n + 1) ⟨by omega, hp1⟩
      -- bodies
      have hB : ∀ i, n < i → preW ws i = preW ws n + 1 → rdB ws dt d i ≠ none ∧ ∀ b m, rdB ws dt d i = some (some (b, m)) → i + b.length ≤ m ∧ (m = i ∨ m ≤ ws.length) ∧ preW ws m = preW ws n + 1 ∧ smB b = true := fun i hi hpi => by
        have ih := fun j (hj : i ≤ j ∧ preW ws j = preW ws n + 1) (hg : isStepW (hereW ws j) = true) => rdS_all hdt hlen d j (fun q hq => by have := h q (by omega); have := hj.2; omega) hg
        have it := itR_all (S := rdS ws dt d) (go := fun j => isStepW (hereW ws j)) (C := fun j => i ≤ j ∧ preW ws j = preW ws n + 1) (G := fun s => smS s = true) (L := ws.length) (fun j c hg => (ih j c hg).1)
          (fun j x m c hg hx => by
            obtain ⟨a1, a2, a3, a4⟩ := (ih j c hg).2 x m hx
            exact ⟨a1, a2, ⟨by omega, by rw [a3, c.2]⟩, a4⟩) (ws.length + 1) i ⟨Nat.le_refl _, hpi⟩ (by omega)
        refine ⟨it.1, fun b m hx => ?_⟩
        obtain ⟨b1, b2, b3, b4⟩ := it.2 b m hx
        exact ⟨b1, b2, b3.2, smB_of b4⟩
      have hI : ∀ i, (n < i ∧ preW ws i = preW ws n) → rdIn ws (rdB ws dt d) i ≠ none ∧ ∀ b m, rdIn ws (rdB ws dt d) i = some (some (b, m)) → i < m ∧ m ≤ ws.length ∧ (n < m ∧ preW ws m = preW ws n) ∧ (b.length ≤ 20000 ∧ smB b = true) := fun i ci => by
        unfold rdIn
        refine ⟨bindR_nn rdWord_ne fun y l hy => ?_, fun b m hx => ?_⟩
        · obtain ⟨g1, rfl, g3⟩ := rdWord_lt hy
          split
          · rename_i e
            have hh : hereW ws i = "(" := by unfold hereW; rw [g1, e]; rfl
            have hpi : preW ws (i + 1) = preW ws n + 1 := by
              rw [pre_succ g3, hh, ci.2]
              rfl
            refine bindR_nn (hB (i + 1) (by omega) hpi).1 fun b l hb => bindR_nn rdWord_ne fun y2 e2 _ => ?_
            split <;> simp
          · simp
        · obtain ⟨y, l, a1, a2⟩ := bindR_inv hx
          obtain ⟨g1, rfl, g3⟩ := rdWord_lt a1
          split at a2
          · rename_i e
            have hh : hereW ws i = "(" := by unfold hereW; rw [g1, e]; rfl
            have hpi : preW ws (i + 1) = preW ws n + 1 := by
              rw [pre_succ g3, hh, ci.2]
              rfl
            obtain ⟨b2, l2, a3, a4⟩ := bindR_inv a2
            obtain ⟨y2, l3, a5, a6⟩ := bindR_inv a4
            split at a6
            · rename_i e2
              cases a6
              obtain ⟨k1, rfl, k3⟩ := rdWord_lt a5
              obtain ⟨m1, m2, m3, m4⟩ := (hB (i + 1) (by omega) hpi).2 b l2 a3
              have hh2 : hereW ws l2 = ")" := by unfold hereW; rw [k1, e2]; rfl
              have hv : valW ")" = -1 := by decide +kernel
              refine ⟨by omega, by omega, ⟨by omega, ?_⟩, by omega, m4⟩
              rw [pre_succ k3, hh2, hv, m3]
              omega
            · cases a6
          · cases a2
      have t2 := fun l (cl : n < l ∧ preW ws l = preW ws n) => seqR_all (S := rdIn ws (rdB ws dt d)) (C := fun i => n < i ∧ preW ws i = preW ws n) (G := fun b => b.length ≤ 20000 ∧ smB b = true) (L := ws.length) (fun i c => (hI i c).1) (fun i x m c hx => (hI i c).2 x m hx) c2 l cl
      refine ⟨bindR_nn t1.1 fun us l hu => bindR_nn (t2 l (t1.2 us l hu).2.1).1 fun bs e _ => by simp, fun s m hx => ?_⟩
      obtain ⟨us, l, a1, a2⟩ := bindR_inv hx
      obtain ⟨bs, e, a3, a4⟩ := bindR_inv a2
      cases a4
      obtain ⟨b1, b2, _⟩ := t1.2 us l a1
      obtain ⟨d1, d2, d3⟩ := (t2 l b2).2 bs m a3
      have lu := seqR_len a1
      have lb := seqR_len a3
      refine ⟨d2.1, ?_, d2.2, ?_⟩
      · rcases d1 with d1 | d1
        · rw [d1]
          rcases b1 with b1 | b1
          · omega
          · exact b1.2
        · exact d1.2
      · match us, bs, lu, lb with
        | [t], [a, b], _, _ =>
          have ga := d3 a (by simp)
          have gb := d3 b (by simp)
          simp [mkS, smS, ga.1, ga.2, gb.1, gb.2]
        | [t], [], _, _ => rfl
        | [t, u], [], _, _ => rfl
        | [], [], _, _ => rfl
        | [], [_], _, _ => rfl
        | [], _ :: _ :: _, _, _ => rfl
        | [_], [_], _, _ => rfl
        | [_], _ :: _ :: _ :: _, _, _ => rfl
        | [_, _], _ :: _, _, _ => rfl
        | _ :: _ :: _ :: _, [], _, _ => rfl
        | _ :: _ :: _ :: _, _ :: _, _, _ => rfl
theorem rdB_all {E : Nat} (hdt : ∀ n, cntW ws n < dt) (hlen : ws.length ≤ 20000) (hE : EB valW E ws) {d : Nat} (hd : E < d) (n : Nat) : rdB ws dt d n ≠ none ∧ ∀ b m, rdB ws dt d n = some (some (b, m)) → b.length ≤ 20000 ∧ smB b = true := by
  have hE2 : ∀ i j, i ≤ j → preW ws j - preW ws i < (d : Int) := fun i j hij => by
    have := hE i j hij
    show bal valW _ - bal valW _ < _
    omega
  have it := itR_all (S := rdS ws dt d) (go := fun j => isStepW (hereW ws j)) (C := fun _ => True) (G := fun s => smS s = true) (L := ws.length) (fun j c hg => (rdS_all hdt hlen d j (fun q hq => hE2 j q hq) hg).1)
    (fun j x m c hg hx => by
      obtain ⟨a1, a2, a3, a4⟩ := (rdS_all hdt hlen d j (fun q hq => hE2 j q hq) hg).2 x m hx
      exact ⟨a1, a2, True.intro, a4⟩) (ws.length + 1) n True.intro (by omega)
  refine ⟨it.1, fun b m hx => ?_⟩
  obtain ⟨b1, b2, b3, b4⟩ := it.2 b m hx
  exact ⟨by rcases b2 with b2 | b2 <;> omega, smB_of b4⟩
end
/-- what is read of rows that are not deep -/
structure RowsOk (dt d : Nat) (rows : List (List Str)) : Prop where
  n : rows.length ≤ 1000
  b : ∀ ws ∈ rows, (∀ n, rdB ws dt d n ≠ none) ∧ ∀ b m n, rdB ws dt d n = some (some (b, m)) → b.length ≤ 20000 ∧ smB b = true
theorem rdL_here {dt d : Nat} {ws : List Str} : rdL dt d ws = match numOf (hereW ws 0), numOf (hereW ws 1) with
    | some p, some o => bindR (rdB ws dt d 2) fun b e => if e = ws.length then some (some (⟨p, o, b⟩, e)) else some none
    | _, _ => some none := by
  unfold rdL
  rw [rdNum_here]
  cases numOf (hereW ws 0) with
  | none => rfl
  | some p =>
    rw [bindR_ok, rdNum_here]
    cases numOf (hereW ws 1) with
    | none => rfl
    | some o => rfl
theorem rdL_ne {dt d : Nat} {ws : List Str} (h : rdB ws dt d 2 ≠ none) : rdL dt d ws ≠ none := by
  rw [rdL_here]
  split
  · refine bindR_nn h fun b e _ => ?_
    split <;> simp
  · simp
theorem rdRows_ne {dt d : Nat} : ∀ (rows : List (List Str)) (i : Nat), (∀ ws ∈ rows, rdL dt d ws ≠ none) → rdRows dt d i rows ≠ none
  | [], i, _ => by simp [rdRows]
  | ws :: r, i, h => by
    have ih := rdRows_ne r (i + 1) fun x hx => h x (List.mem_cons_of_mem _ hx)
    rw [rdRows_step]
    rcases e : rdL dt d ws with _ | _ | ⟨w, m⟩
    · exact absurd e (h ws List.mem_cons_self)
    · simp
    · dsimp only
      rcases e2 : rdRows dt d (i + 1) r with _ | j | p
      · exact absurd e2 ih
      · simp
      · simp
theorem rdRows_sm {dt d : Nat} : ∀ (rows : List (List Str)) (i : Nat) (p : List Wk), (∀ ws ∈ rows, ∀ b m n, rdB ws dt d n = some (some (b, m)) → b.length ≤ 20000 ∧ smB b = true) → rdRows dt d i rows = some (.inr p) → p.length = rows.length ∧ ∀ w ∈ p, w.body.length ≤ 20000 ∧ smB w.body = true
  | [], i, p, _, h => by
    simp only [rdRows] at h
    cases h
    simp
  | ws :: r, i, p, hb, h => by
    rw [rdRows_step] at h
    rcases e : rdL dt d ws with _ | _ | ⟨w, m⟩
    · rw [e] at h; cases h
    · rw [e] at h; cases h
    · rw [e] at h
      dsimp only at h
      rcases e2 : rdRows dt d (i + 1) r with _ | j | q
      · rw [e2] at h; cases h
      · rw [e2] at h; cases h
      · rw [e2] at h
        cases h
        obtain ⟨h1, h2⟩ := rdRows_sm r (i + 1) q (fun x hx => hb x (List.mem_cons_of_mem _ hx)) e2
        refine ⟨by simp [h1], fun x hx => ?_⟩
        rcases List.mem_cons.mp hx with rfl | hx
        · rw [rdL_here] at e
          split at e
          · obtain ⟨b, l, a1, a2⟩ := bindR_inv e
            split at a2
            · cases a2
              exact hb ws List.mem_cons_self b _ 2 a1
            · cases a2
          · cases e
        · exact h2 x hx
theorem RowsOk.ne {dt d : Nat} {rows : List (List Str)} (h : RowsOk dt d rows) : rdRows dt d 0 rows ≠ none := rdRows_ne rows 0 fun ws hw => rdL_ne ((h.b ws hw).1 2)
theorem RowsOk.sm {dt d : Nat} {rows : List (List Str)} (h : RowsOk dt d rows) {p : List Wk} (hp : rdRows dt d 0 rows = some (.inr p)) : smP p := by
  obtain ⟨h1, h2⟩ := rdRows_sm rows 0 p (fun ws hw b m n hx => (h.b ws hw).2 b m n hx) hp
  exact ⟨by rw [h1]; exact h.n, h2⟩
/-- a text's rows -/
theorem TxB.ok {A E L R dt d : Nat} {tx : Str} (h : TxB A E L R (TL.tl tx)) (hR : R ≤ 90) (hL : L ≤ 19990) (hA : A < dt) (hE : E < d) : txOk tx ∧ RowsOk dt d (rowsOf tx) := by
  have hrows := split_nl tx
  have hlen : (Txt.split tx "\n").length ≤ R := by
    have := congrArg List.length hrows
    rw [List.length_map] at this
    rw [this]
    exact h.n
  have hrow : ∀ l ∈ Txt.split tx "\n", RowB A E L (TL.tl l) := fun l hl => h.r _ (by rw [← hrows]; exact List.mem_map_of_mem hl)
  have hwd : ∀ l ∈ Txt.split tx "\n", wdOk (Txt.split l " ") ∧ (Txt.split l " ").length ≤ 20000 := fun l hl => by
    have rb := hrow l hl
    have e := split_sp l
    have hw := rb.wd
    have hwl : ∀ z ∈ Txt.split l " ", z.length + 1 ≤ L + 1 ∧ (PyData.str z).canLay0 = true := fun z hz => by
      have hm : TL.tl z ∈ spL 32 (TL.tl l) := by rw [← e]; exact List.mem_map_of_mem hz
      refine ⟨?_, str_lay fun c hc => by have := (hw.c _ hm c hc).1; omega⟩
      have := wlen_mem hm
      rw [TL.len_tl z]
      exact Nat.le_trans this hw.l
    have hn : (Txt.split l " ").length ≤ L + 1 := by
      have e2 := congrArg List.length e
      rw [List.length_map] at e2
      have := hw.l
      unfold wlen at this
      omega
    exact ⟨⟨by omega, fun z hz => ⟨by have := (hwl z hz).1; omega, (hwl z hz).2⟩⟩, by omega⟩
  refine ⟨⟨?_, by omega, fun l hl => ⟨?_, (hwd l hl).1⟩⟩, ⟨by unfold rowsOf; rw [List.length_map]; omega, fun ws hws => ?_⟩⟩
  · have hw := wlen_spL 10 (TL.tl tx)
    have hb : ∀ rs : List (List Nat), (∀ r ∈ rs, r.length ≤ L) → wlen rs ≤ rs.length * (L + 1) := by
      intro rs
      induction rs with
      | nil => intro _; simp [wlen]
      | cons r t ih =>
        intro hr
        rw [wlen_cons, List.length_cons, Nat.succ_mul]
        have := ih fun x hx => hr x (List.mem_cons_of_mem _ hx)
        have := hr r List.mem_cons_self
        omega
    have h1 := hb (spL 10 (TL.tl tx)) fun r hr => (h.r r hr).l
    have h2 : (spL 10 (TL.tl tx)).length * (L + 1) ≤ 90 * 20000 := Nat.mul_le_mul (Nat.le_trans h.n hR) (by omega)
    rw [TL.len_tl tx]
    omega
  · have := (hrow l hl).l
    rw [TL.len_tl l]
    omega
  · unfold rowsOf at hws
    obtain ⟨l, hl, rfl⟩ := List.mem_map.mp hws
    have rb := hrow l hl
    have ho : OB isStepW isOpW A (Txt.split l " ") := OB_words (by rw [split_sp]; exact rb.o)
    have he : EB valW E (Txt.split l " ") := EB_words (by rw [split_sp]; exact rb.e)
    have hdt : ∀ n, cntW (Txt.split l " ") n < dt := fun n => Nat.lt_of_le_of_lt (ho n) hA
    exact ⟨fun n => (rdB_all hdt (hwd l hl).2 he hE n).1, fun b m n hx => (rdB_all hdt (hwd l hl).2 he hE n).2 b m hx⟩
end Hw

set_option maxRecDepth 100000
set_option maxHeartbeats 4000000
/-! LM4: texts that are changed, in plain Lean -/
namespace Hw
open PySem PySem.Spec PyProof.Rows L2 Evl
inductive WChg (ws : List (List Nat)) : List (List Nat) → Prop
  | same : WChg ws ws
  | rem (j : Nat) : WChg ws (ws.take j ++ ws.drop (j + 1))
  | dup (j : Nat) : WChg ws (ws.take (j + 1) ++ ws.drop j)
  | move (j o : Nat) : j < ws.length → WChg ws ((ws.take j ++ ws.drop (j + 1)).take o ++ (ws.drop j).take 1 ++ (ws.take j ++ ws.drop (j + 1)).drop o)
  | put (j : Nat) (w : List Nat) : w.length ≤ 4 → (∀ c ∈ w, c < 200 ∧ c ≠ 10 ∧ c ≠ 32) → WChg ws (ws.take j ++ [w] ++ ws.drop (j + 1))
inductive Chg (l : List Nat) : List Nat → Prop
  | sign (k e : Nat) (sg : List Nat) : sg.length ≤ 1 → (∀ c ∈ sg, c < 200 ∧ c ≠ 10) → Chg l (l.take k ++ sg ++ l.drop (k + e))
  | rows (rows : List (List Nat)) : rows.length ≤ 2 * (spL 10 l).length → (∀ r ∈ rows, r ∈ spL 10 l) → Chg l (TL.joinL [10] rows)
  | words (k : Nat) (r : List Nat) (ws : List (List Nat)) : (spL 10 l)[k]? = some r → WChg (spL 32 r) ws → Chg l (TL.joinL [10] ((spL 10 l).take k ++ [TL.joinL [32] ws] ++ (spL 10 l).drop (k + 1)))
theorem val_le (w : List Nat) : valL w ≤ 1 ∧ -1 ≤ valL w := valW_le _
theorem split3 {α : Type} {ws : List α} {j : Nat} (h : j < ws.length) : ∃ w, ws = ws.take j ++ w :: ws.drop (j + 1) ∧ (ws.drop j).take 1 = [w] := by
  refine ⟨ws[j], ?_, ?_⟩
  · rw [← List.drop_eq_getElem_cons h, List.take_append_drop]
  · rw [List.drop_eq_getElem_cons h]
    rfl
theorem WChg.ok {A E W : Nat} {ws ws' : List (List Nat)} (h : WdB A E W ws) (c : WChg ws ws') : WdB (2 * A + 2) (2 * E + 2) (2 * W + 5) ws' := by
  have hc : ∀ w ∈ ws, ∀ c ∈ w, c < 200 ∧ c ≠ 10 ∧ c ≠ 32 := h.c
  cases c with
  | same => exact ⟨h.o.mono (by omega), h.e.mono (by omega), by have := h.l; omega, hc⟩
  | rem j =>
    refine ⟨(OB.app (h.o.take j) (h.o.drop (j + 1))).mono (by omega), (EB.app (h.e.take j) (h.e.drop (j + 1))).mono (by omega), ?_, fun w hw => ?_⟩
    · rw [wlen_app]
      have := wlen_take ws j
      have := wlen_drop ws (j + 1)
      have := h.l
      omega
    · rcases List.mem_append.mp hw with hw | hw
      · exact hc w (List.mem_of_mem_take hw)
      · exact hc w (List.mem_of_mem_drop hw)
  | dup j =>
    refine ⟨(OB.app (h.o.take (j + 1)) (h.o.drop j)).mono (by omega), (EB.app (h.e.take (j + 1)) (h.e.drop j)).mono (by omega), ?_, fun w hw => ?_⟩
    · rw [wlen_app]
      have := wlen_take ws (j + 1)
      have := wlen_drop ws j
      have := h.l
      omega
    · rcases List.mem_append.mp hw with hw | hw
      · exact hc w (List.mem_of_mem_take hw)
      · exact hc w (List.mem_of_mem_drop hw)
  | move j o hj =>
    obtain ⟨w, e1, e2⟩ := split3 hj
    rw [e2]
    have ho := h.o
    have he := h.e
    rw [e1] at ho he
    have er : ws.take j ++ ws.drop (j + 1) = (ws.take j ++ ws.drop (j + 1)).take o ++ (ws.take j ++ ws.drop (j + 1)).drop o := (List.take_append_drop _ _).symm
    have el : wlen ws = wlen (ws.take j) + (w.length + 1 + wlen (ws.drop (j + 1))) := by
      conv => lhs; rw [e1]
      rw [wlen_app, wlen_cons]
    refine ⟨?_, ?_, ?_, fun x hx => ?_⟩
    · have := ho.move er
      rw [List.append_assoc, List.singleton_append]
      exact this.mono (by omega)
    · have := he.move er (val_le w).1 (val_le w).2
      rw [List.append_assoc, List.singleton_append]
      exact this.mono (by omega)
    · rw [wlen_app, wlen_app]
      have q := congrArg wlen er
      rw [wlen_app, wlen_app] at q
      have : wlen [w] = w.length + 1 := by simp [wlen]
      have := h.l
      omega
    · have hm : ∀ y ∈ ws.take j ++ ws.drop (j + 1), y ∈ ws := fun y hy => by
        rcases List.mem_append.mp hy with hy | hy
        · exact List.mem_of_mem_take hy
        · exact List.mem_of_mem_drop hy
      rcases List.mem_append.mp hx with hx | hx
      · rcases List.mem_append.mp hx with hx | hx
        · exact hc x (hm x (List.mem_of_mem_take hx))
        · have : x = w := by simpa using hx
          rw [this]
          exact hc w (by rw [e1]; simp)
      · exact hc x (hm x (List.mem_of_mem_drop hx))
  | put j w hl hw =>
    refine ⟨(OB.app (OB.app (h.o.take j) OB.one) (h.o.drop (j + 1))).mono (by omega), (EB.app (EB.app (h.e.take j) (EB.one (val_le w).1 (val_le w).2)) (h.e.drop (j + 1))).mono (by omega), ?_, fun x hx => ?_⟩
    · rw [wlen_app, wlen_app]
      have := wlen_take ws j
      have := wlen_drop ws (j + 1)
      have : wlen [w] = w.length + 1 := by simp [wlen]
      have := h.l
      omega
    · rcases List.mem_append.mp hx with hx | hx
      · rcases List.mem_append.mp hx with hx | hx
        · exact hc x (List.mem_of_mem_take hx)
        · have : x = w := by simpa using hx
          rw [this]
          exact hw
      · exact hc x (List.mem_of_mem_drop hx)
/-- a piece of one row, signs, a piece of another -/
theorem RowB.glue {A E L : Nat} {x y1 x2 y sg : List Nat} (h1 : RowB A E L (x ++ y1)) (h2 : RowB A E L (x2 ++ y)) (hs : sg.length ≤ 1) (hc : ∀ c ∈ sg, c < 200 ∧ c ≠ 10) : RowB (2 * A + 2) (2 * E + 2) (2 * L + 8) (x ++ (sg ++ y)) := by
  obtain ⟨q, vs, ey⟩ := spL_cons 32 y
  obtain ⟨q1, vs1, ey1⟩ := spL_cons 32 y1
  obtain ⟨us, p, ex, e1⟩ := glu_at (spL 32 x) q1 vs1 (spL_ne 32 x)
  obtain ⟨us2, p2, ex2, e2⟩ := glu_at (spL 32 x2) q vs (spL_ne 32 x2)
  have ew1 : spL 32 (x ++ y1) = us ++ (p ++ q1) :: vs1 := by rw [spL_app, ey1, e1]
  have ew2 : spL 32 (x2 ++ y) = us2 ++ (p2 ++ q) :: vs := by rw [spL_app, ey, e2]
  have hmid : ∃ mid, spL 32 (x ++ (sg ++ y)) = us ++ mid ++ vs ∧ OB stL opL 2 mid ∧ EB valL 2 mid := by
    have two : ∀ a b : List Nat, OB stL opL 2 [a, b] ∧ EB valL 2 [a, b] := fun a b => ⟨OB.app (u := [a]) OB.one OB.one, EB.app (u := [a]) (EB.one (val_le a).1 (val_le a).2) (EB.one (val_le b).1 (val_le b).2)⟩
    have one : ∀ a : List Nat, OB stL opL 2 [a] ∧ EB valL 2 [a] := fun a => ⟨OB.one.mono (by omega), (EB.one (val_le a).1 (val_le a).2).mono (by omega)⟩
    by_cases h32 : 32 ∈ sg
    · have e : sg = [32] := by
        match sg, hs, h32 with
        | [c], _, h => simp at h; rw [h]
      subst e
      have e3 : spL 32 ([32] ++ y) = [] :: q :: vs := by rw [List.singleton_append, spL_hit, ey]
      obtain ⟨us', p', ex', e4⟩ := glu_at (spL 32 x) [] (q :: vs) (spL_ne 32 x)
      rw [ex] at ex'
      obtain ⟨rfl, hp⟩ := List.append_inj' ex' rfl
      cases hp
      refine ⟨[p, q], ?_, two p q⟩
      rw [spL_app, e3, e4]
      simp
    · have e3 : ∃ s, spL 32 (sg ++ y) = s :: vs := by
        rw [spL_app, spL_free h32, ey]
        exact ⟨_, rfl⟩
      obtain ⟨s, e3⟩ := e3
      obtain ⟨us', p', ex', e4⟩ := glu_at (spL 32 x) s vs (spL_ne 32 x)
      rw [ex] at ex'
      obtain ⟨rfl, hp⟩ := List.append_inj' ex' rfl
      cases hp
      refine ⟨[p ++ s], ?_, one _⟩
      rw [spL_app, e3, e4]
      simp
  obtain ⟨mid, em, m1, m2⟩ := hmid
  have o1 := h1.o
  have o2 := h2.o
  have v1 := h1.e
  have v2 := h2.e
  rw [ew1] at o1 v1
  rw [ew2] at o2 v2
  have hl1 := h1.l
  have hl2 := h2.l
  rw [List.length_append] at hl1 hl2
  refine ⟨?_, ?_, ?_, fun c hcm => ?_⟩
  · rw [em]
    exact (OB.app (OB.app o1.left m1) (OB.right (u := [p2 ++ q]) o2.right)).mono (by omega)
  · rw [em]
    exact (EB.app (EB.app v1.left m2) (EB.right (u := [p2 ++ q]) v2.right)).mono (by omega)
  · simp only [List.length_append]
    omega
  · rcases List.mem_append.mp hcm with hcm | hcm
    · exact h1.c c (List.mem_append.mpr (.inl hcm))
    · rcases List.mem_append.mp hcm with hcm | hcm
      · exact hc c hcm
      · exact h2.c c (List.mem_append.mpr (.inr hcm))
theorem Chg.ok {A E L R : Nat} {l l' : List Nat} (h : TxB A E L R l) (c : Chg l l') : TxB (2 * A + 2) (2 * E + 2) (2 * L + 8) (2 * R) l' := by
  have h1 : 1 ≤ R := by
    have := spL_ne 10 l
    have := List.length_pos_iff.mpr this
    have := h.n
    omega
  have up : ∀ r, RowB A E L r → RowB (2 * A + 2) (2 * E + 2) (2 * L + 8) r := fun r hr => hr.mono (by omega) (by omega) (by omega)
  cases c with
  | sign k e sg hs hc =>
    have hn10 : 10 ∉ sg := fun hm => (hc 10 hm).2 rfl
    obtain ⟨y, bs, eb⟩ := spL_cons 10 (l.drop (k + e))
    have er : spL 10 (sg ++ l.drop (k + e)) = (sg ++ y) :: bs := by
      rw [spL_app, spL_free hn10, eb]
      rfl
    obtain ⟨as, x, ea, e2⟩ := glu_at (spL 10 (l.take k)) (sg ++ y) bs (spL_ne 10 _)
    have ef : spL 10 (l.take k ++ sg ++ l.drop (k + e)) = as ++ (x ++ (sg ++ y)) :: bs := by rw [List.append_assoc, spL_app, er, e2]
    -- the rows as they stood
    obtain ⟨y1, bs1, eb1⟩ := spL_cons 10 (l.drop k)
    obtain ⟨as', x', ea', e3⟩ := glu_at (spL 10 (l.take k)) y1 bs1 (spL_ne 10 _)
    rw [ea] at ea'
    obtain ⟨rfl, hx⟩ := List.append_inj' ea' rfl
    cases hx
    have el1 : spL 10 l = as ++ (x ++ y1) :: bs1 := by
      conv => lhs; rw [← List.take_append_drop k l]
      rw [spL_app, eb1, e3]
    obtain ⟨as2, x2, ea2, e4⟩ := glu_at (spL 10 (l.take (k + e))) y bs (spL_ne 10 _)
    have el2 : spL 10 l = as2 ++ (x2 ++ y) :: bs := by
      conv => lhs; rw [← List.take_append_drop (k + e) l]
      rw [spL_app, eb, e4]
    have n1 := h.n
    have n2 := h.n
    rw [el1] at n1
    rw [el2] at n2
    simp only [List.length_append, List.length_cons] at n1 n2
    refine ⟨?_, fun r hr => ?_⟩
    · rw [ef]
      simp only [List.length_append, List.length_cons]
      omega
    · rw [ef] at hr
      rcases List.mem_append.mp hr with hr | hr
      · exact up r (h.r r (by rw [el1]; exact List.mem_append.mpr (.inl hr)))
      · rcases List.mem_cons.mp hr with rfl | hr
        · exact RowB.glue (h.r (x ++ y1) (by rw [el1]; simp)) (h.r (x2 ++ y) (by rw [el2]; simp)) hs hc
        · exact up r (h.r r (by rw [el2]; exact List.mem_append.mpr (.inr (List.mem_cons_of_mem _ hr))))
  | rows rows hn hm =>
    have := h.n
    exact TxB.rows (by omega) (by omega) fun r hr => up r (h.r r (hm r hr))
  | words k r ws hk hw =>
    have hr := h.r r (List.mem_of_getElem? hk)
    have hlt := (List.getElem?_eq_some_iff.mp hk).1
    have n1 := h.n
    refine TxB.rows ?_ (by omega) fun x hx => ?_
    · simp only [List.length_append, List.length_take, List.length_drop, List.length_singleton]
      omega
    · rcases List.mem_append.mp hx with hx | hx
      · rcases List.mem_append.mp hx with hx | hx
        · exact up x (h.r x (List.mem_of_mem_take hx))
        · have : x = TL.joinL [32] ws := by simpa using hx
          rw [this]
          exact (hw.ok hr.wd).row.mono (by omega) (by omega) (by omega)
      · exact up x (h.r x (List.mem_of_mem_drop hx))
end Hw

set_option maxRecDepth 100000
set_option maxHeartbeats 4000000
/-! LM5: texts of drawn programs, in plain Lean -/
namespace Hw
open PySem PySem.Spec PyProof.Rows L2 Evl
section
variable {α : Type} {st f : α → Bool} {g : α → Int} {k : Nat} {u v ws : List α}
theorem OB.app0 (h1 : OB st f k u) (h2 : OB st f k v) (h0 : cntO st f v = 0) : OB st f k (u ++ v) := fun n => by
  rw [List.drop_append]
  by_cases hn : n ≤ u.length
  · have e : n - u.length = 0 := by omega
    rw [e, List.drop_zero]
    have := cntO_app (st := st) (f := f) (u.drop n) v
    have := h1 n
    omega
  · rw [List.drop_of_length_le (by omega), List.nil_append]
    exact h2 _
theorem cntO_le : ∀ ws : List α, cntO st f ws ≤ (ws.filter f).length
  | [] => by simp [cntO]
  | z :: r => by
    have ih := cntO_le r
    simp only [cntO, List.filter_cons]
    split
    · omega
    · split
      · simp only [List.length_cons]
        omega
      · omega
theorem OB.of_filter (h : (ws.filter f).length ≤ k) : OB st f k ws := fun n => by
  have h1 := cntO_le (st := st) (f := f) (ws.drop n)
  have h2 : ((ws.drop n).filter f).length ≤ (ws.filter f).length := ((List.drop_sublist n ws).filter f).length_le
  omega
theorem OB.step {z : α} (hz : st z = true) (h : OB st f k ws) : OB st f k (z :: ws) := fun n => by
  cases n with
  | zero => simp [cntO, hz]
  | succ n => simpa using h n
/-- openings are closed again, and never more than so many at once -/
def PB (g : α → Int) (d : Nat) (ws : List α) : Prop := bal g ws = 0 ∧ ∀ j, 0 ≤ bal g (ws.take j) ∧ bal g (ws.take j) ≤ (d : Int)
theorem PB.eb {d : Nat} (h : PB g d ws) : EB g d ws := fun i j _ => by
  have := h.2 i
  have := h.2 j
  omega
theorem PB.mono {d e : Nat} (h : PB g d ws) (le : d ≤ e) : PB g e ws := ⟨h.1, fun j => by have := h.2 j; omega⟩
theorem PB.app {d : Nat} (h1 : PB g d u) (h2 : PB g d v) : PB g d (u ++ v) := by
  refine ⟨by rw [bal_app, h1.1, h2.1]; rfl, fun j => ?_⟩
  rw [bal_take_app]
  by_cases hj : j ≤ u.length
  · have e : j - u.length = 0 := by omega
    rw [e]
    have := h1.2 j
    simp only [List.take_zero]
    have e0 : bal g ([] : List α) = 0 := rfl
    omega
  · rw [take_big (by omega : u.length ≤ j), h1.1]
    have := h2.2 (j - u.length)
    omega
theorem PB.dull {d : Nat} (h : ∀ z ∈ ws, g z = 0) : PB g d ws := by
  have e : ∀ us : List α, (∀ z ∈ us, g z = 0) → bal g us = 0 := by
    intro us
    induction us with
    | nil => intro _; rfl
    | cons z r ih =>
      intro hu
      rw [bal_cons, hu z List.mem_cons_self, ih fun y hy => hu y (List.mem_cons_of_mem _ hy)]
      rfl
  refine ⟨e ws h, fun j => ?_⟩
  rw [e _ fun z hz => h z (List.mem_of_mem_take hz)]
  omega
theorem PB.wrap {d : Nat} {a b : α} (ha : g a = 1) (hb : g b = -1) (h : PB g d ws) : PB g (d + 1) (a :: (ws ++ [b])) := by
  refine ⟨by rw [bal_cons, bal_app, h.1, ha, bal_cons, hb]; rfl, fun j => ?_⟩
  cases j with
  | zero =>
    have e0 : bal g ((a :: (ws ++ [b])).take 0) = 0 := rfl
    rw [e0]
    omega
  | succ j =>
    rw [List.take_succ_cons, bal_cons, bal_take_app, ha]
    have := h.2 j
    by_cases hj : j ≤ ws.length
    · have e : j - ws.length = 0 := by omega
      rw [e]
      simp only [List.take_zero]
      have e0 : bal g ([] : List α) = 0 := rfl
      omega
    · rw [take_big (by omega : ws.length ≤ j), h.1]
      obtain ⟨q, hq⟩ : ∃ q, j - ws.length = q + 1 := ⟨j - ws.length - 1, by omega⟩
      rw [hq, List.take_succ_cons, bal_cons, hb]
      have e0 : bal g (([] : List α).take q) = 0 := by simp [bal]
      omega
end
theorem num_dull : ∀ k < 100, isStepW (strN k) = false ∧ isOpW (strN k) = false ∧ valW (strN k) = 0 := by decide +kernel
theorem lit_dull : isOpW "own" = false ∧ isOpW "par" = false ∧ isOpW "." = false ∧ isOpW "(" = false ∧ isOpW ")" = false ∧ valW "own" = 0 ∧ valW "par" = 0 ∧ valW "cell" = 0 ∧ valW "+" = 0 ∧ valW "." = 0 ∧ valW "set" = 0 ∧ valW "say" = 0 ∧ valW "if" = 0 ∧ valW "call" = 0 ∧ valW "(" = 1 ∧ valW ")" = -1 ∧ isStepW "(" = false ∧ isStepW ")" = false := by decide +kernel
theorem wT_op {ps os : Nat} (hp : ps ≤ 3) (ho : os ≤ 99) : ∀ t : Th, wfT ps os t = true → ((wT t).filter isOpW).length + 1 ≤ 2 ^ dpT t ∧ (∀ z ∈ wT t, valW z = 0)
  | .num k, h => by
    simp only [wfT, decide_eq_true_eq] at h
    have := num_dull k (by omega)
    simp [wT, this.2.1, this.2.2, dpT]
  | .own k, h => by
    simp only [wfT, decide_eq_true_eq] at h
    have := num_dull k (by omega)
    simp [wT, this.2.1, this.2.2, dpT, lit_dull.1, lit_dull.2.2.2.2.2.1]
  | .par k, h => by
    simp only [wfT, decide_eq_true_eq] at h
    have := num_dull k (by omega)
    simp [wT, this.2.1, this.2.2, dpT, lit_dull.2.1, lit_dull.2.2.2.2.2.2.1]
  | .cell t, h => by
    simp only [wfT] at h
    obtain ⟨h1, h2⟩ := wT_op hp ho t h
    refine ⟨?_, fun z hz => ?_⟩
    · simp only [wT, dpT, List.filter_cons, Nat.pow_succ]
      have : 1 ≤ 2 ^ dpT t := Nat.one_le_two_pow
      split
      · simp only [List.length_cons]; omega
      · omega
    · simp only [wT, List.mem_cons] at hz
      rcases hz with rfl | hz
      · exact lit_dull.2.2.2.2.2.2.2.1
      · exact h2 z hz
  | .sum a b, h => by
    simp only [wfT, Bool.and_eq_true] at h
    obtain ⟨h1, h2⟩ := wT_op hp ho a h.1
    obtain ⟨h3, h4⟩ := wT_op hp ho b h.2
    refine ⟨?_, fun z hz => ?_⟩
    · simp only [wT, dpT, List.filter_cons, List.filter_append, Nat.pow_succ]
      have : 2 ^ dpT a ≤ 2 ^ max (dpT a) (dpT b) := Nat.pow_le_pow_right (by decide) (Nat.le_max_left _ _)
      have : 2 ^ dpT b ≤ 2 ^ max (dpT a) (dpT b) := Nat.pow_le_pow_right (by decide) (Nat.le_max_right _ _)
      split
      · simp only [List.length_cons, List.length_append]; omega
      · simp only [List.length_append]; omega
    · simp only [wT, List.mem_cons, List.mem_append] at hz
      rcases hz with rfl | hz | hz
      · exact lit_dull.2.2.2.2.2.2.2.2.1
      · exact h2 z hz
      · exact h4 z hz
theorem goT_op {shs : List (Nat × Nat)} {i : Nat} (hs : ShOk shs) {t : Th} (h : goT shs i t = true) : ((wT t).filter isOpW).length ≤ 7 ∧ (∀ z ∈ wT t, valW z = 0) ∧ (wT t).length ≤ 23 := by
  simp only [goT, Bool.and_eq_true, decide_eq_true_eq] at h
  obtain ⟨h1, h2⟩ := wT_op (hs.2 i).1 (hs.2 i).2 t h.1
  have h3 := wT_len t
  have : 2 ^ dpT t ≤ 2 ^ 3 := Nat.pow_le_pow_right (by decide) h.2
  exact ⟨by omega, h2, by omega⟩
theorem goP_op {shs : List (Nat × Nat)} {i : Nat} (hs : ShOk shs) {t : Th} (h : goT shs i t = true) (hp : isPlace t = true) : ((wT t).filter isOpW).length ≤ 4 := by
  simp only [goT, Bool.and_eq_true, decide_eq_true_eq] at h
  cases t with
  | num k => cases hp
  | sum a b => cases hp
  | own k =>
    have := (wT_op (hs.2 i).1 (hs.2 i).2 _ h.1).1
    simp only [dpT] at this
    omega
  | par k =>
    have := (wT_op (hs.2 i).1 (hs.2 i).2 _ h.1).1
    simp only [dpT] at this
    omega
  | cell a =>
    have h1 := h.1
    simp only [wfT] at h1
    have h2 := (wT_op (hs.2 i).1 (hs.2 i).2 a h1).1
    have h3 := h.2
    simp only [dpT] at h3
    have : 2 ^ dpT a ≤ 2 ^ 2 := Nat.pow_le_pow_right (by decide) (by omega)
    simp only [wT, List.filter_cons]
    split
    · simp only [List.length_cons]; omega
    · omega
theorem goC_op {shs : List (Nat × Nat)} {i : Nat} (hs : ShOk shs) {t : Th} (h : goC shs i t = true) : ((wT t).filter isOpW).length ≤ 4 := by
  simp only [goC, Bool.and_eq_true, Bool.or_eq_true, decide_eq_true_eq] at h
  rcases h.2 with hp | hd
  · exact goP_op hs h.1 hp
  · have h1 := h.1
    simp only [goT, Bool.and_eq_true, decide_eq_true_eq] at h1
    have h2 := (wT_op (hs.2 i).1 (hs.2 i).2 t h1.1).1
    have : 2 ^ dpT t ≤ 2 ^ 2 := Nat.pow_le_pow_right (by decide) hd
    omega
theorem ts_op {shs : List (Nat × Nat)} {i : Nat} (hs : ShOk shs) : ∀ ts : List Th, (∀ t ∈ ts, goC shs i t = true) → ((ts.flatMap wT).filter isOpW).length ≤ 4 * ts.length ∧ (∀ z ∈ ts.flatMap wT, valW z = 0) ∧ (ts.flatMap wT).length ≤ 23 * ts.length
  | [], _ => by simp
  | t :: r, h => by
    obtain ⟨_, h2, h3⟩ := goT_op hs (goC_T (h t List.mem_cons_self))
    have h1 := goC_op hs (h t List.mem_cons_self)
    obtain ⟨g1, g2, g3⟩ := ts_op hs r fun x hx => h x (List.mem_cons_of_mem _ hx)
    simp only [List.flatMap_cons, List.filter_append, List.length_append, List.length_cons]
    refine ⟨by omega, fun z hz => ?_, by omega⟩
    rcases List.mem_append.mp hz with hz | hz
    · exact h2 z hz
    · exact g2 z hz
theorem wB_cnt (b : List Stm) (r : List Str) (hr : cntO isStepW isOpW r = 0) : cntO isStepW isOpW (wB b ++ r) = 0 := by
  cases b with
  | nil => simpa [wB] using hr
  | cons x b =>
    obtain ⟨z, zs, e, hz⟩ := wS_first x
    rw [wB_flat, List.flatMap_cons, e]
    simp [cntO, hz]
theorem cnt_dull {z : Str} {r : List Str} (h1 : isOpW z = false) (h2 : cntO isStepW isOpW r = 0) : cntO isStepW isOpW (z :: r) = 0 := by
  simp only [cntO, h1]
  split
  · rfl
  · simpa using h2
mutual
theorem wS_go {shs : List (Nat × Nat)} {i : Nat} (hs : ShOk shs) : ∀ (x : Stm) (n : Nat), goS shs i n x = true → OB isStepW isOpW 12 (wS x) ∧ PB valW n (wS x) ∧ (wS x).length ≤ 47 * cntS x + 25 * clS x
  | .set p t, n, h => by
    have h : goT shs i p = true ∧ isPlace p = true ∧ goT shs i t = true := by cases n <;> (simp only [goS, Bool.and_eq_true] at h; exact h)
    obtain ⟨_, a2, a3⟩ := goT_op hs h.1
    have a1 := goP_op hs h.1 h.2.1
    obtain ⟨b1, b2, b3⟩ := goT_op hs h.2.2
    simp only [wS, cntS, clS]
    refine ⟨OB.step (by decide +kernel) (OB.of_filter (by simp only [List.filter_append, List.length_append]; omega)), PB.dull fun z hz => ?_, by simp only [List.length_cons, List.length_append]; omega⟩
    simp only [List.mem_cons, List.mem_append] at hz
    rcases hz with rfl | hz | hz
    · decide +kernel
    · exact a2 z hz
    · exact b2 z hz
  | .say t, n, h => by
    have h : goT shs i t = true := by cases n <;> (simp only [goS] at h; exact h)
    obtain ⟨a1, a2, a3⟩ := goT_op hs h
    simp only [wS, cntS, clS]
    refine ⟨OB.step (by decide +kernel) (OB.of_filter (by omega)), PB.dull fun z hz => ?_, by simp only [List.length_cons]; omega⟩
    simp only [List.mem_cons] at hz
    rcases hz with rfl | hz
    · decide +kernel
    · exact a2 z hz
  | .call c ts, n, h => by
    have h : c < shs.length ∧ ts.length = shP shs c ∧ ∀ t ∈ ts, goC shs i t = true := by cases n <;> (simp only [goS, Bool.and_eq_true, decide_eq_true_eq, List.all_eq_true] at h; exact ⟨h.2.1, h.2.2.1, h.2.2.2⟩)
    obtain ⟨hc, hl, ht⟩ := h
    have hl3 := (hs.2 c).1
    have hc4 := hs.1
    obtain ⟨a1, a2, a3⟩ := ts_op hs ts ht
    have nd := num_dull c (by omega)
    simp only [wS, cntS, clS]
    refine ⟨OB.step (by decide +kernel) (OB.of_filter ?_), PB.dull fun z hz => ?_, ?_⟩
    · simp only [List.filter_cons, nd.2.1, List.filter_append, List.length_append, lit_dull.2.2.1, List.filter_nil, List.length_nil]
      simp
      omega
    · simp only [List.mem_cons, List.mem_append, List.not_mem_nil, or_false] at hz
      rcases hz with rfl | rfl | hz | rfl
      · decide +kernel
      · exact nd.2.2
      · exact a2 z hz
      · decide +kernel
    · simp only [List.length_cons, List.length_append, List.length_nil]
      omega
  | .ite t a b, 0, h => by simp [goS] at h
  | .ite t a b, n + 1, h => by
    simp only [goS, Bool.and_eq_true, decide_eq_true_eq] at h
    obtain ⟨a1, a2, a3⟩ := goT_op hs h.1
    obtain ⟨b1, b2, b3⟩ := wB_go hs a n h.2.1.2
    obtain ⟨c1, c2, c3⟩ := wB_go hs b n h.2.2.2
    obtain ⟨_, _, _, lp, rp, _, _, _, _, _, _, _, _, _, vl, vr, sl, sr⟩ := lit_dull
    have e : wS (.ite t a b) = ("if" : Str) :: (wT t ++ (("(" : Str) :: (wB a ++ [(")" : Str)]) ++ ("(" : Str) :: (wB b ++ [(")" : Str)]))) := by simp [wS]
    rw [e]
    simp only [cntS, clS]
    have z1 : cntO isStepW isOpW [(")" : Str)] = 0 := cnt_dull rp rfl
    have o1 : ∀ (x : List Stm) (r : List Str), OB isStepW isOpW 12 (wB x) → OB isStepW isOpW 12 r → cntO isStepW isOpW r = 0 → OB isStepW isOpW 12 (("(" : Str) :: (wB x ++ r)) := fun x r hx hr h0 => by
      have : OB isStepW isOpW 12 (wB x ++ r) := OB.app0 hx hr h0
      exact OB.app0 (u := [(("(") : Str)]) (OB.of_filter (by simp [lp])) this (wB_cnt x r h0)
    have zc : cntO isStepW isOpW (("(" : Str) :: (wB b ++ [(")" : Str)])) = 0 := cnt_dull lp (wB_cnt b _ z1)
    have oc : OB isStepW isOpW 12 (("(" : Str) :: (wB b ++ [(")" : Str)])) := o1 b _ c1 (OB.of_filter (by simp [rp])) z1
    have zb : cntO isStepW isOpW (("(" : Str) :: (wB a ++ [(")" : Str)]) ++ ("(" : Str) :: (wB b ++ [(")" : Str)])) = 0 := by
      rw [List.cons_append, List.append_assoc]
      exact cnt_dull lp (wB_cnt a _ (cnt_dull rp zc))
    have ob : OB isStepW isOpW 12 (("(" : Str) :: (wB a ++ [(")" : Str)]) ++ ("(" : Str) :: (wB b ++ [(")" : Str)])) := OB.app0 (o1 a _ b1 (OB.of_filter (by simp [rp])) z1) oc zc
    refine ⟨OB.step (by decide +kernel) (OB.app0 (OB.of_filter (by omega)) ob zb), ?_, ?_⟩
    · have pt : PB valW (n + 1) (("if" : Str) :: wT t) := PB.dull fun z hz => by
        rcases List.mem_cons.mp hz with rfl | hz
        · decide +kernel
        · exact a2 z hz
      exact PB.app (u := ("if" : Str) :: wT t) pt (PB.app (PB.wrap vl vr b2) (PB.wrap vl vr c2))
    · simp only [List.length_cons, List.length_append, List.length_nil]
      omega
theorem wB_go {shs : List (Nat × Nat)} {i : Nat} (hs : ShOk shs) : ∀ (b : List Stm) (n : Nat), goB shs i n b = true → OB isStepW isOpW 12 (wB b) ∧ PB valW n (wB b) ∧ (wB b).length ≤ 47 * cntB b + 25 * clB b
  | [], n, _ => ⟨OB.of_filter (by simp [wB]), PB.dull (by simp [wB]), by simp [wB]⟩
  | x :: r, n, h => by
    simp only [goB, Bool.and_eq_true] at h
    obtain ⟨a1, a2, a3⟩ := wS_go hs x n h.1
    obtain ⟨b1, b2, b3⟩ := wB_go hs r n h.2
    simp only [wB, cntB, clB]
    refine ⟨OB.app0 a1 b1 ?_, PB.app a2 b2, by simp only [List.length_append]; omega⟩
    have := wB_cnt r [] rfl
    rwa [List.append_nil] at this
end
theorem OB_chars {k : Nat} {ws : List Str} (h : OB isStepW isOpW k ws) : OB stL opL k (ws.map TL.tl) := fun n => by
  rw [← List.map_drop, cntO_map]
  simp only [stL, opL, mkL_tl]
  exact h n
theorem EB_chars {k : Nat} {ws : List Str} (h : EB valW k ws) : EB valL k (ws.map TL.tl) := fun i j hij => by
  rw [← List.map_take, ← List.map_take, bal_map, bal_map]
  simp only [valL, mkL_tl]
  exact h i j hij
/-- a drawn program's text -/
theorem txP_B {p : List Wk} (g : GoP 6 p) : TxB 12 2 2400 4 (TL.tl (txP p)) := by
  have hok := goP_ok g (by decide)
  have hl := okP_len hok
  have hrows : spL 10 (TL.tl (txP p)) = (p.map lnW).map TL.tl := by rw [← split_nl, txP_rows hok]
  refine ⟨by rw [hrows]; simp only [List.length_map]; exact hl.2, fun r hr => ?_⟩
  rw [hrows] at hr
  obtain ⟨l, hl, rfl⟩ := List.mem_map.mp hr
  obtain ⟨w, hw, rfl⟩ := List.mem_map.mp hl
  obtain ⟨i, hi⟩ := List.mem_iff_getElem?.mp hw
  have gw := g.ws i w hi
  have hsh := shOk_of hok
  obtain ⟨b1, b2, b3⟩ := wB_go hsh w.body 2 gw.go
  have hk := okP_get hok hi
  have n1 := num_dull w.params (by omega)
  have n2 := num_dull w.owns (by omega)
  have ew : spL 32 (TL.tl (lnW w)) = (strN w.params :: strN w.owns :: wB w.body).map TL.tl := by rw [← split_sp, lnW_words hok hi]
  refine ⟨?_, ?_, ?_, fun c hc => ?_⟩
  · rw [ew]
    refine OB_chars (OB.app0 (u := [strN w.params, strN w.owns]) (OB.of_filter (by simp [n1.2.1, n2.2.1])) b1 ?_)
    have := wB_cnt w.body [] rfl
    rwa [List.append_nil] at this
  · rw [ew]
    refine EB_chars (PB.eb (PB.app (u := [strN w.params, strN w.owns]) (PB.dull fun z hz => ?_) b2))
    simp only [List.mem_cons, List.not_mem_nil, or_false] at hz
    rcases hz with rfl | rfl
    · exact n1.2.2
    · exact n2.2.2
  · have h1 := wlen_spL 32 (TL.tl (lnW w))
    have h2 : wlen (spL 32 (TL.tl (lnW w))) ≤ 5 * (spL 32 (TL.tl (lnW w))).length := by
      have hg := (lnW_len hok hi).2.2
      have : ∀ ls : List Str, (∀ z ∈ ls, goodW z = true) → wlen (ls.map TL.tl) ≤ 5 * (ls.map TL.tl).length := by
        intro ls
        induction ls with
        | nil => intro _; simp [wlen]
        | cons z r ih =>
          intro hz
          rw [List.map_cons, wlen_cons, List.length_cons]
          have := ih fun x hx => hz x (List.mem_cons_of_mem _ hx)
          have := (goodW_c (hz z List.mem_cons_self)).1
          rw [TL.len_tl z] at this
          omega
      rw [ew]
      exact this _ hg
    have h3 : (spL 32 (TL.tl (lnW w))).length = 2 + (wB w.body).length := by
      rw [ew]
      simp only [List.map_cons, List.length_cons, List.length_map]
      omega
    have := gw.cnt
    have := gw.cl
    omega
  · have := lnW_c hok hi c hc
    exact ⟨by omega, by omega⟩
end Hw

set_option maxRecDepth 100000
set_option maxHeartbeats 4000000
/-! LF6: the law's own reader: texts -/
namespace Hw
open PySem PySem.Spec PyProof.Rows L2 Evl
local macro_rules | `(tactic| walk_at "dd") => `(tactic| first | rfl | decide | (simp; done) | omega)
local macro_rules | `(tactic| walk_at "td") => `(tactic| first | assumption | exact Td.int _ | exact Td.bl _ | exact Td.str _ | exact Td.non | exact Td.tup (by assumption) (by assumption))
local macro_rules | `(tactic| walk_at "ev") => `(tactic| first
  | exact ed_ci | exact ed_cs | exact ed_cb | exact ed_cn
  | (apply ed_cg; assumption)
  | (apply ed_var; (rfl); (walk_at "td"))
  | (apply ed_ixT; (walk_at "ev"); (walk_at "ev"); (first | rfl | assumption))
  | (apply ed_rowI; (rfl); (assumption); (walk_at "ev"); (rfl))
  | (apply ed_ixL; (apply EvDL.rd; walk_at "edl"); (walk_at "ev"); (rfl))
  | (apply ed_intb; (walk_at "ev"))
  | (apply ed_len; walk_at "ev")
  | (apply ed_lenV; (apply ev_rowR; (rfl); (assumption); (walk_at "ev"); (rfl)); (assumption))
  | (apply ed_Ii; (walk_at "ev"); (walk_at "ev"); (walk_at "cc"))
  | (apply ed_isi; (walk_at "ev"); (rfl))
  | (apply ed_I0i; (walk_at "ev"); (walk_at "ev"))
  | (apply ed_I0b; (walk_at "ev"); (walk_at "ev"))
  | (apply ed_eqi; (walk_at "ev"); (walk_at "ev"))
  | (apply ed_nei; (walk_at "ev"); (walk_at "ev"))
  | (apply ed_andF; walk_at "ev")
  | (apply ed_andV; (walk_at "ev"); (intro _; walk_at "ev"))
  | (apply ed_orT; walk_at "ev")
  | (apply ed_orV; (walk_at "ev"); (intro _; walk_at "ev"))
  | (apply ed_notT; walk_at "ev")
  | (apply ed_notF; walk_at "ev")
  | (apply ed_notV; walk_at "ev")
  | (apply ed_chain; (walk_at "ev"); (walk_at "ev"); (intro _; walk_at "ev"))
  | (apply ed_eqS; (walk_at "ev"); (walk_at "ev"); (walk_at "bb"); (walk_at "bb"))
  | (apply ed_neS; (walk_at "ev"); (walk_at "ev"); (walk_at "bb"); (walk_at "bb"))
  | (apply ed_inT; (walk_at "ev"); (walk_at "ev"); (rfl); (rfl))
  | (apply ed_niT; (walk_at "ev"); (walk_at "ev"); (rfl); (rfl))
  | (apply ed_tup; (walk_at "eva"); (walk_at "bb"))
  | (apply ed_sl; (walk_at "ev"); (walk_at "evo"); (walk_at "evo"))
  | (apply ed_eqN; (apply EvDL.rd; walk_at "edl"); (walk_at "edl"); (walk_at "bb"))
  | (apply ed_neN; (apply EvDL.rd; walk_at "edl"); (walk_at "edl"); (walk_at "bb"))
  | (apply ed_ixL; (apply edr_var; (rfl); (assumption); (assumption)); (walk_at "ev"); (first | rfl | assumption))
  | (apply ed_lenL; (apply edr_var; (rfl); (assumption); (assumption)))
  | (apply ed_call; (walk_at "eva"); (walk_at "post")))
local macro_rules | `(tactic| walk_at "edl") => `(tactic| first
  | assumption
  | (apply edl_lst; (walk_at "eva"); (walk_at "bb")))
local macro_rules | `(tactic| walk_at "eva") => `(tactic| first
  | exact eda_nil
  | (apply eda_cons; (walk_at "ev"); (walk_at "eva")))
local macro_rules | `(tactic| walk_at "evo") => `(tactic| first
  | exact eok_none
  | (apply eok_some; walk_at "ev"))
local macro_rules | `(tactic| walk_at "bb") => `(tactic| first | rfl | assumption | (simp; done) | (simp; omega) | decide +kernel)
local macro_rules | `(tactic| walk_at "et") => `(tactic| first
  | exact tk_yes
  | (apply tk_andF; walk_at "et")
  | (apply tk_and; (walk_at "et"); (intro _; walk_at "et"))
  | (apply tk_orT; walk_at "et")
  | (apply tk_or; (walk_at "et"); (intro _; walk_at "et"))
  | (apply tk_notT; walk_at "et")
  | (apply tk_notF; walk_at "et")
  | (apply tk_not; walk_at "et")
  | (apply tk_v; walk_at "ev")
  | (apply tk_vB; walk_at "ev"))
local macro_rules | `(tactic| walk_at "if") => `(tactic| first
  | (apply pst_whenF; (walk_at "et"); (walk_at "bb"))
  | (apply pst_whenT; (walk_at "et"); (walk_at "bb")))
local macro_rules | `(tactic| walk_at "post") => `(tactic| first | assumption | exact ⟨_, _, rfl, rfl⟩ | exact ⟨_, _, _, _, rfl, by omega, by omega, rfl⟩ | exact ⟨_, _, _, 0, rfl, by omega, by omega, rfl⟩)
local macro_rules | `(tactic| walk_at "cc") => `(tactic| first | assumption | decide | omega | (refine ⟨?_, ?_⟩ <;> first | decide | omega) | (exact Or.inl (by constructor <;> omega)))

/-- what reading is to tell -/
def rdgD (dt d : Nat) (tx : Str) : PyData := match rdRows dt d 0 (rowsOf tx) with
  | some (.inr p) => if okP p = true then .tuple [.str "read", encP p] else .tuple [.str "program"]
  | some (.inl i) => .tuple [.str "text", .int (i : Int)]
  | none => .none
def spLRd (K : PySem.W.Frag) (dt d : Nat) : Sp := fun vs H Q _ => ∃ tx : Str, vs = [.str tx] ∧ txOk tx ∧ RowsOk dt d (rowsOf tx) ∧ ∀ v H', Ex H H' → Td K H' v (rdgD dt d tx) → Q v H'
section
variable {K : PySem.W.Frag} {σ : L2.St} {H : Hp} {te ta tb : TE} {ds es : List PyData}
theorem edl_catVL {n : Nat} {p : Addr} {xs : List V} (hs : σ[n]? = some (some (.ref p))) (hx : H p = some (.lst xs)) (ht : TdAll K H xs ds) (hb : EvDL K tb σ H es) (hl : ds.length + es.length ≤ 100000) : EvDL K (tOp rCat (tVar n) tb) σ H (ds ++ es) := fun H1 a Q q =>
  ⟨.ref p, hs, hb H1 a _ fun p' ys H3 hp' e3 hy ht' => ⟨p, p', xs, ys, rfl, rfl, (a.trans e3) _ _ hx, hy, by rw [ht'.length, ht.length]; exact sz_of (by omega), fun q2 hq => q q2 (xs ++ ys) _ (fresh_back e3 hq) (e3.trans (Ex.new hq)) upd_same (((ht.ex (a.trans e3)).append ht').ex (Ex.new hq))⟩⟩
end
theorem hereW_0 {ws : List Str} (h : ws ≠ []) : ws[0]? = some (hereW ws 0) := by
  cases ws with
  | nil => exact absurd rfl h
  | cons z r => rfl
theorem hereW_1 {ws : List Str} (h : ws ≠ []) : atI (ws.map PyData.str ++ [.str ""]) 1 = some (.str (hereW ws 1)) := by
  match ws, h with
  | [z], _ => rfl
  | z :: y :: r, _ =>
    show atI _ ((1 : Nat) : Int) = _
    exact atI_nat rfl
theorem w_m1 {σ : L2.St} {H : Hp} {Q : VK} {r : V → List V → Hp → VK → Prop} {to te : TE} (h : to σ H fun x H1 => (∃ a, x = .str a) ∧ te σ H1 fun y H2 => r x [y] H2 Q) : tM1 r to te σ H Q := h
section
variable {P : Program} {w : World} {K : PySem.W.Frag} {mg : Str → Option Value} {base : Heap} (T : Tx K mg)
include T
theorem ok_lsd {dt : Nat} (GF : Fn__law_is_figures T P w base CX0 1 (spFig K)) : ∀ d : Nat, Fn__law_step_at T P w base CX0 (dt + 3 + 2 * d) (spAt K (fun ws => rdSg ws dt d) encS)
  | 0 => fn_vac fun vs H Q E h => by
    obtain ⟨_, _, _, _, _, _, h, _⟩ := h
    simp [rdSg, rdS] at h
  | d + 1 => by
    have GT := ok_lta T GF dt
    have GS := ok_lsd (dt := dt) GF d
    exact ok_lsa T (lv := dt + 3 + 2 * d + 1) (l1 := dt + 1) (l2 := dt + 1 + 1) (l3 := dt + 3 + 2 * d + 1) (by omega) (by omega) (by omega) (by omega) GF GT (ok_ltsa T GT) (ok_lba T GS)
theorem ok_lrd {lv dt d : Nat} (h1 : 20 ≤ lv) (GF : Fn__law_is_figures T P w base CX0 1 (spFig K)) (GB : Fn__law_body_at T P w base CX0 lv (spAt K (fun ws => rdB ws dt d) encBd)) (GP : Fn__law_is_program T P w base CX0 20 (spF K pLP)) : Fn__law_reading T P w base CX0 (lv + 1) (spLRd K dt d) := by
  have G__law_is_figures := GF
  have G__law_body_at := GB
  have G__law_is_program := GP
  refine T.F__law_reading.ok sc__law_reading (fun vs H Q E h => by obtain ⟨_, rfl, _⟩ := h; rfl) fun cdv A outer s0 H vs Q E hr h => ?_
  obtain ⟨tx, rfl, hok, hrows, k⟩ := h
  obtain ⟨ho1, ho2, ho3⟩ := hok
  have hne := hrows.ne
  have hsm := fun p hp => hrows.sm (p := p) hp
  have hbd := hrows.b
  have hsz : tx.length + 2 ≤ sizeLine := Nat.le_trans (Nat.add_le_add_right ho1 2) (by decide)
  have kq : ∀ r, rdRows dt d 0 (rowsOf tx) = some r → ∀ v H', Ex H H' → Td K H' v (match r with
      | .inr p => if okP p = true then .tuple [.str "read", encP p] else .tuple [.str "program"]
      | .inl i => .tuple [.str "text", .int (i : Int)]) → Q v H' := fun r hr v H' e tv => k v H' e (by
    unfold rdgD
    rw [hr]
    cases r <;> exact tv)
  clear k
  refine ⟨_, (pss_cons (ps_set (i := 1) sc__law_reading.nd rfl (Or.inl rfl) (pe_lst pa_nil))
  (pss_cons (ps_set (i := 2) sc__law_reading.nd rfl (Or.inl rfl) (pe_split (pv 0) pe_str))
  (pss_cons (ps_for (passes_of rfl) rfl (pi_range1 rfl T.b_range (pa_cons (pe_callB (kc_len K) rfl T.b_len PySem.boot_len (pa_cons (pv 2) pa_nil)) pa_nil)) (pg_name (i := 3) sc__law_reading.nd rfl (Or.inl rfl))
    (pss_cons (ps_set (i := 4) sc__law_reading.nd rfl (Or.inl rfl) (pe_split (pe_ix (kix_list K) (pv 2) (pv 3) (fun _ _ => rfl)) pe_str))
    (pss_cons (ps_set (i := 5) sc__law_reading.nd rfl (Or.inl rfl) (pe_call G__law_body_at (hr.mono (by omega)) (by rfl) T.g__law_body_at T.k__law_body_at T.bd__law_body_at .nil pass0 (pa_cons (pv 4) (pa_cons pe_int pa_nil))))
    (pss_cons (ps_if (PW.pt (pw_or (pt_not (pt_val (pe_call G__law_is_figures (hr.mono (by omega)) (by rfl) T.g__law_is_figures T.k__law_is_figures T.bd__law_is_figures .nil pass0 (pa_cons (pe_ix (kix_list K) (pv 4) pe_int (fun _ _ => rfl)) pa_nil)))) (pw_or1 (pt_not (pt_val (pe_call G__law_is_figures (hr.mono (by omega)) (by rfl) T.g__law_is_figures T.k__law_is_figures T.bd__law_is_figures .nil pass0 (pa_cons (pe_ix (kix_list K) (pe_op op_cat (pv 4) (pe_lst (pa_cons pe_str pa_nil))) pe_int (fun _ _ => rfl)) pa_nil)))))))
      (pss_one (ps_ret (pe_tup (pa_cons pe_str (pa_cons (pv 3) pa_nil)))))
      pss_nil)
    (pss_cons (ps_if (PW.pt (pw_or (pt_cmp (pc_isN (pv 5)) rfl) (pw_or1 (pt_cmpR op_ne (pe_ix (kix_tup K) (pv 5) pe_int (fun _ _ => rfl)) (pe_callB (kc_len K) rfl T.b_len PySem.boot_len (pa_cons (pv 4) pa_nil)) (nomark _)))))
      (pss_one (ps_ret (pe_tup (pa_cons pe_str (pa_cons (pv 3) pa_nil)))))
      pss_nil)
    (pss_one (ps_expr (pe_bm PySem.F.plainAttrs_list PySem.F.slot_list_append PySem.F.type_list_append mt_append (pv 1) (pa_cons (pe_tup (pa_cons (pe_callTy call_int_str rfl T.b_int (by decide +kernel) (pa_cons (pe_ix (kix_list K) (pv 4) pe_int (fun _ _ => rfl)) pa_nil)) (pa_cons (pe_callTy call_int_str rfl T.b_int (by decide +kernel) (pa_cons (pe_ix (kix_list K) (pv 4) pe_int (fun _ _ => rfl)) pa_nil)) (pa_cons (pe_ix (kix_tup K) (pv 5) pe_int (fun _ _ => rfl)) pa_nil)))) pa_nil)))))))))
  (pss_one (ps_ret (pe_ifExp (pt_val (pe_call G__law_is_program (hr.mono (by omega)) (by rfl) T.g__law_is_program T.k__law_is_program T.bd__law_is_program .nil pass0 (pa_cons (pe_callTy (kc_tuple K) rfl T.b_tuple (by decide +kernel) (pa_cons (pv 1) pa_nil)) pa_nil))) (pe_tup (pa_cons pe_str (pa_cons (pe_callTy (kc_tuple K) rfl T.b_tuple (by decide +kernel) (pa_cons (pv 1) pa_nil)) pa_nil))) (pe_tup (pa_cons pe_str pa_nil)))))))), ?_⟩
  refine w_seq (w_asg (w_lst (w_nil ⟨Nat.zero_le _, fun fl hfl => ?_⟩)))
  have e1 : Ex H (upd H fl (.lst [])) := Ex.new hfl
  have hf1 : upd H fl (.lst []) fl = some (.lst []) := upd_same
  generalize upd H fl (.lst []) = H1 at *
  dsimp only
  refine w_seq (w_asg (w_v rfl ⟨⟨tx, rfl⟩, w_c ⟨tx, "\n", rfl, rfl, by decide +kernel, hsz, fun rl hrl => ?_⟩⟩))
  have e2 : Ex H1 (upd H1 rl (.lst ((Txt.split tx "\n").map V.str))) := Ex.new hrl
  have hr2 : upd H1 rl (.lst ((Txt.split tx "\n").map V.str)) rl = some (.lst ((Txt.split tx "\n").map V.str)) := upd_same
  have nrf : rl ≠ fl := fun e => by rw [e, hf1] at hrl; cases hrl
  have hf2 := e2 _ _ hf1
  have e02 := e1.trans e2
  generalize upd H1 rl (.lst ((Txt.split tx "\n").map V.str)) = H2 at *
  dsimp only
  generalize hL : Txt.split tx "\n" = L at *
  have hrw : rowsOf tx = L.map fun l => Txt.split l " " := by unfold rowsOf; rw [hL]
  generalize rowsOf tx = rows at *
  refine w_seq (w_forR (K := K) (n := L.length) (eda_cons (ed_is (ed_lenL (edr_var rfl (SqL.of hr2) (strs_td L))) (by rw [List.length_map])) eda_nil) (by omega) (fun i σ' H' => ∃ (u3 u4 u5 : Option V) (vs : List V) (p : List Wk), σ' = [some (.str tx), some (.ref fl), some (.ref rl), u3, u4, u5] ∧ Ex H H' ∧ H' rl = some (.lst (L.map V.str)) ∧ H' fl = some (.lst vs) ∧ TdAll K H' vs (p.map encW) ∧ p.length = i ∧ RwAt dt d rows i p) ?_ ?_ ?_)
  · intro H3 e3
    exact ⟨_, _, _, [], [], rfl, e02.trans e3, e3 _ _ hr2, e3 _ _ hf2, .nil, rfl, hne, fun j h => h, fun q h => h⟩
  · rintro i σ' H3 hi ⟨u3, u4, u5, vs, p, rfl, e3, hr3, hf3, tp3, hpl, RW⟩
    have hli : L[i]? = some L[i] := List.getElem?_eq_getElem hi
    have hz := ho3 _ (List.getElem_mem hi)
    have hri : rows[i]? = some (Txt.split L[i] " ") := by rw [hrw, List.getElem?_map, hli]; rfl
    obtain ⟨g1, g2, g3⟩ := RW.go hri
    have hbw := hbd _ (List.mem_of_getElem? hri)
    have hwne := split_sp_ne L[i]
    generalize hws : Txt.split L[i] " " = ws at *
    rw [rdL_here] at g1 g2 g3
    have hlsz : L[i].length + 2 ≤ sizeLine := Nat.le_trans (Nat.add_le_add_right hz.1 2) (by decide)
    dsimp only
    refine w_seq (w_asg (w_m1 (w_d (K := K) (d := .str L[i]) (ed_ixL (i := (i : Int)) (edr_var rfl (SqL.of hr3) (strs_td L)) (ed_var rfl (.int _)) (atI_nat (by rw [List.getElem?_map, hli]; rfl))) fun v H4 e4 tv => ?_)))
    cases tv
    refine ⟨⟨_, rfl⟩, w_c ⟨L[i], " ", rfl, rfl, by decide +kernel, hlsz, fun wl hwl => ?_⟩⟩
    rw [hws]
    have e5 : Ex H4 (upd H4 wl (.lst (ws.map V.str))) := Ex.new hwl
    have W5 : WsAt wl ws (upd H4 wl (.lst (ws.map V.str))) := ⟨upd_same, hz.2⟩
    have e45 := e4.trans e5
    have hr5 := e45 _ _ hr3
    have hf5 := e45 _ _ hf3
    have tp5 := tp3.ex e45
    have e05 := e3.trans e45
    generalize upd H4 wl (.lst (ws.map V.str)) = H5 at *
    dsimp only
    obtain ⟨rb, hrb⟩ : ∃ rb, rdB ws dt d 2 = some rb := by
      cases h : rdB ws dt d 2 with
      | some rb => exact ⟨rb, rfl⟩
      | none => exact absurd h (hbw.1 2)
    refine w_seq (w_asg (w_d (K := K) (ed_at (f := fun ws => rdB ws dt d) (enc := encBd) (n := 2) rfl W5 ed_ci hrb) fun tv H6 e6 tt => ?_))
    have W6 := W5.ex e6
    have hr6 := e6 _ _ hr5
    have hf6 := e6 _ _ hf5
    have tp6 := tp5.ex e6
    have e06 := e05.trans e6
    have h0 := W6.here 0
    have h1' := W6.here 1
    have ez : ∀ {H' : Hp}, WsAt wl ws H' → EvD K (tOp (rIxL K) (tVar 4) (tC (.int 0))) [some (.str tx), some (.ref fl), some (.ref rl), some (.int (i : Int)), some (.ref wl), some tv] H' (.str (hereW ws 0)) := fun hx => ed_ixL (i := 0) (edr_var rfl (SqL.of hx.hx) (strs_tdA _ ws)) ed_ci (show atI _ ((0 : Nat) : Int) = _ from atI_nat (by rw [List.getElem?_map, hereW_0 hwne]; rfl))
    have eo : ∀ {H' : Hp}, WsAt wl ws H' → EvD K (tOp (rIxL K) (tOp rCat (tVar 4) (tLst (tCons (tC (.str "")) tNil))) (tC (.int 1))) [some (.str tx), some (.ref fl), some (.ref rl), some (.int (i : Int)), some (.ref wl), some tv] H' (.str (hereW ws 1)) := fun hx => ed_ixL (i := 1) (EvDL.rd (edl_catVL rfl hx.hx (strs_tdA _ ws) (edl_lst (ds := [.str ""]) (eda_cons ed_cs eda_nil) (by simp)) (by simp only [List.length_map, List.length_singleton]; have := hz.2.1; omega))) ed_ci (hereW_1 hwne)
    dsimp only
    have bad : rdRows dt d 0 rows = some (.inl i) → ∀ H', Ex H6 H' → tRet (tTup (tCons (tC (.str "text")) (tCons (tVar 3) tNil))) { nx := fun x H' => Q V.non H', rt := Q } [some (.str tx), some (.ref fl), some (.ref rl), some (.int (i : Int)), some (.ref wl), some tv] H' := fun hb H' e' => w_ret (w_d (K := K) (ed_tup (ds := [.str "text", .int (i : Int)]) (eda_cons ed_cs (eda_cons (ed_var rfl (.int _)) eda_nil)) (by simp)) fun v H9 e9 tv => kq _ hb v H9 ((e06.trans e').trans e9) tv)
    cases hn0 : numOf (hereW ws 0) with
    | none =>
      rw [hn0] at g2
      have hfg := ed_fig (K := K) (E := fun _ _ _ => False) (ez W6) h0.2 h0.1
      rw [hn0] at hfg
      exact w_seq (w_ifs (w_t (K := K) (b := true) (tk_orT (tk_notF (tk_vB hfg))) fun H7 e7 => ifT rfl (bad (g2 rfl) H7 e7)))
    | some pp =>
      have hfg := ed_fig (K := K) (E := fun _ _ _ => False) (ez W6) h0.2 h0.1
      rw [hn0] at hfg
      cases hn1 : numOf (hereW ws 1) with
      | none =>
        rw [hn0, hn1] at g2
        have hfg1 := ed_fig (K := K) (E := fun _ _ _ => False) (eo W6) h1'.2 h1'.1
        rw [hn1] at hfg1
        exact w_seq (w_ifs (w_t (K := K) (b := true) (tk_is (tk_or (tk_notT (tk_vB hfg)) fun _ => tk_notF (tk_vB hfg1)) rfl) fun H7 e7 => ifT rfl (bad (g2 rfl) H7 e7)))
      | some oo =>
        rw [hn0, hn1] at g1 g2 g3
        dsimp only at g1 g2 g3
        have hfg1 := ed_fig (K := K) (E := fun _ _ _ => False) (eo W6) h1'.2 h1'.1
        rw [hn1] at hfg1
        refine w_seq (w_ifs (w_t (K := K) (b := false) (tk_is (tk_or (tk_notT (tk_vB hfg)) fun _ => tk_notT (tk_vB hfg1)) rfl) fun H7 e7 => ifF rfl (w_next ?_)))
        have W7 := W6.ex e7
        dsimp only
        cases rb with
        | none =>
          rw [bindR_b hrb] at g2
          exact w_seq (w_ifs (w_t (K := K) (b := true) (tk_orT (tk_vB (ed_isN (ed_var rfl (tt.ex e7))))) fun H8 e8 => ifT rfl (bad (g2 rfl) H8 (e7.trans e8))))
        | some bm =>
          obtain ⟨b, m⟩ := bm
          rw [bindR_of hrb] at g2 g3
          have tt : Td K H6 tv (.tuple [encBd b, .int (m : Int)]) := tt
          refine w_seq (w_ifs (w_t (K := K) (b := !decide (m = ws.length)) (tk_is (tk_or (tk_vB (ed_isN (ed_var rfl (tt.ex e7)))) fun _ => tk_v (ed_nei (ed_ixT (i := 1) (ed_var rfl (tt.ex e7)) ed_ci rfl) (ed_lenL (edr_var rfl (SqL.of W7.hx) (strs_tdA _ ws))))) (by simp [noneD]; omega)) fun H8 e8 => ?_))
          by_cases hm : m = ws.length
          · rw [if_pos hm] at g3
            refine ifF (by simp [hm]) (w_next ?_)
            have W8 := W7.ex e8
            have e68 := e7.trans e8
            have hf8 := e68 _ _ hf6
            have tp8 := tp6.ex e68
            have hvl := tp8.length
            rw [List.length_map] at hvl
            obtain ⟨i1, i2⟩ := numOf_int hn0
            obtain ⟨j1, j2⟩ := numOf_int hn1
            have hw1 : EvD K (tOp (rIxL K) (tVar 4) (tC (.int 1))) [some (.str tx), some (.ref fl), some (.ref rl), some (.int (i : Int)), some (.ref wl), some tv] H8 (.str (hereW ws 1)) := by
              have hne1 : hereW ws 1 ≠ "" := fun e => by rw [e, (by decide +kernel : numOf "" = none)] at hn1; cases hn1
              exact ed_ixL (i := 1) (edr_var rfl (SqL.of W8.hx) (strs_tdA _ ws)) ed_ci (show atI _ ((1 : Nat) : Int) = _ from atI_nat (by rw [List.getElem?_map, hereW_at rfl hne1]; rfl))
            dsimp only
            refine w_app rfl hf8 (w_d (K := K) (d := encW ⟨pp, oo, b⟩) (ed_tup (ds := [.int (pp : Int), .int (oo : Int), encBd b]) (eda_cons (ed_intS (ez W8) i1 i2) (eda_cons (ed_intS hw1 j1 j2) (eda_cons (ed_ixT (i := 0) (ed_var rfl (tt.ex e68)) ed_ci atI_zero) eda_nil))) (by simp)) fun q H9 e9 tq => ?_)
            have hf9 := e9 _ _ hf8
            have kq' : Keep K H9 (upd H9 fl (.lst (vs ++ [q]))) := Keep.upd hf9 True.intro
            refine ⟨vs, hf9, sz_lt (by omega), _, _, _, vs ++ [q], p ++ [⟨pp, oo, b⟩], rfl, Ex.mut ((e06.trans e68).trans e9) hfl, ?_, upd_same, ?_, by rw [List.length_append]; simp only [List.length_cons, List.length_nil]; omega, g3 ⟨pp, oo, b⟩ m rfl⟩
            · rw [upd_ne nrf]
              exact (e68.trans e9) _ _ hr6
            · rw [List.map_append]
              exact ((tp8.ex e9).kp kq').snoc (tq.kp kq')
          · rw [if_neg hm] at g2
            exact ifT (by simp [hm]) (bad (g2 rfl) H8 (e7.trans e8))
  · rintro σ' H3 ⟨u3, u4, u5, vs, p, rfl, e3, hr3, hf3, tp3, hpl, RW⟩
    have hrl0 : rows.length = L.length := by rw [hrw, List.length_map]
    have hp : rdRows dt d 0 rows = some (.inr p) := by
      have := RW.2.2 [] (by rw [List.drop_of_length_le (by omega)]; rfl)
      rw [List.append_nil] at this
      exact this
    have sm := hsm p hp
    dsimp only
    have etup : ∀ {H' : Hp}, Ex H3 H' → EvD K (tCB (rTupS K) (tCons (tVar 1) tNil)) [some (.str tx), some (.ref fl), some (.ref rl), u3, u4, u5] H' (encP p) := fun e' => ed_tupL (edr_var rfl (SqL.of (e' _ _ hf3)) (tp3.ex e'))
    have epr : EvD K (tCall (spF K pLP) [] (fun _ _ _ => False) (tCons (tCB (rTupS K) (tCons (tVar 1) tNil)) tNil)) [some (.str tx), some (.ref fl), some (.ref rl), u3, u4, u5] H3 (.bool (okP p)) := by
      rw [← isPrD_toD p]
      refine ed_call (eda_cons (etup (Ex.refl _)) eda_nil) ⟨p.map toD, ?_, by rw [List.length_map]; exact sm.1, fun w hw => ?_, rfl⟩
      · rw [encWD_toD]
        rfl
      · obtain ⟨x, hx, rfl⟩ := List.mem_map.mp hw
        have := sm.2 x hx
        exact ⟨by simpa [toD, PyData.canLay0] using encB_lay x.body, by simp only [toD, smD, encB_length, Bool.and_eq_true, decide_eq_true_eq]; exact ⟨this.1, smD_B _ this.2⟩⟩
    cases hb : okP p with
    | true =>
      rw [hb] at epr
      refine w_ret (w_d (K := K) (ed_ifT (tk_vB epr) (ed_tup (ds := [.str "read", encP p]) (eda_cons ed_cs (eda_cons (etup (Ex.refl _)) eda_nil)) (by simp))) fun v H4 e4 tv => kq _ hp v H4 (e3.trans e4) ?_)
      dsimp only
      rw [if_pos hb]
      exact tv
    | false =>
      rw [hb] at epr
      refine w_ret (w_d (K := K) (ed_ifF (tk_vB epr) (ed_tup (ds := [.str "program"]) (eda_cons ed_cs eda_nil) (by simp))) fun v H4 e4 tv => kq _ hp v H4 (e3.trans e4) ?_)
      dsimp only
      rw [if_neg (by rw [hb]; decide)]
      exact tv
end
end Hw

set_option maxRecDepth 100000
set_option maxHeartbeats 4000000
/-! TL: what the program tells of a text, or refuses -/
namespace Hw
open PySem PySem.Spec PyProof.Rows L2 Evl
local macro_rules | `(tactic| walk_at "dd") => `(tactic| first | rfl | decide | (simp; done) | omega)
local macro_rules | `(tactic| walk_at "td") => `(tactic| first | assumption | exact Td.int _ | exact Td.bl _ | exact Td.str _ | exact Td.non | exact Td.tup (by assumption) (by assumption))
local macro_rules | `(tactic| walk_at "ev") => `(tactic| first
  | exact ed_ci | exact ed_cs | exact ed_cb | exact ed_cn
  | (apply ed_cg; assumption)
  | (apply ed_var; (rfl); (walk_at "td"))
  | (apply ed_ixT; (walk_at "ev"); (walk_at "ev"); (first | rfl | assumption))
  | (apply ed_rowI; (rfl); (assumption); (walk_at "ev"); (rfl))
  | (apply ed_ixL; (apply EvDL.rd; walk_at "edl"); (walk_at "ev"); (rfl))
  | (apply ed_intb; (walk_at "ev"))
  | (apply ed_len; walk_at "ev")
  | (apply ed_lenV; (apply ev_rowR; (rfl); (assumption); (walk_at "ev"); (rfl)); (assumption))
  | (apply ed_Ii; (walk_at "ev"); (walk_at "ev"); (walk_at "cc"))
  | (apply ed_isi; (walk_at "ev"); (rfl))
  | (apply ed_I0i; (walk_at "ev"); (walk_at "ev"))
  | (apply ed_I0b; (walk_at "ev"); (walk_at "ev"))
  | (apply ed_eqi; (walk_at "ev"); (walk_at "ev"))
  | (apply ed_nei; (walk_at "ev"); (walk_at "ev"))
  | (apply ed_andF; walk_at "ev")
  | (apply ed_andV; (walk_at "ev"); (intro _; walk_at "ev"))
  | (apply ed_orT; walk_at "ev")
  | (apply ed_orV; (walk_at "ev"); (intro _; walk_at "ev"))
  | (apply ed_notT; walk_at "ev")
  | (apply ed_notF; walk_at "ev")
  | (apply ed_notV; walk_at "ev")
  | (apply ed_chain; (walk_at "ev"); (walk_at "ev"); (intro _; walk_at "ev"))
  | (apply ed_eqS; (walk_at "ev"); (walk_at "ev"); (walk_at "bb"); (walk_at "bb"))
  | (apply ed_neS; (walk_at "ev"); (walk_at "ev"); (walk_at "bb"); (walk_at "bb"))
  | (apply ed_inT; (walk_at "ev"); (walk_at "ev"); (rfl); (rfl))
  | (apply ed_niT; (walk_at "ev"); (walk_at "ev"); (rfl); (rfl))
  | (apply ed_tup; (walk_at "eva"); (walk_at "bb"))
  | (apply ed_sl; (walk_at "ev"); (walk_at "evo"); (walk_at "evo"))
  | (apply ed_eqN; (apply EvDL.rd; walk_at "edl"); (walk_at "edl"); (walk_at "bb"))
  | (apply ed_neN; (apply EvDL.rd; walk_at "edl"); (walk_at "edl"); (walk_at "bb"))
  | (apply ed_ixL; (apply edr_var; (rfl); (assumption); (assumption)); (walk_at "ev"); (first | rfl | assumption))
  | (apply ed_lenL; (apply edr_var; (rfl); (assumption); (assumption)))
  | (apply ed_call; (walk_at "eva"); (walk_at "post")))
local macro_rules | `(tactic| walk_at "edl") => `(tactic| first
  | assumption
  | (apply edl_lst; (walk_at "eva"); (walk_at "bb")))
local macro_rules | `(tactic| walk_at "eva") => `(tactic| first
  | exact eda_nil
  | (apply eda_cons; (walk_at "ev"); (walk_at "eva")))
local macro_rules | `(tactic| walk_at "evo") => `(tactic| first
  | exact eok_none
  | (apply eok_some; walk_at "ev"))
local macro_rules | `(tactic| walk_at "bb") => `(tactic| first | rfl | assumption | (simp; done) | (simp; omega) | decide +kernel)
local macro_rules | `(tactic| walk_at "et") => `(tactic| first
  | exact tk_yes
  | (apply tk_andF; walk_at "et")
  | (apply tk_and; (walk_at "et"); (intro _; walk_at "et"))
  | (apply tk_orT; walk_at "et")
  | (apply tk_or; (walk_at "et"); (intro _; walk_at "et"))
  | (apply tk_notT; walk_at "et")
  | (apply tk_notF; walk_at "et")
  | (apply tk_not; walk_at "et")
  | (apply tk_v; walk_at "ev")
  | (apply tk_vB; walk_at "ev"))
local macro_rules | `(tactic| walk_at "if") => `(tactic| first
  | (apply pst_whenF; (walk_at "et"); (walk_at "bb"))
  | (apply pst_whenT; (walk_at "et"); (walk_at "bb")))
local macro_rules | `(tactic| walk_at "post") => `(tactic| first | assumption | exact ⟨_, _, rfl, rfl⟩ | exact ⟨_, _, _, _, rfl, by omega, by omega, rfl⟩ | exact ⟨_, _, _, 0, rfl, by omega, by omega, rfl⟩)
local macro_rules | `(tactic| walk_at "cc") => `(tactic| first | assumption | decide | omega | (refine ⟨?_, ?_⟩ <;> first | decide | omega) | (exact Or.inl (by constructor <;> omega)))

def spTold (K : PySem.W.Frag) (dt d : Nat) : Sp := fun vs H Q _ => ∃ tx : Str, vs = [.str tx] ∧ txOk tx ∧ RowsOk dt d (rowsOf tx) ∧ ∀ v H', Ex H H' → Td K H' v (rdgD dt d tx) → Q v H'
/-- isinstance(e, C) -/
def tIsC (r : List V → Hp → VK → Prop) (c : V) : TE := tCB r (tCons (tVar 1) (tCons (tC c) tNil))
def tBl3 (a b c : Bool) : TE := tLst (tCons (tC (.bl a)) (tCons (tC (.bl b)) (tCons (tC (.bl c)) tNil)))
/-- the suite's reading -/
def tTold (K : PySem.W.Frag) (r : List V → Hp → VK → Prop) (row : TE) : TS :=
  tSeq (tAsg (tOrV (tIsC r (.ref (He.ga K "BadCells"))) (tOrV (tIsC r (.ref (He.ga K "BadWays"))) (tNotV (tIsC r (.ty "ValueError"))))) (gName 2))
    (tSeq (tAsg (tLst (tCons (tIsC r (.ref (He.ga K "BadText"))) (tCons (tIsC r (.ref (He.ga K "BadProgram"))) (tCons (tVar 2) tNil)))) (gName 3))
      (tSeq (tIfS (tTest (tOp (rEqM K) (tVar 3) (tBl3 true false false))) (tRet (tTup (tCons (tC (.str "text")) (tCons row tNil)))) tNext)
        (tRet (tIf (tTest (tOp (rEqM K) (tVar 3) (tBl3 false true false))) (tTup (tCons (tC (.str "program")) tNil)) (tTup (tCons (tC (.str "other")) tNil))))))
theorem suite_or {X : Cx} {p q : Prop} {b : List Stmt} {t u : TS} (h1 : p → PSs X b t) (h2 : q → PSs X b u) : PSs X b (fun D σ H => (p ∧ t D σ H) ∨ (q ∧ u D σ H)) := ⟨fun pins s σ H D I h' => h'.elim (fun h => (h1 h.1).run pins s σ H D I h.2) fun h => (h2 h.1).run pins s σ H D I h.2⟩
section
variable {K : PySem.W.Frag} {σ : L2.St} {H : Hp} {a dd C D : Addr} {d : Option Addr} {fs : List (Str × V)} {b : Bool}
theorem ed_isF (hs : σ[1]? = some (some (.ref a))) (hd : d = some dd) (hx : H dd = some (.xd fs)) (hk : PySem.W.kitOne K (.ref D) (.ref C) = some b) : EvD K (tIsC (rIsF K D a d) (.ref C)) σ H (.bool b) := fun H1 e Q q =>
  show tCons (tVar 1) (tCons (tC (.ref C)) tNil) σ H1 (fun xs H2 => rIsF K D a d xs H2 Q) from w_cons (w_v hs (w_cons (w_c (w_nil ⟨.ref C, .ref C, b, dd, fs, rfl, (fun u h => by cases h; rfl), hk, hd, e _ _ hx, q _ H1 (Ex.refl _) (.bl _)⟩))))
theorem ed_isFT {n : String} (hs : σ[1]? = some (some (.ref a))) (hd : d = some dd) (hx : H dd = some (.xd fs)) (hk : PySem.W.kitOne K (.ref D) (.type n) = some b) : EvD K (tIsC (rIsF K D a d) (.ty n)) σ H (.bool b) := fun H1 e Q q =>
  show tCons (tVar 1) (tCons (tC (.ty n)) tNil) σ H1 (fun xs H2 => rIsF K D a d xs H2 Q) from w_cons (w_v hs (w_cons (w_c (w_nil ⟨.ty n, .type n, b, dd, fs, rfl, (fun u h => by cases h; rfl), hk, hd, e _ _ hx, q _ H1 (Ex.refl _) (.bl _)⟩))))
theorem ed_isE (hs : σ[1]? = some (some (.ref a))) (hk : PySem.W.kitOne K (.ref D) (.ref C) = some b) : EvD K (tIsC (rIsE K D a) (.ref C)) σ H (.bool b) := fun H1 e Q q =>
  show tCons (tVar 1) (tCons (tC (.ref C)) tNil) σ H1 (fun xs H2 => rIsE K D a xs H2 Q) from w_cons (w_v hs (w_cons (w_c (w_nil ⟨.ref C, .ref C, b, rfl, (fun u h => by cases h; rfl), hk, q _ H1 (Ex.refl _) (.bl _)⟩))))
theorem ed_isET {n : String} (hs : σ[1]? = some (some (.ref a))) (hk : PySem.W.kitOne K (.ref D) (.type n) = some b) : EvD K (tIsC (rIsE K D a) (.ty n)) σ H (.bool b) := fun H1 e Q q =>
  show tCons (tVar 1) (tCons (tC (.ty n)) tNil) σ H1 (fun xs H2 => rIsE K D a xs H2 Q) from w_cons (w_v hs (w_cons (w_c (w_nil ⟨.ty n, .type n, b, rfl, (fun u h => by cases h; rfl), hk, q _ H1 (Ex.refl _) (.bl _)⟩))))
theorem edl_bl3 {x y z : Bool} : EvDL K (tBl3 x y z) σ H [.bool x, .bool y, .bool z] := edl_lst (eda_cons ed_cb (eda_cons ed_cb (eda_cons ed_cb eda_nil))) (by simp)
end
section
variable {P : Program} {w : World} {K : PySem.W.Frag} {mg : Str → Option Value} {base : Heap} (T : Tx K mg)
include T
theorem excP : ExcC K (He.ga K "BadProgram") := ⟨T.hg_BadProgram, T.hk_BadProgram, T.be_BadProgram, T.hd_BadProgram, T.ha_BadProgram, T.hn_BadProgram, T.ht_BadProgram, T.hm_BadProgram⟩
theorem excT : ExcC K (He.ga K "BadText") := ⟨T.hg_BadText, T.hk_BadText, T.be_BadText, T.hd_BadText, T.ha_BadText, T.hn_BadText, T.ht_BadText, T.hm_BadText⟩
theorem ok_told {lv dt d : Nat} (GR : Fn_read T P w base (L2.CX P w) lv (spRead K dt d)) : Fn__law_told T P w base CX0 (lv + 1) (spTold K dt d) := by
  refine T.F__law_told.ok sc__law_told (fun vs H Q E h => by obtain ⟨_, rfl, _⟩ := h; rfl) fun cdv A outer s0 H vs Q E hr h => ?_
  obtain ⟨tx, rfl, hok, hrows, k⟩ := h
  refine ⟨_, pss_one (ps_try_as (i := 1) (tb := fun W => tRet (tTup (tCons (tC (.str "read")) (tCons (tCallS (spRead K dt d) (fun σ cls d H => W cls d σ H) (tCons (tVar 0) tNil)) tNil))))
      (ts := fun a cls d D σ H => ((cls = .ref (He.ga K "BadText") ∧ ∃ dd, d = some dd) ∧ tTold K (rIsF K (He.ga K "BadText") a d) (tXf a cls d (He.ga K "BadText") "row" (tVar 1)) D σ H) ∨ ((cls = .ref (He.ga K "BadProgram") ∧ d = none) ∧ tTold K (rIsE K (He.ga K "BadProgram") a) (tXf a cls d (He.ga K "BadText") "row" (tVar 1)) D σ H))
      (Wout := fun _ _ _ _ => False) rfl rfl sc__law_told.nd rfl rfl ⟨rfl, by decide, .inl T.g_HandError⟩ takes0
      (fun W pn xe tk _ => pss_one (ps_ret (by exact (pe_tup (pa_cons pe_str (pa_cons (pe_callS GR (hr.mono (by omega)) (by rfl) T.g_read T.k_read T.bd_read (fun σ => passAt tk σ) (by exact (pa_cons (pv 0) pa_nil))) pa_nil))))))
      (fun a oe cls d pn hz hf => suite_or (fun he => by
        obtain ⟨e1, _⟩ := he
        subst e1
        exact (pss_cons (ps_set (i := 2) sc__law_told.nd rfl (Or.inl rfl) (pe_or (pe_callB (call_isF (excT T) hz hf) rfl T.b_isinstance (by decide +kernel) (pa_cons (pv 1) (pa_cons (pe_glob (v := .ref _) rfl T.g_BadCells rfl) pa_nil))) (pe_or (pe_callB (call_isF (excT T) hz hf) rfl T.b_isinstance (by decide +kernel) (pa_cons (pv 1) (pa_cons (pe_glob (v := .ref _) rfl T.g_BadWays rfl) pa_nil))) (pe_one (pe_not (pe_callB (call_isF (excT T) hz hf) rfl T.b_isinstance (by decide +kernel) (pa_cons (pv 1) (pa_cons (pe_bltn (v := .ty "ValueError") rfl T.b_ValueError (by decide +kernel) rfl) pa_nil))))))))
          (pss_cons (ps_set (i := 3) sc__law_told.nd rfl (Or.inl rfl) (pe_lst (pa_cons (pe_callB (call_isF (excT T) hz hf) rfl T.b_isinstance (by decide +kernel) (pa_cons (pv 1) (pa_cons (pe_glob (v := .ref _) rfl T.g_BadText rfl) pa_nil))) (pa_cons (pe_callB (call_isF (excT T) hz hf) rfl T.b_isinstance (by decide +kernel) (pa_cons (pv 1) (pa_cons (pe_glob (v := .ref _) rfl T.g_BadProgram rfl) pa_nil))) (pa_cons (pv 2) pa_nil)))))
          (pss_cons (ps_if (pt_cmpR (kop_eq K hr.units) (pv 3) (pe_lst (pa_cons pe_bl (pa_cons pe_bl (pa_cons pe_bl pa_nil)))) (nomark _))
            (pss_one (ps_ret (pe_tup (pa_cons pe_str (pa_cons (pe_xf (xfB_ok T.xf_BadText) T.on_BadText_row hz hf (pv 1)) pa_nil)))))
            pss_nil)
          (pss_one (ps_ret (pe_ifExp (pt_cmpR (kop_eq K hr.units) (pv 3) (pe_lst (pa_cons pe_bl (pa_cons pe_bl (pa_cons pe_bl pa_nil)))) (nomark _)) (pe_tup (pa_cons pe_str pa_nil)) (pe_tup (pa_cons pe_str pa_nil)))))))))
        (fun he => by
        obtain ⟨e1, e2⟩ := he
        subst e1
        subst e2
        exact (pss_cons (ps_set (i := 2) sc__law_told.nd rfl (Or.inl rfl) (pe_or (pe_callB (call_isE (excP T) hz hf) rfl T.b_isinstance (by decide +kernel) (pa_cons (pv 1) (pa_cons (pe_glob (v := .ref _) rfl T.g_BadCells rfl) pa_nil))) (pe_or (pe_callB (call_isE (excP T) hz hf) rfl T.b_isinstance (by decide +kernel) (pa_cons (pv 1) (pa_cons (pe_glob (v := .ref _) rfl T.g_BadWays rfl) pa_nil))) (pe_one (pe_not (pe_callB (call_isE (excP T) hz hf) rfl T.b_isinstance (by decide +kernel) (pa_cons (pv 1) (pa_cons (pe_bltn (v := .ty "ValueError") rfl T.b_ValueError (by decide +kernel) rfl) pa_nil))))))))
          (pss_cons (ps_set (i := 3) sc__law_told.nd rfl (Or.inl rfl) (pe_lst (pa_cons (pe_callB (call_isE (excP T) hz hf) rfl T.b_isinstance (by decide +kernel) (pa_cons (pv 1) (pa_cons (pe_glob (v := .ref _) rfl T.g_BadText rfl) pa_nil))) (pa_cons (pe_callB (call_isE (excP T) hz hf) rfl T.b_isinstance (by decide +kernel) (pa_cons (pv 1) (pa_cons (pe_glob (v := .ref _) rfl T.g_BadProgram rfl) pa_nil))) (pa_cons (pv 2) pa_nil)))))
          (pss_cons (ps_if (pt_cmpR (kop_eq K hr.units) (pv 3) (pe_lst (pa_cons pe_bl (pa_cons pe_bl (pa_cons pe_bl pa_nil)))) (nomark _))
            (pss_one (ps_ret (pe_tup (pa_cons pe_str (pa_cons (pe_xf (xfB_ok T.xf_BadText) T.on_BadText_row hz hf (pv 1)) pa_nil)))))
            pss_nil)
          (pss_one (ps_ret (pe_ifExp (pt_cmpR (kop_eq K hr.units) (pv 3) (pe_lst (pa_cons pe_bl (pa_cons pe_bl (pa_cons pe_bl pa_nil)))) (nomark _)) (pe_tup (pa_cons pe_str pa_nil)) (pe_tup (pa_cons pe_str pa_nil))))))))))), ?_⟩
  unfold rdgD at k
  have hne := hrows.ne
  refine w_ret (w_tup (w_cons (w_c (w_cons (w_cons (w_v rfl (w_nil ⟨tx, rfl, hok, hne, fun i hi => ?_, fun p hp => ?_⟩)))))))
  · intro H1 dx e1 hdx
    rw [hi] at k
    dsimp only at k
    refine ⟨true, T.em_BadText_HandError, fun _ a ha => .inl ⟨⟨rfl, dx, rfl⟩, ?_⟩, fun q => nomatch q⟩
    have e2 : Ex H (upd H1 dx (.xd [("row", .int (i : Int))])) := e1.trans (Ex.new hdx)
    have hx2 : upd H1 dx (.xd [("row", .int (i : Int))]) dx = some (.xd [("row", .int (i : Int))]) := upd_same
    generalize upd H1 dx (.xd [("row", .int (i : Int))]) = H2 at *
    refine w_seq (w_asg (w_d (K := K) (d := .bool false) (ed_orV (ed_isF rfl rfl hx2 T.ki_BadText_BadCells) fun _ => ed_orV (ed_isF rfl rfl hx2 T.ki_BadText_BadWays) fun _ => ed_notV (ed_isFT rfl rfl hx2 T.iv_BadText)) fun v H3 e3 tv => ?_))
    cases tv
    have hx3 := e3 _ _ hx2
    dsimp only
    refine w_seq (w_asg (w_dl (K := K) (edl_lst (ds := [.bool true, .bool false, .bool false]) (eda_cons (ed_isF rfl rfl hx3 T.ki_BadText_BadText) (eda_cons (ed_isF rfl rfl hx3 T.ki_BadText_BadProgram) (eda_cons (ed_var rfl (.bl _)) eda_nil))) (by simp)) fun lp xs H4 hlp e4 hl4 ta => ?_))
    have hx4 := e4 _ _ hx3
    dsimp only
    refine w_seq (w_ifs (w_t (K := K) (b := true) (tk_is (tk_v (ed_eqLL (edr_var rfl (SqL.of hl4) ta) edl_bl3 (by decide +kernel) (by decide +kernel) (by decide))) (by decide +kernel)) fun H5 e5 => ifT rfl ?_))
    have hx5 := e5 _ _ hx4
    refine w_ret (w_tup (w_cons (w_c (w_cons ⟨.ref a, rfl, rfl, rfl, dx, _, .int (i : Int), rfl, hx5, rfl, w_nil ⟨by show 2 ≤ sizeLine; decide, fun p hp => ?_⟩⟩))))
    exact k _ _ ((((e2.trans e3).trans e4).trans e5).trans (Ex.new hp)) (td_new hp (tdall2 (.str _) (.int _)))
  · rw [hp] at k
    dsimp only at k
    refine ⟨hrows.sm hp, fun ho v H1 e1 tv => w_nil ⟨by show 2 ≤ sizeLine; decide, fun q hq => ?_⟩, fun ho H1 e1 => ⟨true, T.em_BadProgram_HandError, fun _ a ha => .inr ⟨⟨rfl, rfl⟩, ?_⟩, fun q => nomatch q⟩⟩
    · rw [if_pos ho] at k
      exact k _ _ (e1.trans (Ex.new hq)) (td_new hq (tdall2 (.str _) tv))
    · rw [if_neg (by rw [ho]; decide)] at k
      refine w_seq (w_asg (w_d (K := K) (d := .bool false) (ed_orV (ed_isE rfl T.ki_BadProgram_BadCells) fun _ => ed_orV (ed_isE rfl T.ki_BadProgram_BadWays) fun _ => ed_notV (ed_isET rfl T.iv_BadProgram)) fun v H3 e3 tv => ?_))
      cases tv
      dsimp only
      refine w_seq (w_asg (w_dl (K := K) (edl_lst (ds := [.bool false, .bool true, .bool false]) (eda_cons (ed_isE rfl T.ki_BadProgram_BadText) (eda_cons (ed_isE rfl T.ki_BadProgram_BadProgram) (eda_cons (ed_var rfl (.bl _)) eda_nil))) (by simp)) fun lp xs H4 hlp e4 hl4 ta => ?_))
      dsimp only
      refine w_seq (w_ifs (w_t (K := K) (b := false) (tk_is (tk_v (ed_eqLL (edr_var rfl (SqL.of hl4) ta) edl_bl3 (by decide +kernel) (by decide +kernel) (by decide))) (by decide +kernel)) fun H5 e5 => ifF rfl (w_next ?_)))
      have hl5 := e5 _ _ hl4
      have ta5 := ta.ex e5
      dsimp only
      refine w_ret (w_d (K := K) (ed_ifT (tk_is (tk_v (ed_eqLL (edr_var rfl (SqL.of hl5) ta5) edl_bl3 (by decide +kernel) (by decide +kernel) (by decide))) (by decide +kernel)) (ed_tup (ds := [.str "program"]) (eda_cons ed_cs eda_nil) (by simp))) fun v H6 e6 tv => k v H6 ((((e1.trans e3).trans e4).trans e5).trans e6) tv)
end
end Hw

set_option maxRecDepth 100000
set_option maxHeartbeats 4000000
/-! CH: a text that is changed -/
namespace Hw
open PySem PySem.Spec PyProof.Rows L2 Evl
local macro_rules | `(tactic| walk_at "dd") => `(tactic| first | rfl | decide | (simp; done) | omega)
local macro_rules | `(tactic| walk_at "td") => `(tactic| first | assumption | exact Td.int _ | exact Td.bl _ | exact Td.str _ | exact Td.non | exact Td.tup (by assumption) (by assumption))
local macro_rules | `(tactic| walk_at "ev") => `(tactic| first
  | exact ed_ci | exact ed_cs | exact ed_cb | exact ed_cn
  | (apply ed_cg; assumption)
  | (apply ed_var; (rfl); (walk_at "td"))
  | (apply ed_ixT; (walk_at "ev"); (walk_at "ev"); (first | rfl | assumption))
  | (apply ed_rowI; (rfl); (assumption); (walk_at "ev"); (rfl))
  | (apply ed_ixL; (apply EvDL.rd; walk_at "edl"); (walk_at "ev"); (rfl))
  | (apply ed_intb; (walk_at "ev"))
  | (apply ed_len; walk_at "ev")
  | (apply ed_lenV; (apply ev_rowR; (rfl); (assumption); (walk_at "ev"); (rfl)); (assumption))
  | (apply ed_Ii; (walk_at "ev"); (walk_at "ev"); (walk_at "cc"))
  | (apply ed_isi; (walk_at "ev"); (rfl))
  | (apply ed_I0i; (walk_at "ev"); (walk_at "ev"))
  | (apply ed_I0b; (walk_at "ev"); (walk_at "ev"))
  | (apply ed_eqi; (walk_at "ev"); (walk_at "ev"))
  | (apply ed_nei; (walk_at "ev"); (walk_at "ev"))
  | (apply ed_andF; walk_at "ev")
  | (apply ed_andV; (walk_at "ev"); (intro _; walk_at "ev"))
  | (apply ed_orT; walk_at "ev")
  | (apply ed_orV; (walk_at "ev"); (intro _; walk_at "ev"))
  | (apply ed_notT; walk_at "ev")
  | (apply ed_notF; walk_at "ev")
  | (apply ed_notV; walk_at "ev")
  | (apply ed_chain; (walk_at "ev"); (walk_at "ev"); (intro _; walk_at "ev"))
  | (apply ed_eqS; (walk_at "ev"); (walk_at "ev"); (walk_at "bb"); (walk_at "bb"))
  | (apply ed_neS; (walk_at "ev"); (walk_at "ev"); (walk_at "bb"); (walk_at "bb"))
  | (apply ed_inT; (walk_at "ev"); (walk_at "ev"); (rfl); (rfl))
  | (apply ed_niT; (walk_at "ev"); (walk_at "ev"); (rfl); (rfl))
  | (apply ed_tup; (walk_at "eva"); (walk_at "bb"))
  | (apply ed_sl; (walk_at "ev"); (walk_at "evo"); (walk_at "evo"))
  | (apply ed_eqN; (apply EvDL.rd; walk_at "edl"); (walk_at "edl"); (walk_at "bb"))
  | (apply ed_neN; (apply EvDL.rd; walk_at "edl"); (walk_at "edl"); (walk_at "bb"))
  | (apply ed_ixL; (apply edr_var; (rfl); (assumption); (assumption)); (walk_at "ev"); (first | rfl | assumption))
  | (apply ed_lenL; (apply edr_var; (rfl); (assumption); (assumption)))
  | (apply ed_call; (walk_at "eva"); (walk_at "post")))
local macro_rules | `(tactic| walk_at "edl") => `(tactic| first
  | assumption
  | (apply edl_lst; (walk_at "eva"); (walk_at "bb")))
local macro_rules | `(tactic| walk_at "eva") => `(tactic| first
  | exact eda_nil
  | (apply eda_cons; (walk_at "ev"); (walk_at "eva")))
local macro_rules | `(tactic| walk_at "evo") => `(tactic| first
  | exact eok_none
  | (apply eok_some; walk_at "ev"))
local macro_rules | `(tactic| walk_at "bb") => `(tactic| first | rfl | assumption | (simp; done) | (simp; omega) | decide +kernel)
local macro_rules | `(tactic| walk_at "et") => `(tactic| first
  | exact tk_yes
  | (apply tk_andF; walk_at "et")
  | (apply tk_and; (walk_at "et"); (intro _; walk_at "et"))
  | (apply tk_orT; walk_at "et")
  | (apply tk_or; (walk_at "et"); (intro _; walk_at "et"))
  | (apply tk_notT; walk_at "et")
  | (apply tk_notF; walk_at "et")
  | (apply tk_not; walk_at "et")
  | (apply tk_v; walk_at "ev")
  | (apply tk_vB; walk_at "ev"))
local macro_rules | `(tactic| walk_at "if") => `(tactic| first
  | (apply pst_whenF; (walk_at "et"); (walk_at "bb"))
  | (apply pst_whenT; (walk_at "et"); (walk_at "bb")))
local macro_rules | `(tactic| walk_at "post") => `(tactic| first | assumption | exact ⟨_, _, rfl, rfl⟩ | exact ⟨_, _, _, _, rfl, by omega, by omega, rfl⟩ | exact ⟨_, _, _, 0, rfl, by omega, by omega, rfl⟩)
local macro_rules | `(tactic| walk_at "cc") => `(tactic| first | assumption | decide | omega | (refine ⟨?_, ?_⟩ <;> first | decide | omega) | (exact Or.inl (by constructor <;> omega)))

theorem tl_cutPre (z : Str) (k : Nat) : TL.tl (cutS z none (some (k : Int))) = (TL.tl z).take k := by
  show ((z.cps.toList.drop (HT.sIx z.length 0 none)).take (HT.sIx z.length z.length (some (k : Int)) - HT.sIx z.length 0 none)) = z.cps.toList.take k
  rw [HT.sIx_none, HT.sIx_nat, List.drop_zero, Nat.sub_zero]
  have hl : z.cps.toList.length = z.length := by simp [Str.length]
  rcases Nat.le_total k z.length with h | h
  · rw [Nat.min_eq_left h]
  · rw [Nat.min_eq_right h, List.take_of_length_le (by omega), List.take_of_length_le (by omega)]
theorem tl_cutSuf (z : Str) (k : Nat) : TL.tl (cutS z (some (k : Int)) none) = (TL.tl z).drop k := by
  show ((z.cps.toList.drop (HT.sIx z.length 0 (some (k : Int)))).take (HT.sIx z.length z.length none - HT.sIx z.length 0 (some (k : Int)))) = z.cps.toList.drop k
  rw [HT.sIx_none, HT.sIx_nat]
  have hl : z.cps.toList.length = z.length := by simp [Str.length]
  rcases Nat.le_total k z.length with h | h
  · rw [Nat.min_eq_left h, List.take_of_length_le (by rw [List.length_drop]; omega)]
  · rw [Nat.min_eq_right h, Nat.sub_self, List.take_zero, List.drop_of_length_le (by omega)]
theorem cut_mid {ws : List Str} {i : Nat} : cutD (ws.map PyData.str) (some (i : Int)) (some ((i + 1 : Nat) : Int)) = ((ws.drop i).take 1).map PyData.str := by
  rw [cut_one]
  cases h : ws[i]? with
  | none =>
    have := List.getElem?_eq_none_iff.mp h
    rw [List.drop_of_length_le this]
    rfl
  | some z =>
    obtain ⟨hl, e⟩ := List.getElem?_eq_some_iff.mp h
    rw [List.drop_eq_getElem_cons hl, e]
    rfl
section
variable {K : PySem.W.Frag} {σ : L2.St} {H H' : Hp} {te ti tj ta tb : TE} {n k : Nat} {p : Addr} {ws : List Str} {z y : Str} {Q : VK}
theorem ew_take (hs : σ[n]? = some (some (.ref p))) (hx : H p = some (.lst (ws.map V.str))) (hi : EvD K ti σ H (.int (k : Int))) : EvW K (tSl (rSlL K) (tVar n) tNoPart (tPart ti)) σ H (ws.take k) :=
  edl_is (edl_slL (edr_var hs (SqL.of hx) (strs_tdA _ ws)) eok_none (eok_some hi)) (by rw [cutD_pre, List.map_take])
theorem ew_drop (hs : σ[n]? = some (some (.ref p))) (hx : H p = some (.lst (ws.map V.str))) (hi : EvD K ti σ H (.int (k : Int))) : EvW K (tSl (rSlL K) (tVar n) (tPart ti) tNoPart) σ H (ws.drop k) :=
  edl_is (edl_slL (edr_var hs (SqL.of hx) (strs_tdA _ ws)) (eok_some hi) eok_none) (by rw [cutD_suf, List.map_drop])
theorem ew_mid (hs : σ[n]? = some (some (.ref p))) (hx : H p = some (.lst (ws.map V.str))) (hi : EvD K ti σ H (.int (k : Int))) (hj : EvD K tj σ H (.int ((k + 1 : Nat) : Int))) : EvW K (tSl (rSlL K) (tVar n) (tPart ti) (tPart tj)) σ H ((ws.drop k).take 1) :=
  edl_is (edl_slL (edr_var hs (SqL.of hx) (strs_tdA _ ws)) (eok_some hi) (eok_some hj)) (by rw [cut_mid])
theorem ew_rev (hs : σ[n]? = some (some (.ref p))) (hx : H p = some (.lst (ws.map V.str))) : EvW K (tRevL K (tVar n)) σ H ws.reverse := fun H1 e1 Q q =>
  ⟨.ref p, hs, p, _, rfl, SqL.of (e1 _ _ hx), fun q' hq => q q' _ _ hq (Ex.new hq) upd_same (by rw [← List.map_reverse]; exact strs_tdA _ _)⟩
theorem ed_sPre (h : EvD K te σ H (.str z)) (hi : EvD K ti σ H (.int (k : Int))) (hz : z.length ≤ 1000000) : EvD K (tSl rSlS te tNoPart (tPart ti)) σ H (.str (cutS z none (some (k : Int)))) := fun H1 e1 Q q =>
  h.sv H1 e1 _ fun H2 e2 => eok_none (K := K) H2 (e1.trans e2) _ fun H3 e3 => eok_some (K := K) hi H3 ((e1.trans e2).trans e3) _ fun H4 e4 => ⟨z, rfl, Nat.le_trans hz (by decide), q _ H4 ((e2.trans e3).trans e4) (.str _)⟩
theorem ed_sSuf (h : EvD K te σ H (.str z)) (hi : EvD K ti σ H (.int (k : Int))) (hz : z.length ≤ 1000000) : EvD K (tSl rSlS te (tPart ti) tNoPart) σ H (.str (cutS z (some (k : Int)) none)) := fun H1 e1 Q q =>
  h.sv H1 e1 _ fun H2 e2 => eok_some (K := K) hi H2 (e1.trans e2) _ fun H3 e3 => eok_none (K := K) H3 ((e1.trans e2).trans e3) _ fun H4 e4 => ⟨z, rfl, Nat.le_trans hz (by decide), q _ H4 ((e2.trans e3).trans e4) (.str _)⟩
theorem ed_sCat (ha : EvD K ta σ H (.str z)) (hb : EvD K tb σ H (.str y)) (hl : z.length + y.length ≤ 4000000) : EvD K (tOp (fun x y H Q => ∃ i j, x = .str i ∧ y = .str j ∧ i.length + j.length ≤ sizeLine ∧ Q (.str (i ++ j)) H) ta tb) σ H (.str (z ++ y)) := fun H1 e1 Q q =>
  ha.sv H1 e1 _ fun H2 e2 => hb.sv H2 (e1.trans e2) _ fun H3 e3 => ⟨z, y, rfl, rfl, Nat.le_trans hl (by decide), q _ H3 (e2.trans e3) (.str _)⟩
theorem ed_lenS2 (h : EvD K te σ H (.str z)) (hz : z.length ≤ 1000000) : EvD K (tCB (fun xs H Q => ∃ z, xs = [.str z] ∧ z.length ≤ sizeLine ∧ Q (.int z.length) H) (tCons te tNil)) σ H (.int (z.length : Int)) := fun H1 e1 Q q =>
  h.sv H1 e1 _ fun H2 e2 => ⟨z, rfl, Nat.le_trans hz (by decide), q _ H2 e2 (.int _)⟩
end
theorem join_tl (ys : List Str) : TL.tl (Txt.join "\n" ys) = TL.joinL [10] (ys.map TL.tl) := by
  rw [TL.join_eq, TL.tl_join, tl_sp.2]
theorem joinS_tl (ys : List Str) : TL.tl (Txt.join " " ys) = TL.joinL [32] (ys.map TL.tl) := by
  rw [TL.join_eq, TL.tl_join, tl_sp.1]
theorem wlen_strs (ys : List Str) : (ys.map (·.length)).sum + ys.length = wlen (ys.map TL.tl) := by
  induction ys with
  | nil => rfl
  | cons z r ih =>
    rw [List.map_cons, List.map_cons, wlen_cons, ← ih, TL.len_tl z]
    simp only [List.sum_cons, List.length_cons]
    omega
theorem sum_len1 (ys : List Str) (a : Str) (ha : a.length = 1) : (ys.map (·.length)).sum + ys.length * a.length = wlen (ys.map TL.tl) := by
  rw [ha, Nat.mul_one]
  exact wlen_strs ys
def signsS : Str := "0123 ().+setayifclopwnr"
theorem signs_ok : ∀ k < 23, ∃ c, signsS.cps.toList[k]? = some c ∧ c < 200 ∧ c ≠ 10 := by
  have h : ∀ k < 23, ∃ c, c < 200 ∧ (signsS.cps.toList[k]? = some c ∧ c ≠ 10) := by decide +kernel
  intro k hk
  obtain ⟨c, h1, h2, h3⟩ := h k hk
  exact ⟨c, h2, h1, h3⟩
def oddS : List Str := ["", "0", "1", "3", "00", "12", "100", "(", ")", ".", "+", "cell", "own", "par", "set", "say", "if", "call"]
theorem odd_ok : ∀ k < 18, ∃ z, oddS[k]? = some z ∧ (TL.tl z).length ≤ 4 ∧ ∀ c ∈ TL.tl z, c < 200 ∧ c ≠ 10 ∧ c ≠ 32 := by
  have h : ∀ z ∈ oddS, (TL.tl z).length ≤ 4 ∧ ∀ c ∈ TL.tl z, c < 200 ∧ c ≠ 10 ∧ c ≠ 32 := by decide +kernel
  intro k hk
  have hl : k < oddS.length := hk
  exact ⟨oddS[k], List.getElem?_eq_getElem hl, h _ (List.getElem_mem hl)⟩
def spChg (K : PySem.W.Frag) : Sp := fun vs H Q _ => ∃ (r s : Addr) (ns : List Int) (tx : Str) (A E L R : Nat), vs = [.ref r, .str tx] ∧ RowAt K s ns H r ∧ ns.length ≤ 63 ∧ TxB A E L R (TL.tl tx) ∧ R ≤ 16 ∧ L ≤ 10000 ∧
  ∀ tx' H', Chg (TL.tl tx) (TL.tl tx') → Fr [r] H H' → RowAt K s ns H' r → Q (.str tx') H'
/-- sizes of a text -/
theorem TxB.len {A E L R : Nat} {l : List Nat} (h : TxB A E L R l) : wlen (spL 10 l) ≤ R * (L + 1) := by
  have hb : ∀ rs : List (List Nat), (∀ r ∈ rs, r.length ≤ L) → wlen rs ≤ rs.length * (L + 1) := by
    intro rs
    induction rs with
    | nil => intro _; simp [wlen]
    | cons r t ih =>
      intro hr
      rw [wlen_cons, List.length_cons, Nat.succ_mul]
      have := ih fun x hx => hr x (List.mem_cons_of_mem _ hx)
      have := hr r List.mem_cons_self
      omega
  exact Nat.le_trans (hb _ fun r hr => (h.r r hr).l) (Nat.mul_le_mul_right _ h.n)
/-- where words are changed -/
def Wst (K : PySem.W.Frag) (r s lp op : Addr) (ns : List Int) (tx sg : Str) (way at_ kk j : Nat) (L W : List Str) (H : Hp) (i : Nat) (σ' : L2.St) (H' : Hp) : Prop := ∃ (wq : Addr) (W' : List Str) (u10 u11 : Option V), σ' = [some (.ref r), some (.str tx), some (.int (way : Int)), some (.int (at_ : Int)), some (.str sg), some (.ref lp), some (.int (kk : Int)), some (.ref wq), some (.int (j : Int)), some (.ref op), u10, u11] ∧
  Fr [r] H H' ∧ RowAt K s ns H' r ∧ H' lp = some (.lst (L.map V.str)) ∧ H' wq = some (.lst (W'.map V.str)) ∧ H' op = some (.lst (oddS.map V.str)) ∧ wq ≠ r ∧ (i < way → W' = W) ∧ WChg (W.map TL.tl) (W'.map TL.tl)
section
variable {P : Program} {w : World} {K : PySem.W.Frag} {mg : Str → Option Value} {base : Heap} (T : Tx K mg)
include T
theorem ok_chg (GT : Fn__law_taken T P w base CX0 1 (spTaken K)) : Fn__law_changed T P w base CX0 2 (spChg K) := by
  have G__law_taken := GT
  refine T.F__law_changed.ok sc__law_changed (fun vs H Q E h => by obtain ⟨_, _, _, _, _, _, _, _, rfl, _⟩ := h; rfl) fun cdv A outer s0 H vs Q E hr h => ?_
  obtain ⟨r, s, ns, tx, bA, bE, bL, bR, rfl, hR, hn, hB, hR16, hL, k⟩ := h
  have hwl : wlen (spL 10 (TL.tl tx)) ≤ 160016 := Nat.le_trans hB.len (Nat.le_trans (Nat.mul_le_mul hR16 (by omega : bL + 1 ≤ 10001)) (by decide))
  have htl : tx.length + 1 ≤ 160016 := by rw [TL.len_tl tx, ← wlen_spL 10]; exact hwl
  have hrows := split_nl tx
  have hsz : tx.length + 2 ≤ sizeLine := Nat.le_trans (by omega : tx.length + 2 ≤ 200000) (by decide)
  refine ⟨_, (pss_cons (ps_set (i := 2) sc__law_changed.nd rfl (Or.inl rfl) (pe_call G__law_taken (hr.mono (by omega)) (by rfl) T.g__law_taken T.k__law_taken T.bd__law_taken .nil pass0 (pa_cons (pv 0) (pa_cons pe_int pa_nil))))
  (pss_cons (ps_set (i := 3) sc__law_changed.nd rfl (Or.inl rfl) (pe_call G__law_taken (hr.mono (by omega)) (by rfl) T.g__law_taken T.k__law_taken T.bd__law_taken .nil pass0 (pa_cons (pv 0) (pa_cons (pe_op op_add (pe_callB call_len_str rfl T.b_len PySem.boot_len (pa_cons (pv 1) pa_nil)) pe_int) pa_nil))))
  (pss_cons (ps_set (i := 4) sc__law_changed.nd rfl (Or.inl rfl) (pe_ix ix_str pe_str (pe_call G__law_taken (hr.mono (by omega)) (by rfl) T.g__law_taken T.k__law_taken T.bd__law_taken .nil pass0 (pa_cons (pv 0) (pa_cons pe_int pa_nil))) (fun _ _ => rfl)))
  (pss_cons (ps_if (pt_cmpR op_lt (pv 2) pe_int (nomark _))
    (pss_one (ps_ret (pe_op op_add_str (pe_op op_add_str (pe_slice sl_str (pv 1) po_none (po_some (pv 3))) (pe_ix (kix_list K) (pe_lst (pa_cons (pv 4) (pa_cons pe_str (pa_cons (pv 4) pa_nil)))) (pv 2) (fun _ _ => rfl))) (pe_slice sl_str (pv 1) (po_some (pe_op op_add (pv 3) (pe_callTy kc_int rfl T.b_int (by decide +kernel) (pa_cons (pe_cmpR op_gt (pv 2) pe_int (nomark _)) pa_nil)))) po_none))))
    pss_nil)
  (pss_cons (ps_set (i := 5) sc__law_changed.nd rfl (Or.inl rfl) (pe_split (pv 1) pe_str))
  (pss_cons (ps_set (i := 6) sc__law_changed.nd rfl (Or.inl rfl) (pe_call G__law_taken (hr.mono (by omega)) (by rfl) T.g__law_taken T.k__law_taken T.bd__law_taken .nil pass0 (pa_cons (pv 0) (pa_cons (pe_callB (kc_len K) rfl T.b_len PySem.boot_len (pa_cons (pv 5) pa_nil)) pa_nil))))
  (pss_cons (ps_if (pt_cmpR op_eq (pv 2) pe_int (nomark _))
    (pss_one (ps_ret (pe_join pe_str (pe_ix (kix_list K) (pe_lst (pa_cons (pe_op op_cat (pe_slice (ksl_list K) (pv 5) po_none (po_some (pv 6))) (pe_slice (ksl_list K) (pv 5) (po_some (pe_op op_add (pv 6) pe_int)) po_none)) (pa_cons (pe_op op_cat (pe_slice (ksl_list K) (pv 5) po_none (po_some (pe_op op_add (pv 6) pe_int))) (pe_slice (ksl_list K) (pv 5) (po_some (pv 6)) po_none)) (pa_cons (pe_revL (pv 5)) pa_nil)))) (pe_call G__law_taken (hr.mono (by omega)) (by rfl) T.g__law_taken T.k__law_taken T.bd__law_taken .nil pass0 (pa_cons (pv 0) (pa_cons pe_int pa_nil))) (fun _ _ => rfl)))))
    pss_nil)
  (pss_cons (ps_set (i := 7) sc__law_changed.nd rfl (Or.inl rfl) (pe_split (pe_ix (kix_list K) (pv 5) (pv 6) (fun _ _ => rfl)) pe_str))
  (pss_cons (ps_set (i := 8) sc__law_changed.nd rfl (Or.inl rfl) (pe_call G__law_taken (hr.mono (by omega)) (by rfl) T.g__law_taken T.k__law_taken T.bd__law_taken .nil pass0 (pa_cons (pv 0) (pa_cons (pe_callB (kc_len K) rfl T.b_len PySem.boot_len (pa_cons (pv 7) pa_nil)) pa_nil))))
  (pss_cons (ps_set (i := 9) sc__law_changed.nd rfl (Or.inl rfl) (pe_lst (pa_cons pe_str (pa_cons pe_str (pa_cons pe_str (pa_cons pe_str (pa_cons pe_str (pa_cons pe_str (pa_cons pe_str (pa_cons pe_str (pa_cons pe_str (pa_cons pe_str (pa_cons pe_str (pa_cons pe_str (pa_cons pe_str (pa_cons pe_str (pa_cons pe_str (pa_cons pe_str (pa_cons pe_str (pa_cons pe_str pa_nil))))))))))))))))))))
  (pss_cons (ps_if (pt_cmpR op_eq (pv 2) pe_int (nomark _))
    (pss_one (ps_set (i := 7) sc__law_changed.nd rfl (Or.inl rfl) (pe_op op_cat (pe_slice (ksl_list K) (pv 7) po_none (po_some (pv 8))) (pe_slice (ksl_list K) (pv 7) (po_some (pe_op op_add (pv 8) pe_int)) po_none))))
    pss_nil)
  (pss_cons (ps_if (pt_cmpR op_eq (pv 2) pe_int (nomark _))
    (pss_one (ps_set (i := 7) sc__law_changed.nd rfl (Or.inl rfl) (pe_op op_cat (pe_slice (ksl_list K) (pv 7) po_none (po_some (pe_op op_add (pv 8) pe_int))) (pe_slice (ksl_list K) (pv 7) (po_some (pv 8)) po_none))))
    pss_nil)
  (pss_cons (ps_if (pt_cmpR op_eq (pv 2) pe_int (nomark _))
    (pss_cons (ps_set (i := 10) sc__law_changed.nd rfl (Or.inl rfl) (pe_op op_cat (pe_slice (ksl_list K) (pv 7) po_none (po_some (pv 8))) (pe_slice (ksl_list K) (pv 7) (po_some (pe_op op_add (pv 8) pe_int)) po_none)))
    (pss_cons (ps_set (i := 11) sc__law_changed.nd rfl (Or.inl rfl) (pe_call G__law_taken (hr.mono (by omega)) (by rfl) T.g__law_taken T.k__law_taken T.bd__law_taken .nil pass0 (pa_cons (pv 0) (pa_cons (pe_op op_add (pe_callB (kc_len K) rfl T.b_len PySem.boot_len (pa_cons (pv 10) pa_nil)) pe_int) pa_nil))))
    (pss_one (ps_set (i := 7) sc__law_changed.nd rfl (Or.inl rfl) (pe_op op_cat (pe_op op_cat (pe_slice (ksl_list K) (pv 10) po_none (po_some (pv 11))) (pe_slice (ksl_list K) (pv 7) (po_some (pv 8)) (po_some (pe_op op_add (pv 8) pe_int)))) (pe_slice (ksl_list K) (pv 10) (po_some (pv 11)) po_none))))))
    pss_nil)
  (pss_cons (ps_if (pt_cmpR op_gt (pv 2) pe_int (nomark _))
    (pss_one (ps_set (i := 7) sc__law_changed.nd rfl (Or.inl rfl) (pe_op op_cat (pe_op op_cat (pe_slice (ksl_list K) (pv 7) po_none (po_some (pv 8))) (pe_lst (pa_cons (pe_ix (kix_list K) (pv 9) (pe_call G__law_taken (hr.mono (by omega)) (by rfl) T.g__law_taken T.k__law_taken T.bd__law_taken .nil pass0 (pa_cons (pv 0) (pa_cons pe_int pa_nil))) (fun _ _ => rfl)) pa_nil))) (pe_slice (ksl_list K) (pv 7) (po_some (pe_op op_add (pv 8) pe_int)) po_none))))
    pss_nil)
  (pss_one (ps_ret (pe_join pe_str (pe_op op_cat (pe_op op_cat (pe_slice (ksl_list K) (pv 5) po_none (po_some (pv 6))) (pe_lst (pa_cons (pe_join pe_str (pv 7)) pa_nil))) (pe_slice (ksl_list K) (pv 5) (po_some (pe_op op_add (pv 6) pe_int)) po_none))))))))))))))))))), ?_⟩
  refine w_seq (w_asg (w_taken rfl hR hn (m := 10) ed_ci (by decide) (by decide) fun way H1 hway f1 R1 => ?_))
  dsimp only
  refine w_seq (w_asg (w_taken rfl R1 hn (m := ((tx.length + 1 : Nat) : Int)) (ed_succ (k := 1) (ed_lenS2 (ed_var rfl (.str _)) (by omega))) (by omega) (by omega) fun at_ H2 hat f2 R2 => ?_))
  have f02 := f1.trans f2
  dsimp only
  refine w_seq (w_asg (w_op (w_c (w_taken rfl R2 hn (m := 23) ed_ci (by decide) (by decide) fun sk H3 hsk f3 R3 => ?_))))
  have f03 := f02.trans f3
  obtain ⟨sc, hsc, hsc2⟩ := signs_ok sk (by omega)
  refine ⟨signsS, (sk : Int), sc, rfl, rfl, by decide +kernel, atI_nat hsc, ?_⟩
  dsimp only
  have wayN : way < 10 := by omega
  refine w_seq (w_ifs (w_t (K := K) (b := decide ((way : Int) < 3)) (tk_v (ed_I0b (ed_var rfl (.int _)) ed_ci)) fun H4 e4 => ?_))
  have R4 := R3.ex e4
  have f04 := f03.trans (Fr.of e4)
  by_cases h3 : way < 3
  · refine ifT (by simp; omega) ?_
    have key : ∀ (d : Nat) (mid : Str), atI [PyData.str ⟨#[sc]⟩, .str "", .str ⟨#[sc]⟩] (way : Int) = some (.str mid) → (if decide ((way : Int) > 0) then (1 : Int) else 0) = (d : Int) → (TL.tl mid).length ≤ 1 → (∀ c ∈ TL.tl mid, c < 200 ∧ c ≠ 10) → mid.length ≤ 1 →
        tRet (tOp (fun x y H Q => ∃ i j, x = .str i ∧ y = .str j ∧ i.length + j.length ≤ sizeLine ∧ Q (.str (i ++ j)) H) (tOp (fun x y H Q => ∃ i j, x = .str i ∧ y = .str j ∧ i.length + j.length ≤ sizeLine ∧ Q (.str (i ++ j)) H) (tSl rSlS (tVar 1) tNoPart (tPart (tVar 3))) (tOp (rIxL K) (tLst (tCons (tVar 4) (tCons (tC (.str "")) (tCons (tVar 4) tNil)))) (tVar 2)))
          (tSl rSlS (tVar 1) (tPart (tOp (rI0 fun i j => .int (i + j)) (tVar 3) (tCB rInt1 (tCons (tOp (rI0 fun i j => .bl (decide (i > j))) (tVar 2) (tC (.int 0))) tNil)))) tNoPart)) { nx := fun x H' => Q V.non H', rt := Q } [some (.ref r), some (.str tx), some (.int (way : Int)), some (.int (at_ : Int)), some (.str ⟨#[sc]⟩), none, none, none, none, none, none, none] H4 := fun d mid hmid hd hm1 hm2 hm3 => by
      refine w_ret (w_d (K := K) (ed_sCat (ed_sCat (ed_sPre (ed_var rfl (.str _)) (ed_var rfl (.int _)) (by omega)) (ed_ixL (EvDL.rd (edl_lst (eda_cons (ed_var rfl (.str _)) (eda_cons ed_cs (eda_cons (ed_var rfl (.str _)) eda_nil))) (by simp))) (ed_var rfl (.int _)) hmid) ?_) (ed_sSuf (k := at_ + d) (ed_var rfl (.str _)) (ed_is (ed_I0i (ed_var rfl (.int _)) (ed_intb (ed_I0b (ed_var rfl (.int _)) ed_ci))) (by rw [hd]; simp)) (by omega)) ?_) fun v H5 e5 tv => ?_)
      · have := cutS_length tx none (some (at_ : Int))
        omega
      · have h1 := cutS_length tx none (some (at_ : Int))
        have h2 := cutS_length tx (some ((at_ + d : Nat) : Int)) none
        have h3 : (cutS tx none (some (at_ : Int)) ++ mid).length = (cutS tx none (some (at_ : Int))).length + mid.length := by
          rw [TL.len_tl, TL.tl_append, List.length_append, ← TL.len_tl, ← TL.len_tl]
        omega
      · cases tv
        refine k _ H5 ?_ (f04.trans (Fr.of e5)) (R4.ex e5)
        rw [TL.tl_append, TL.tl_append, tl_cutPre, tl_cutSuf]
        exact .sign at_ d (TL.tl mid) hm1 hm2
    have hs1 : (TL.tl (⟨#[sc]⟩ : Str)).length ≤ 1 := by simp [TL.tl]
    have hs2 : ∀ c ∈ TL.tl (⟨#[sc]⟩ : Str), c < 200 ∧ c ≠ 10 := fun c hc => by
      have : c = sc := by simpa [TL.tl] using hc
      rw [this]
      exact hsc2
    match way, h3 with
    | 0, _ => exact key 0 ⟨#[sc]⟩ rfl rfl hs1 hs2 (by simp [Str.length])
    | 1, _ => exact key 1 "" rfl rfl (by decide +kernel) (by decide +kernel) (by decide +kernel)
    | 2, _ => exact key 1 ⟨#[sc]⟩ rfl rfl hs1 hs2 (by simp [Str.length])
  · refine ifF (by simp; omega) (w_next ?_)
    dsimp only
    refine w_seq (w_asg (w_m1 (w_v rfl ⟨⟨tx, rfl⟩, w_c ⟨tx, "\n", rfl, rfl, by decide +kernel, hsz, fun lp hlp => ?_⟩⟩)))
    have e5 : Ex H4 (upd H4 lp (.lst ((Txt.split tx "\n").map V.str))) := Ex.new hlp
    have hl5 : upd H4 lp (.lst ((Txt.split tx "\n").map V.str)) lp = some (.lst ((Txt.split tx "\n").map V.str)) := upd_same
    have R5 := R4.ex e5
    have nlr : lp ≠ r := fun e => by
      obtain ⟨u, hu, _⟩ := R4.mu
      rw [e, hu] at hlp
      cases hlp
    have f05 := f04.trans (Fr.of e5)
    have hlne := split_nl_ne tx
    generalize hG : Txt.split tx "\n" = L at *
    generalize upd H4 lp (.lst (L.map V.str)) = H5 at *
    have hLl : L.length ≤ 16 := by
      have := congrArg List.length hrows
      rw [List.length_map] at this
      have := hB.n
      omega
    have hLp : 1 ≤ L.length := List.length_pos_iff.mpr hlne
    dsimp only
    refine w_seq (w_asg (w_taken rfl R5 hn (m := (L.length : Int)) (ed_is (ed_lenL (edr_var rfl (SqL.of hl5) (strs_td L))) (by rw [List.length_map])) (by omega) (by omega) fun kk H6 hkk f6 R6 => ?_))
    have hl6 : H6 lp = some (.lst (L.map V.str)) := f6 _ _ (by simpa using nlr) hl5
    have f06 := f05.trans f6
    have hkl : kk < L.length := by omega
    dsimp only
    have wl10 : wlen (L.map TL.tl) ≤ 160016 := by rw [hrows]; exact hwl
    refine w_seq (w_ifs (w_t (K := K) (b := decide ((way : Int) = 3)) (tk_v (ed_eqi (ed_var rfl (.int _)) ed_ci)) fun H7 e7 => ?_))
    have R7 := R6.ex e7
    have hl7 := e7 _ _ hl6
    have f07 := f06.trans (Fr.of e7)
    by_cases h33 : way = 3
    · refine ifT (by simp [h33]) ?_
      have hi1 : EvD K (tOp (rI0 fun i j => .int (i + j)) (tVar 6) (tC (.int 1))) [some (.ref r), some (.str tx), some (.int (way : Int)), some (.int (at_ : Int)), some (.str ⟨#[sc]⟩), some (.ref lp), some (.int (kk : Int)), none, none, none, none, none] H7 (.int ((kk + 1 : Nat) : Int)) := ed_succ (k := 1) (ed_var rfl (.int _))
      refine w_ret (w_m1 (w_c ⟨⟨_, rfl⟩, w_op (w_lst (w_cons (w_wd (K := K) (ws := L.take kk ++ L.drop (kk + 1)) (ew_cat (ew_take rfl hl7 (ed_var rfl (.int _))) (ew_drop rfl hl7 hi1) (by rw [List.length_take, List.length_drop]; omega)) fun pa H8 hpa e8 h8 => w_cons (w_wd (K := K) (ws := L.take (kk + 1) ++ L.drop kk) (EvDL.mono e8 (ew_cat (ew_take rfl hl7 hi1) (ew_drop rfl hl7 (ed_var rfl (.int _))) (by rw [List.length_take, List.length_drop]; omega))) fun pb H9 hpb e9 h9 => w_cons (w_wd (K := K) (ws := L.reverse) (EvDL.mono (e8.trans e9) (ew_rev rfl hl7)) fun pc H10 hpc e10 h10 => w_nil ⟨by show 3 ≤ sizeLine; decide, fun q hq => ?_⟩)))))⟩))
      have e710 := (e8.trans e9).trans e10
      have eq := Ex.new (o := .lst [.ref pa, .ref pb, .ref pc]) hq
      have hq1 : upd H10 q (.lst [.ref pa, .ref pb, .ref pc]) q = some (.lst [.ref pa, .ref pb, .ref pc]) := upd_same
      have ha1 := eq _ _ ((e9.trans e10) _ _ h8)
      have hb1 := eq _ _ (e10 _ _ h9)
      have hc1 := eq _ _ h10
      have R11 := R7.ex (e710.trans eq)
      generalize upd H10 q (.lst [.ref pa, .ref pb, .ref pc]) = H11 at *
      have nr : ∀ x, H7 x = none → x ≠ r := fun x hx e => by
        obtain ⟨u, hu, _⟩ := R7.mu
        rw [e, hu] at hx
        cases hx
      have na := nr pa hpa
      have nb := nr pb (fresh_back e8 hpb)
      have nc := nr pc (fresh_back (e8.trans e9) hpc)
      have nq := nr q (fresh_back e710 hq)
      refine w_taken rfl R11 hn (m := 3) ed_ci (by decide) (by decide) fun t H12 ht f12 R12 => ?_
      have g := fun x (o : HO) (hx : x ≠ r) (ho : H11 x = some o) => f12 x o (by simpa using hx) ho
      have fin : ∀ (px : Addr) (ys : List Str), H12 px = some (.lst (ys.map V.str)) → wlen (ys.map TL.tl) ≤ 400000 → ys.length ≤ 2 * L.length → (∀ z ∈ ys, z ∈ L) → ∃ a p, ∃ zs : List Str, V.str "\n" = .str a ∧ [V.ref px] = [.ref p] ∧ (SqL K H12 p (zs.map V.str) ∨ SqT K H12 p (zs.map V.str)) ∧ (zs.map (·.length)).sum + zs.length * a.length ≤ 16777216 ∧ Q (.str (Txt.join a zs)) H12 := fun px ys hx hw hl hm => by
        refine ⟨_, px, ys, rfl, rfl, .inl (SqL.of hx), by rw [sum_len1 _ _ (by decide +kernel)]; omega, k _ H12 ?_ (((f07.trans (Fr.of (e710.trans eq)))).trans f12) R12⟩
        rw [join_tl]
        refine .rows _ ?_ fun z hz => ?_
        · rw [← hrows, List.length_map, List.length_map]
          exact hl
        · obtain ⟨y, hy, rfl⟩ := List.mem_map.mp hz
          rw [← hrows]
          exact List.mem_map_of_mem (hm y hy)
      have wtk : ∀ m, wlen ((L.take m).map TL.tl) ≤ 160016 := fun m => by rw [List.map_take]; exact Nat.le_trans (wlen_take _ _) wl10
      have wdr : ∀ m, wlen ((L.drop m).map TL.tl) ≤ 160016 := fun m => by rw [List.map_drop]; exact Nat.le_trans (wlen_drop _ _) wl10
      have three : t = 0 ∨ t = 1 ∨ t = 2 := by omega
      rcases three with rfl | rfl | rfl
      · refine ⟨q, _, 0, .ref pa, rfl, rfl, SqL.of (g _ _ nq hq1), rfl, fin pa _ (g _ _ na ha1) ?_ ?_ fun z hz => ?_⟩
        · rw [List.map_append, wlen_app]
          have := wtk kk
          have := wdr (kk + 1)
          omega
        · rw [List.length_append, List.length_take, List.length_drop]
          omega
        · rcases List.mem_append.mp hz with hz | hz
          · exact List.mem_of_mem_take hz
          · exact List.mem_of_mem_drop hz
      · refine ⟨q, _, 1, .ref pb, rfl, rfl, SqL.of (g _ _ nq hq1), rfl, fin pb _ (g _ _ nb hb1) ?_ ?_ fun z hz => ?_⟩
        · rw [List.map_append, wlen_app]
          have := wtk (kk + 1)
          have := wdr kk
          omega
        · rw [List.length_append, List.length_take, List.length_drop]
          omega
        · rcases List.mem_append.mp hz with hz | hz
          · exact List.mem_of_mem_take hz
          · exact List.mem_of_mem_drop hz
      · refine ⟨q, _, 2, .ref pc, rfl, rfl, SqL.of (g _ _ nq hq1), rfl, fin pc _ (g _ _ nc hc1) ?_ ?_ fun z hz => by simpa using hz⟩
        · have : wlen (L.reverse.map TL.tl) = wlen (L.map TL.tl) := by
            unfold wlen
            rw [List.map_reverse, List.map_reverse, List.sum_reverse, List.length_reverse]
          omega
        · rw [List.length_reverse]
          omega
    · refine ifF (by simp; omega) (w_next ?_)
      have hlk : L[kk]? = some L[kk] := List.getElem?_eq_getElem hkl
      have hwne := split_sp_ne L[kk]
      have hws := split_sp L[kk]
      have hrk : (spL 10 (TL.tl tx))[kk]? = some (TL.tl L[kk]) := by rw [← hrows, List.getElem?_map, hlk]; rfl
      have hRow := hB.r _ (List.mem_of_getElem? hrk)
      have hWd := hRow.wd
      rw [← hws] at hWd
      have hls : L[kk].length + 2 ≤ sizeLine := Nat.le_trans (by have := hRow.l; rw [TL.len_tl L[kk]]; omega : L[kk].length + 2 ≤ 20000) (by decide)
      dsimp only
      refine w_seq (w_asg (w_m1 (w_d (K := K) (d := .str L[kk]) (ed_ixL (i := (kk : Int)) (edr_var rfl (SqL.of hl7) (strs_td L)) (ed_var rfl (.int _)) (atI_nat (by rw [List.getElem?_map, hlk]; rfl))) fun v H8 e8 tv => ?_)))
      cases tv
      refine ⟨⟨_, rfl⟩, w_c ⟨L[kk], " ", rfl, rfl, by decide +kernel, hls, fun wp hwp => ?_⟩⟩
      generalize Txt.split L[kk] " " = W at *
      have e9 : Ex H8 (upd H8 wp (.lst (W.map V.str))) := Ex.new hwp
      have hw9 : upd H8 wp (.lst (W.map V.str)) wp = some (.lst (W.map V.str)) := upd_same
      have R9 := (R7.ex e8).ex e9
      have nwr : wp ≠ r := fun e => by
        obtain ⟨u, hu, _⟩ := (R7.ex e8).mu
        rw [e, hu] at hwp
        cases hwp
      have hl9 := (e8.trans e9) _ _ hl7
      have f09 := f07.trans (Fr.of (e8.trans e9))
      generalize upd H8 wp (.lst (W.map V.str)) = H9 at *
      have hWl : W.length ≤ 10001 := by
        have := hWd.l
        unfold wlen at this
        rw [List.length_map] at this
        omega
      have hWp : 1 ≤ W.length := List.length_pos_iff.mpr hwne
      dsimp only
      refine w_seq (w_asg (w_taken rfl R9 hn (m := (W.length : Int)) (ed_is (ed_lenL (edr_var rfl (SqL.of hw9) (strs_td W))) (by rw [List.length_map])) (by omega) (by omega) fun j H10 hj f10 R10 => ?_))
      have hl10 := f10 _ _ (by simpa using nlr) hl9
      have hw10 := f10 _ _ (by simpa using nwr) hw9
      have hjW : j < W.length := by omega
      have f010 := f09.trans f10
      dsimp only
      refine w_seq (w_asg (w_wd (K := K) (ws := oddS) (edl_lst (ds := oddS.map PyData.str) (eda_cons ed_cs (eda_cons ed_cs (eda_cons ed_cs (eda_cons ed_cs (eda_cons ed_cs (eda_cons ed_cs (eda_cons ed_cs (eda_cons ed_cs (eda_cons ed_cs (eda_cons ed_cs (eda_cons ed_cs (eda_cons ed_cs (eda_cons ed_cs (eda_cons ed_cs (eda_cons ed_cs (eda_cons ed_cs (eda_cons ed_cs (eda_cons ed_cs eda_nil)))))))))))))))))) (by decide)) fun op H11 hop e11 ho11 => ?_))
      have R11 := R10.ex e11
      have hl11 := e11 _ _ hl10
      have hw11 := e11 _ _ hw10
      have nor : op ≠ r := fun e => by
        obtain ⟨u, hu, _⟩ := R10.mu
        rw [e, hu] at hop
        cases hop
      have f011 := f010.trans (Fr.of e11)
      dsimp only
      have W0 : Wst K r s lp op ns tx ⟨#[sc]⟩ way at_ kk j L W H 3 [some (.ref r), some (.str tx), some (.int (way : Int)), some (.int (at_ : Int)), some (.str ⟨#[sc]⟩), some (.ref lp), some (.int (kk : Int)), some (.ref wp), some (.int (j : Int)), some (.ref op), none, none] H11 := ⟨wp, W, _, _, rfl, f011, R11, hl11, hw11, ho11, nwr, fun _ => rfl, .same⟩
      have nrf : ∀ {H' : Hp} {x : Addr}, RowAt K s ns H' r → H' x = none → x ≠ r := fun hRr hx e => by
        obtain ⟨u, hu, _⟩ := hRr.mu
        rw [e, hu] at hx
        cases hx
      have hcl : ∀ m, m < 50000 → m ≤ 50000 := fun m h => by omega
      refine seq_cut (Wst K r s lp op ns tx ⟨#[sc]⟩ way at_ kk j L W H 4) ?_ fun N hN => ?_
      rotate_left
      · -- 4
        refine w_ifs (w_t (K := K) (b := decide ((way : Int) = 4)) (tk_v (ed_eqi (ed_var rfl (.int _)) ed_ci)) fun Ha ea => ?_)
        by_cases h4 : way = 4
        · refine ifT (by simp [h4]) (w_asg (w_wd (K := K) (ws := W.take j ++ W.drop (j + 1)) (ew_cat (ew_take rfl (ea _ _ hw11) (ed_var rfl (.int _))) (ew_drop rfl (ea _ _ hw11) (ed_succ (k := 1) (ed_var rfl (.int _)))) (by rw [List.length_take, List.length_drop]; omega)) fun q Hb hq eb hb => ?_))
          have eab := ea.trans eb
          refine hN _ _ ⟨q, _, none, none, rfl, f011.trans (Fr.of eab), R11.ex eab, eab _ _ hl11, hb, eab _ _ ho11, nrf (R11.ex ea) hq, fun h => by omega, ?_⟩
          rw [List.map_append, List.map_take, List.map_drop]
          exact .rem j
        · exact ifF (by simp; omega) (w_next (hN _ _ ⟨wp, W, none, none, rfl, f011.trans (Fr.of ea), R11.ex ea, ea _ _ hl11, ea _ _ hw11, ea _ _ ho11, nwr, fun _ => rfl, .same⟩))
      clear W0
      rintro σ1 G1 ⟨w1, W1, u10, u11, rfl, g1, Rg1, hlg1, hwg1, hog1, nw1, hW1, cW1⟩
      refine seq_cut (Wst K r s lp op ns tx ⟨#[sc]⟩ way at_ kk j L W H 5) ?_ fun N hN => ?_
      rotate_left
      · -- 5
        refine w_ifs (w_t (K := K) (b := decide ((way : Int) = 5)) (tk_v (ed_eqi (ed_var rfl (.int _)) ed_ci)) fun Ha ea => ?_)
        by_cases h5 : way = 5
        · obtain rfl := hW1 (by omega)
          refine ifT (by simp [h5]) (w_asg (w_wd (K := K) (ws := W1.take (j + 1) ++ W1.drop j) (ew_cat (ew_take rfl (ea _ _ hwg1) (ed_succ (k := 1) (ed_var rfl (.int _)))) (ew_drop rfl (ea _ _ hwg1) (ed_var rfl (.int _))) (by rw [List.length_take, List.length_drop]; omega)) fun q Hb hq eb hb => ?_))
          have eab := ea.trans eb
          refine hN _ _ ⟨q, _, u10, u11, rfl, g1.trans (Fr.of eab), Rg1.ex eab, eab _ _ hlg1, hb, eab _ _ hog1, nrf (Rg1.ex ea) hq, fun h => by omega, ?_⟩
          rw [List.map_append, List.map_take, List.map_drop]
          exact .dup j
        · exact ifF (by simp; omega) (w_next (hN _ _ ⟨w1, W1, u10, u11, rfl, g1.trans (Fr.of ea), Rg1.ex ea, ea _ _ hlg1, ea _ _ hwg1, ea _ _ hog1, nw1, fun h => hW1 (by omega), cW1⟩))
      clear g1 Rg1 hlg1 hwg1 hog1 nw1 hW1 cW1
      rintro σ2 G2 ⟨w2, W2, u10, u11, rfl, g2, Rg2, hlg2, hwg2, hog2, nw2, hW2, cW2⟩
      refine seq_cut (Wst K r s lp op ns tx ⟨#[sc]⟩ way at_ kk j L W H 6) ?_ fun N hN => ?_
      rotate_left
      · -- 6
        refine w_ifs (w_t (K := K) (b := decide ((way : Int) = 6)) (tk_v (ed_eqi (ed_var rfl (.int _)) ed_ci)) fun Ha ea => ?_)
        by_cases h6 : way = 6
        · obtain rfl := hW2 (by omega)
          have Ra := Rg2.ex ea
          have hwa := ea _ _ hwg2
          refine ifT (by simp [h6]) (w_seq (w_asg (w_wd (K := K) (ws := W2.take j ++ W2.drop (j + 1)) (ew_cat (ew_take rfl hwa (ed_var rfl (.int _))) (ew_drop rfl hwa (ed_succ (k := 1) (ed_var rfl (.int _)))) (by rw [List.length_take, List.length_drop]; omega)) fun q Hb hq eb hb => ?_)))
          have Rb := Ra.ex eb
          have nq := nrf Ra hq
          have hrl : (W2.take j ++ W2.drop (j + 1)).length ≤ 20002 := by rw [List.length_append, List.length_take, List.length_drop]; omega
          generalize hRest : W2.take j ++ W2.drop (j + 1) = X at *
          dsimp only
          refine w_seq (w_asg (w_taken rfl Rb hn (m := ((X.length + 1 : Nat) : Int)) (ed_succ (k := 1) (ed_is (ed_lenL (edr_var rfl (SqL.of hb) (strs_td X))) (by rw [List.length_map]))) (by omega) (by omega) fun ot Hc hot fc Rc => ?_))
          have hbc := fc _ _ (by simpa using nq) hb
          have hwc := fc _ _ (by simpa using nw2) (eb _ _ hwa)
          have hlc := fc _ _ (by simpa using nlr) ((ea.trans eb) _ _ hlg2)
          have hoc := fc _ _ (by simpa using nor) ((ea.trans eb) _ _ hog2)
          dsimp only
          refine w_asg (w_wd (K := K) (ws := X.take ot ++ (W2.drop j).take 1 ++ X.drop ot) (ew_cat (ew_cat (ew_take rfl hbc (ed_var rfl (.int _))) (ew_mid rfl hwc (ed_var rfl (.int _)) (ed_succ (k := 1) (ed_var rfl (.int _)))) (by rw [List.length_take, List.length_take]; omega)) (ew_drop rfl hbc (ed_var rfl (.int _))) (by rw [List.length_append]; have h1 : (X.take ot).length ≤ 20002 := by { rw [List.length_take]; omega }; have h2 : ((W2.drop j).take 1).length ≤ 1 := by { rw [List.length_take]; omega }; have h3 : (X.drop ot).length ≤ 20002 := by { rw [List.length_drop]; omega }; omega)) fun z Hd hz ed hd => ?_)
          refine hN _ _ ⟨z, _, _, _, rfl, ((g2.trans (Fr.of (ea.trans eb))).trans fc).trans (Fr.of ed), Rc.ex ed, ed _ _ hlc, hd, ed _ _ hoc, nrf Rc hz, fun h => by omega, ?_⟩
          have hX : X.map TL.tl = (W2.map TL.tl).take j ++ (W2.map TL.tl).drop (j + 1) := by rw [← hRest, List.map_append, List.map_take, List.map_drop]
          rw [List.map_append, List.map_append, List.map_take, List.map_take, List.map_drop, List.map_drop, hX]
          exact .move j ot (by rw [List.length_map]; exact hjW)
        · exact ifF (by simp; omega) (w_next (hN _ _ ⟨w2, W2, u10, u11, rfl, g2.trans (Fr.of ea), Rg2.ex ea, ea _ _ hlg2, ea _ _ hwg2, ea _ _ hog2, nw2, fun h => hW2 (by omega), cW2⟩))
      clear g2 Rg2 hlg2 hwg2 hog2 nw2 hW2 cW2
      rintro σ3 G3 ⟨w3, W3, u10, u11, rfl, g3, Rg3, hlg3, hwg3, hog3, nw3, hW3, cW3⟩
      refine seq_cut (Wst K r s lp op ns tx ⟨#[sc]⟩ way at_ kk j L W H 10) ?_ fun N hN => ?_
      rotate_left
      · -- more
        refine w_ifs (w_t (K := K) (b := decide ((way : Int) > 6)) (tk_v (ed_I0b (ed_var rfl (.int _)) ed_ci)) fun Ha ea => ?_)
        by_cases h7 : 6 < way
        · obtain rfl := hW3 (by omega)
          have Ra := Rg3.ex ea
          have hwa := ea _ _ hwg3
          refine ifT (by simp; omega) (w_asg (w_op (w_op (w_wd (K := K) (ws := W3.take j) (ew_take rfl hwa (ed_var rfl (.int _))) fun pa Hb hpa eb hb => w_lst (w_cons (w_op (w_v rfl (w_taken rfl (Ra.ex eb) hn (m := 18) ed_ci (by decide) (by decide) fun t Hc ht fc Rc => ?_))))))))
          obtain ⟨z, hz, hz1, hz2⟩ := odd_ok t (by omega)
          have npa := nrf Ra hpa
          have hbc := fc _ _ (by simpa using npa) hb
          have hwc := fc _ _ (by simpa using nw3) (eb _ _ hwa)
          have hlc := fc _ _ (by simpa using nlr) ((ea.trans eb) _ _ hlg3)
          have hoc := fc _ _ (by simpa using nor) ((ea.trans eb) _ _ hog3)
          refine ⟨op, _, (t : Int), .str z, rfl, rfl, SqL.of hoc, atI_nat (by rw [List.getElem?_map, hz]; rfl), w_nil ⟨by show 1 ≤ sizeLine; decide, fun pb hpb => ⟨pa, pb, _, [.str z], rfl, rfl, Ex.new hpb _ _ hbc, upd_same, by rw [List.length_map, List.length_take]; exact sz_of (by simp only [List.length_singleton]; omega), fun pq hpq => ?_⟩⟩⟩
          have e1 : Ex Hc (upd Hc pb (.lst [.str z])) := Ex.new hpb
          have e2 := Ex.new (o := .lst ((W3.take j).map V.str ++ [.str z])) hpq
          have e12 := e1.trans e2
          have hq2 : upd (upd Hc pb (.lst [.str z])) pq (.lst ((W3.take j).map V.str ++ [.str z])) pq = some (.lst ((W3.take j ++ [z]).map V.str)) := by rw [upd_same]; simp
          generalize upd (upd Hc pb (.lst [.str z])) pq (.lst ((W3.take j).map V.str ++ [.str z])) = Hd at *
          refine w_wd (K := K) (ws := W3.drop (j + 1)) (ew_drop rfl (e12 _ _ hwc) (ed_succ (k := 1) (ed_var rfl (.int _)))) fun pe He hpe ee he => ⟨pq, pe, _, _, rfl, rfl, ee _ _ hq2, he, by rw [List.length_map, List.length_map, List.length_append, List.length_take, List.length_drop]; exact sz_of (by simp only [List.length_singleton]; omega), fun px hpx => ?_⟩
          have ex := Ex.new (o := .lst ((W3.take j ++ [z]).map V.str ++ (W3.drop (j + 1)).map V.str)) hpx
          have eall := (e12.trans ee).trans ex
          refine hN _ _ ⟨px, W3.take j ++ [z] ++ W3.drop (j + 1), u10, u11, rfl, ((g3.trans (Fr.of (ea.trans eb))).trans fc).trans (Fr.of eall), Rc.ex eall, eall _ _ hlc, by rw [upd_same]; simp, eall _ _ hoc, nrf (Rc.ex (e12.trans ee)) hpx, fun h => by omega, ?_⟩
          rw [List.map_append, List.map_append, List.map_take, List.map_drop]
          exact .put j (TL.tl z) hz1 hz2
        · exact ifF (by simp; omega) (w_next (hN _ _ ⟨w3, W3, u10, u11, rfl, g3.trans (Fr.of ea), Rg3.ex ea, ea _ _ hlg3, ea _ _ hwg3, ea _ _ hog3, nw3, fun h => by omega, cW3⟩))
      clear g3 Rg3 hlg3 hwg3 hog3 nw3 hW3 cW3
      rintro σ4 G4 ⟨w4, W4, u10, u11, rfl, g4, Rg4, hlg4, hwg4, hog4, nw4, hW4, cW4⟩
      have hW4l : wlen (W4.map TL.tl) ≤ 20007 := by
        have := (cW4.ok hWd).l
        omega
      have hjl : wlen ((L.take kk ++ [Txt.join " " W4] ++ L.drop (kk + 1)).map TL.tl) ≤ 400000 := by
        rw [List.map_append, List.map_append, wlen_app, wlen_app, List.map_take, List.map_drop]
        have h1 := wlen_take (L.map TL.tl) kk
        have h2 := wlen_drop (L.map TL.tl) (kk + 1)
        have h3 : wlen ([Txt.join " " W4].map TL.tl) ≤ 20008 := by
          simp only [List.map_cons, List.map_nil, wlen_cons]
          rw [joinS_tl]
          have := joinL_wlen 32 (W4.map TL.tl)
          have : wlen ([] : List (List Nat)) = 0 := rfl
          omega
        omega
      refine w_ret (w_d (K := K) (ed_join (ws := L.take kk ++ [Txt.join " " W4] ++ L.drop (kk + 1)) ed_cs (ew_cat (ew_cat (ew_take rfl hlg4 (ed_var rfl (.int _))) (ew_lst (ws := [Txt.join " " W4]) (eda_cons (ed_joinV ed_cs rfl hwg4 (by rw [sum_len1 _ _ (by decide +kernel)]; omega)) eda_nil) (by simp)) (by rw [List.length_take]; simp only [List.length_singleton]; omega)) (ew_drop rfl hlg4 (ed_succ (k := 1) (ed_var rfl (.int _)))) (by rw [List.length_append, List.length_take, List.length_drop]; simp only [List.length_singleton]; omega)) (by rw [sum_len1 _ _ (by decide +kernel)]; omega)) fun v Hz ez tv => ?_)
      cases tv
      refine k _ Hz ?_ (g4.trans (Fr.of ez)) (Rg4.ex ez)
      rw [join_tl, List.map_append, List.map_append, List.map_take, List.map_drop, List.map_cons, List.map_nil, joinS_tl, hrows]
      refine .words kk (TL.tl L[kk]) _ hrk ?_
      rw [← hws]
      exact cW4
end
end Hw

set_option maxRecDepth 100000
set_option maxHeartbeats 4000000
/-! LA12: the law -/
namespace Hw
open PySem PySem.Spec PyProof.Rows L2 Evl
local macro_rules | `(tactic| walk_at "dd") => `(tactic| first | rfl | decide | (simp; done) | omega)
local macro_rules | `(tactic| walk_at "td") => `(tactic| first | assumption | exact Td.int _ | exact Td.bl _ | exact Td.str _ | exact Td.non | exact Td.tup (by assumption) (by assumption))
local macro_rules | `(tactic| walk_at "ev") => `(tactic| first
  | exact ed_ci | exact ed_cs | exact ed_cb | exact ed_cn
  | (apply ed_cg; assumption)
  | (apply ed_var; (rfl); (walk_at "td"))
  | (apply ed_ixT; (walk_at "ev"); (walk_at "ev"); (first | rfl | assumption))
  | (apply ed_rowI; (rfl); (assumption); (walk_at "ev"); (rfl))
  | (apply ed_ixL; (apply EvDL.rd; walk_at "edl"); (walk_at "ev"); (rfl))
  | (apply ed_intb; (walk_at "ev"))
  | (apply ed_len; walk_at "ev")
  | (apply ed_lenV; (apply ev_rowR; (rfl); (assumption); (walk_at "ev"); (rfl)); (assumption))
  | (apply ed_Ii; (walk_at "ev"); (walk_at "ev"); (walk_at "cc"))
  | (apply ed_isi; (walk_at "ev"); (rfl))
  | (apply ed_I0i; (walk_at "ev"); (walk_at "ev"))
  | (apply ed_I0b; (walk_at "ev"); (walk_at "ev"))
  | (apply ed_eqi; (walk_at "ev"); (walk_at "ev"))
  | (apply ed_nei; (walk_at "ev"); (walk_at "ev"))
  | (apply ed_andF; walk_at "ev")
  | (apply ed_andV; (walk_at "ev"); (intro _; walk_at "ev"))
  | (apply ed_orT; walk_at "ev")
  | (apply ed_orV; (walk_at "ev"); (intro _; walk_at "ev"))
  | (apply ed_notT; walk_at "ev")
  | (apply ed_notF; walk_at "ev")
  | (apply ed_notV; walk_at "ev")
  | (apply ed_chain; (walk_at "ev"); (walk_at "ev"); (intro _; walk_at "ev"))
  | (apply ed_eqS; (walk_at "ev"); (walk_at "ev"); (walk_at "bb"); (walk_at "bb"))
  | (apply ed_neS; (walk_at "ev"); (walk_at "ev"); (walk_at "bb"); (walk_at "bb"))
  | (apply ed_inT; (walk_at "ev"); (walk_at "ev"); (rfl); (rfl))
  | (apply ed_niT; (walk_at "ev"); (walk_at "ev"); (rfl); (rfl))
  | (apply ed_tup; (walk_at "eva"); (walk_at "bb"))
  | (apply ed_sl; (walk_at "ev"); (walk_at "evo"); (walk_at "evo"))
  | (apply ed_eqN; (apply EvDL.rd; walk_at "edl"); (walk_at "edl"); (walk_at "bb"))
  | (apply ed_neN; (apply EvDL.rd; walk_at "edl"); (walk_at "edl"); (walk_at "bb"))
  | (apply ed_ixL; (apply edr_var; (rfl); (assumption); (assumption)); (walk_at "ev"); (first | rfl | assumption))
  | (apply ed_lenL; (apply edr_var; (rfl); (assumption); (assumption)))
  | (apply ed_call; (walk_at "eva"); (walk_at "post")))
local macro_rules | `(tactic| walk_at "edl") => `(tactic| first
  | assumption
  | (apply edl_lst; (walk_at "eva"); (walk_at "bb")))
local macro_rules | `(tactic| walk_at "eva") => `(tactic| first
  | exact eda_nil
  | (apply eda_cons; (walk_at "ev"); (walk_at "eva")))
local macro_rules | `(tactic| walk_at "evo") => `(tactic| first
  | exact eok_none
  | (apply eok_some; walk_at "ev"))
local macro_rules | `(tactic| walk_at "bb") => `(tactic| first | rfl | assumption | (simp; done) | (simp; omega) | decide +kernel)
local macro_rules | `(tactic| walk_at "et") => `(tactic| first
  | exact tk_yes
  | (apply tk_andF; walk_at "et")
  | (apply tk_and; (walk_at "et"); (intro _; walk_at "et"))
  | (apply tk_orT; walk_at "et")
  | (apply tk_or; (walk_at "et"); (intro _; walk_at "et"))
  | (apply tk_notT; walk_at "et")
  | (apply tk_notF; walk_at "et")
  | (apply tk_not; walk_at "et")
  | (apply tk_v; walk_at "ev")
  | (apply tk_vB; walk_at "ev"))
local macro_rules | `(tactic| walk_at "if") => `(tactic| first
  | (apply pst_whenF; (walk_at "et"); (walk_at "bb"))
  | (apply pst_whenT; (walk_at "et"); (walk_at "bb")))
local macro_rules | `(tactic| walk_at "post") => `(tactic| first | assumption | exact ⟨_, _, rfl, rfl⟩ | exact ⟨_, _, _, _, rfl, by omega, by omega, rfl⟩ | exact ⟨_, _, _, 0, rfl, by omega, by omega, rfl⟩)
local macro_rules | `(tactic| walk_at "cc") => `(tactic| first | assumption | decide | omega | (refine ⟨?_, ?_⟩ <;> first | decide | omega) | (exact Or.inl (by constructor <;> omega)))

/-! what is known behind some changes -/
def bA : Nat → Nat
  | 0 => 12
  | i + 1 => 2 * bA i + 2
def bE : Nat → Nat
  | 0 => 2
  | i + 1 => 2 * bE i + 2
def bL : Nat → Nat
  | 0 => 2400
  | i + 1 => 2 * bL i + 8
def bR : Nat → Nat
  | 0 => 4
  | i + 1 => 2 * bR i
theorem b_le : ∀ i ≤ 3, bA i < 111 ∧ bE i < 31 ∧ bL i ≤ 19990 ∧ bR i ≤ 90 := by decide
theorem b_le2 : ∀ i ≤ 2, bR i ≤ 16 ∧ bL i ≤ 10000 := by decide
/-- a text that is asked for -/
def OkX (tx : Str) : Prop := txOk tx ∧ RowsOk 111 31 (rowsOf tx)
theorem TxB.okX {i : Nat} {tx : Str} (hi : i ≤ 3) (h : TxB (bA i) (bE i) (bL i) (bR i) (TL.tl tx)) : OkX tx := by
  obtain ⟨h1, h2, h3, h4⟩ := b_le i hi
  exact h.ok h4 h3 h1 h2
/-! odd texts -/
def someS : List Str := ["", "0", "0 0", "0 0 ", " 0 0", "0 0\n", "1 0", "0 0 say 3", "0 0 say", "0 0 set 1 1", "0 0 set cell 1", "0 0 if 1 ( )", "0 0 if 1 ( ) ( )", "0 0 call 1 .", "0 0 call 1\n0 0", "0 0 call 1 .\n0 0", "0 00",
  "0 0 say own 0", "0 1 say own 0", "0 0 say + 1", "0 0 say ( 1 )", "0 0 )", "0 100", "0 99 say cell cell 1"]
def smallX (l : List Nat) : Bool := decide ((spL 10 l).length ≤ 5) && (spL 10 l).all fun r => decide ((spL 32 r).length ≤ 20) && (decide (r.length ≤ 100) && r.all fun c => decide (c < 200) && decide (c ≠ 10))
theorem some_small : ∀ z ∈ someS, smallX (TL.tl z) = true := by decide +kernel
theorem EB.of_len {α : Type} {g : α → Int} (h1 : ∀ x, g x ≤ 1 ∧ -1 ≤ g x) : ∀ ws : List α, EB g ws.length ws
  | [] => EB.nil
  | w :: r => by
    have := EB.app (u := [w]) (EB.one (h1 w).1 (h1 w).2) (EB.of_len h1 r)
    exact this.mono (by simp only [List.length_cons]; omega)
theorem small_B {l : List Nat} (h : smallX l = true) : TxB 20 20 100 5 l := by
  simp only [smallX, Bool.and_eq_true, decide_eq_true_eq, List.all_eq_true] at h
  refine ⟨h.1, fun r hr => ?_⟩
  obtain ⟨h1, h2, h3⟩ := h.2 r hr
  exact ⟨OB.of_filter (Nat.le_trans (List.length_filter_le _ _) h1), (EB.of_len val_le _).mono h1, h2, h3⟩
theorem some_ok {z : Str} (h : z ∈ someS) : OkX z := (small_B (some_small z h)).ok (by decide) (by decide) (by decide) (by decide)
theorem rdg_lay (dt d : Nat) (tx : Str) : (rdgD dt d tx).canLay0 = true := by
  unfold rdgD
  split
  · split
    · simp only [PyData.canLay0, PyData.canLayAll0, encP_lay, Bool.and_true]
      decide +kernel
    · decide +kernel
  · simp only [PyData.canLay0, PyData.canLayAll0, Bool.and_true]
    decide +kernel
  · rfl
theorem rdg_okD {dt d : Nat} {tx : Str} (h : RowsOk dt d (rowsOf tx)) : okD 21 (rdgD dt d tx) = true := by
  unfold rdgD
  split
  · rename_i p hp
    split
    · rename_i ho
      have := okD_P ho (h.sm hp)
      simp [okD, this]
    · simp [okD]
  · simp [okD]
  · simp [okD]
section
variable {K : PySem.W.Frag} {σ : L2.St} {H : Hp} {te : TE} {tx : Str} {E : XK}
theorem ed_told (h : EvD K te σ H (.str tx)) (ok : OkX tx) : EvD K (tCall (spTold K 111 31) [] E (tCons te tNil)) σ H (rdgD 111 31 tx) := fun H1 e1 Q q =>
  h.sv H1 e1 _ fun H2 e2 => ⟨tx, rfl, ok.1, ok.2, fun v H3 e3 tv => q v H3 (e2.trans e3) tv⟩
theorem ed_lrd (h : EvD K te σ H (.str tx)) (ok : OkX tx) : EvD K (tCall (spLRd K 111 31) [] E (tCons te tNil)) σ H (rdgD 111 31 tx) := fun H1 e1 Q q =>
  h.sv H1 e1 _ fun H2 e2 => ⟨tx, rfl, ok.1, ok.2, fun v H3 e3 tv => q v H3 (e2.trans e3) tv⟩
/-- both tell the same -/
theorem tk_same (h : EvD K te σ H (.str tx)) (ok : OkX tx) : EvTK K (tNot (tB (tCall (spAl K 21) [] E (tCons (tCall (spTold K 111 31) [] E (tCons te tNil)) (tCons (tCall (spLRd K 111 31) [] E (tCons te tNil)) tNil))))) σ H false :=
  tk_is (tk_not (tk_vB (ed_alikeN (n := 21) (ed_told h ok) (ed_lrd h ok) (rdg_lay _ _ _) (rdg_lay _ _ _) (rdg_okD ok.2)))) (by rw [alike_self 21 _ (rdg_okD ok.2)]; rfl)
end
theorem w_forL0 {K : PySem.W.Frag} {g : TG} {tu : TS} {D : Ends} {σ : L2.St} {H : Hp} {tl : TE} (h : tl σ H fun x H1 => ∃ a, x = .ref a ∧ (∃ ys, SqL K H1 a ys) ∧ ∃ W : Nat → Nat → L2.St → Hp → Prop, (∃ m, W 0 m σ H1) ∧ ∀ i m σ H, W i m σ H →
    ((Itl K a).stop i H ∧ D.nx σ H) ∨ ((Itl K a).go i H ∧ ∃ N : L2.St → Hp → Prop, (∀ σ' H', N σ' H' → ∃ m', m' < m ∧ W (i + 1) m' σ' H') ∧ ∀ x H', (Itl K a).yld i H x H' → g x σ H' fun σ2 H2 => tu { D with nx := N, ct := N, bk := D.nx } σ2 H2)) : tFor (iList K tl) g tu D σ H := h
section
variable {P : Program} {w : World} {K : PySem.W.Frag} {mg : Str → Option Value} {base : Heap} (T : Tx K mg)
include T
theorem ok_law (GT : Fn__law_taken T P w base CX0 1 (spTaken K)) (GP : Fn__law_program T P w base CX0 12 (spProg K)) (GA : Fn__law_alike T P w base CX0 22 (spAl K 21)) (GX : Fn__law_text T P w base CX0 19 (spLTx K)) (GD : Fn__law_told T P w base CX0 212 (spTold K 111 31)) (GL : Fn__law_reading T P w base CX0 178 (spLRd K 111 31)) (GC : Fn__law_changed T P w base CX0 2 (spChg K)) : Fn_law T P w base CX0 213 (spLaw K) := by
  have G__law_taken := GT
  have G__law_program := GP
  have G__law_alike := GA
  have G__law_text := GX
  have G__law_told := GD
  have G__law_reading := GL
  have G__law_changed := GC
  refine T.F_law.ok sc_law (fun vs H Q E h => by obtain ⟨s, ns, rfl, _⟩ := h; rfl) fun cdv A outer s0 H vs Q E hr h => ?_
  obtain ⟨s, ns, rfl, hS, hn, kq⟩ := h
  refine ⟨_, (pss_cons (ps_set (i := 1) sc_law.nd rfl (Or.inl rfl) (pe_lst (pa_cons (pv 0) (pa_cons pe_int (pa_cons pe_int (pa_cons pe_int pa_nil))))))
  (pss_cons (ps_set (i := 2) sc_law.nd rfl (Or.inl rfl) (pe_lst (pa_cons pe_str (pa_cons pe_str (pa_cons pe_str (pa_cons pe_str (pa_cons pe_str (pa_cons pe_str (pa_cons pe_str (pa_cons pe_str (pa_cons pe_str (pa_cons pe_str (pa_cons pe_str pa_nil)))))))))))))
  (pss_cons (ps_set (i := 2) sc_law.nd rfl (Or.inl rfl) (pe_op op_cat (pv 2) (pe_lst (pa_cons pe_str (pa_cons pe_str (pa_cons pe_str (pa_cons pe_str (pa_cons pe_str (pa_cons pe_str pa_nil)))))))))
  (pss_cons (ps_set (i := 2) sc_law.nd rfl (Or.inl rfl) (pe_op op_cat (pv 2) (pe_lst (pa_cons pe_str (pa_cons pe_str (pa_cons pe_str (pa_cons pe_str (pa_cons pe_str (pa_cons pe_str pa_nil)))))))))
  (pss_cons (ps_expr (pe_bm PySem.F.plainAttrs_list PySem.F.slot_list_append PySem.F.type_list_append mt_append (pv 2) (pa_cons pe_str pa_nil)))
  (pss_cons (ps_for (passes_of rfl) rfl (pi_range1 rfl T.b_range (pa_cons pe_int pa_nil)) (pg_name (i := 3) sc_law.nd rfl (Or.inl rfl))
    (pss_cons (ps_set (i := 4) sc_law.nd rfl (Or.inl rfl) (pe_call G__law_text (hr.mono (by omega)) (by rfl) T.g__law_text T.k__law_text T.bd__law_text .nil pass0 (pa_cons (pe_call G__law_program (hr.mono (by omega)) (by rfl) T.g__law_program T.k__law_program T.bd__law_program .nil pass0 (pa_cons (pv 1) (pa_cons pe_int pa_nil))) pa_nil)))
    (pss_cons (ps_for (passes_of rfl) rfl (pi_range1 rfl T.b_range (pa_cons (pe_op op_add pe_int (pe_call G__law_taken (hr.mono (by omega)) (by rfl) T.g__law_taken T.k__law_taken T.bd__law_taken .nil pass0 (pa_cons (pv 1) (pa_cons pe_int pa_nil)))) pa_nil)) (pg_name (i := 5) sc_law.nd rfl (Or.inl rfl))
      (pss_cons (ps_if (pt_not (pt_val (pe_call G__law_alike (hr.mono (by omega)) (by rfl) T.g__law_alike T.k__law_alike T.bd__law_alike .nil pass0 (pa_cons (pe_call G__law_told (hr.mono (by omega)) (by rfl) T.g__law_told T.k__law_told T.bd__law_told .nil pass0 (pa_cons (pv 4) pa_nil)) (pa_cons (pe_call G__law_reading (hr.mono (by omega)) (by rfl) T.g__law_reading T.k__law_reading T.bd__law_reading .nil pass0 (pa_cons (pv 4) pa_nil)) pa_nil)))))
        (pss_one (ps_ret pe_bl))
        pss_nil)
      (pss_one (ps_set (i := 4) sc_law.nd rfl (Or.inl rfl) (pe_call G__law_changed (hr.mono (by omega)) (by rfl) T.g__law_changed T.k__law_changed T.bd__law_changed .nil pass0 (pa_cons (pv 1) (pa_cons (pv 4) pa_nil)))))))
    (pss_one (ps_for (passes_of rfl) rfl (kpi_list K (pe_lst (pa_cons (pv 4) (pa_cons (pe_ix (kix_list K) (pv 2) (pe_call G__law_taken (hr.mono (by omega)) (by rfl) T.g__law_taken T.k__law_taken T.bd__law_taken .nil pass0 (pa_cons (pv 1) (pa_cons pe_int pa_nil))) (fun _ _ => rfl)) pa_nil)))) (pg_name (i := 6) sc_law.nd rfl (Or.inl rfl))
      (pss_one (ps_if (pt_not (pt_val (pe_call G__law_alike (hr.mono (by omega)) (by rfl) T.g__law_alike T.k__law_alike T.bd__law_alike .nil pass0 (pa_cons (pe_call G__law_told (hr.mono (by omega)) (by rfl) T.g__law_told T.k__law_told T.bd__law_told .nil pass0 (pa_cons (pv 6) pa_nil)) (pa_cons (pe_call G__law_reading (hr.mono (by omega)) (by rfl) T.g__law_reading T.k__law_reading T.bd__law_reading .nil pass0 (pa_cons (pv 6) pa_nil)) pa_nil)))))
        (pss_one (ps_ret pe_bl))
        pss_nil)))))))
  (pss_one (ps_ret pe_bl)))))))), ?_⟩
  refine w_seq (w_asg (w_lst (w_cons (w_v rfl (w_cons (w_c (w_cons (w_c (w_cons (w_c (w_nil ⟨by show 4 ≤ sizeLine; decide, fun r hr0 => ?_⟩)))))))))))
  have R1 : RowAt K s ns (upd H r (.lst [.ref s, .int 0, .int 0, .int 0])) r := ⟨0, 0, 0, upd_same, ex_l (Ex.new hr0) hS, by decide, by decide, by decide, by decide⟩
  dsimp only
  generalize upd H r (.lst [.ref s, .int 0, .int 0, .int 0]) = H1 at *
  refine w_seq (w_asg (w_wd (K := K) (ws := someS.take 11) (edl_lst (ds := (someS.take 11).map PyData.str) (eda_cons ed_cs (eda_cons ed_cs (eda_cons ed_cs (eda_cons ed_cs (eda_cons ed_cs (eda_cons ed_cs (eda_cons ed_cs (eda_cons ed_cs (eda_cons ed_cs (eda_cons ed_cs (eda_cons ed_cs eda_nil))))))))))) (by decide)) fun q1 H2 hq1 e2 h2 => ?_))
  dsimp only
  refine w_seq (w_asg (w_wd (K := K) (ws := someS.take 11 ++ (someS.drop 11).take 6) (ew_catV rfl h2 (edl_lst (ds := ((someS.drop 11).take 6).map PyData.str) (eda_cons ed_cs (eda_cons ed_cs (eda_cons ed_cs (eda_cons ed_cs (eda_cons ed_cs (eda_cons ed_cs eda_nil)))))) (by decide)) (by decide)) fun q2 H3 hq2 e3 h3 => ?_))
  dsimp only
  refine w_seq (w_asg (w_wd (K := K) (ws := (someS.take 11 ++ (someS.drop 11).take 6) ++ (someS.drop 17).take 6) (ew_catV rfl h3 (edl_lst (ds := ((someS.drop 17).take 6).map PyData.str) (eda_cons ed_cs (eda_cons ed_cs (eda_cons ed_cs (eda_cons ed_cs (eda_cons ed_cs (eda_cons ed_cs eda_nil)))))) (by decide)) (by decide)) fun so H4 hso e4 h4 => ?_))
  dsimp only
  have R4 := ((R1.ex e2).ex e3).ex e4
  have nso : so ≠ r := fun e => by
    obtain ⟨u, hu, _⟩ := ((R1.ex e2).ex e3).mu
    rw [e, hu] at hso
    cases hso
  refine w_seq (w_appW (K := K) (s := "0 99 say cell cell 1") rfl h4 ed_cs (by decide) fun H5 f5 h5 => ?_)
  have e5 : ((someS.take 11 ++ (someS.drop 11).take 6) ++ (someS.drop 17).take 6) ++ [(("0 99 say cell cell 1") : Str)] = someS := by decide +kernel
  rw [e5] at h5
  have R5 : RowAt K s ns H5 r := ((R1.ex e2).ex e3).ex (ex_fr1 e4 hso f5)
  clear h2 h3 h4 R4 f5 e5
  dsimp only
  refine w_seq (w_forR (K := K) (n := 4) (eda_cons ed_ci eda_nil) (by decide) (fun i σ' H' => ∃ u3 u4 u5 u6 : Option V, σ' = [some (.ref s), some (.ref r), some (.ref so), u3, u4, u5, u6] ∧ RowAt K s ns H' r ∧ H' so = some (.lst (someS.map V.str))) ?_ ?_ ?_)
  · intro H6 e6
    exact ⟨_, _, _, _, rfl, R5.ex e6, e6 _ _ h5⟩
  · rintro tn σ' H6 htn ⟨u3, u4, u5, u6, rfl, R6, h6⟩
    dsimp only
    refine w_seq (w_asg (w_call (w_cons (w_call (w_cons (w_v rfl (w_cons (w_c (w_nil ⟨r, s, ns, 6, rfl, R6, hn, by decide, fun p vp H7 gp f7 R7 tp7 => ?_⟩)))))))))
    have hok := goP_ok gp (by decide : 6 ≤ 98)
    have h7 := f7 _ _ (by simpa using nso) h6
    refine w_nil ⟨vp, p, rfl, tp7, hok, fun H8 e8 => ?_⟩
    have R8 := R7.ex e8
    have h8 := e8 _ _ h7
    have B0 : TxB (bA 0) (bE 0) (bL 0) (bR 0) (TL.tl (txP p)) := txP_B gp
    dsimp only
    refine w_seq (w_forR0 (w_cons (w_op (w_c (w_taken rfl R8 hn (m := 3) ed_ci (by decide) (by decide) fun cn H9 hcn f9 R9 => ⟨1, (cn : Int), rfl, rfl, w_nil ?_⟩)))))
    have h9 := f9 _ _ (by simpa using nso) h8
    have ecn : ((1 : Int) + (cn : Int)) = ((1 + cn : Nat) : Int) := by omega
    show RngGo _ _ _ _ [.int ((1 : Int) + (cn : Int))] _
    rw [ecn]
    refine rng_go (n := 1 + cn) (by omega) (fun i σ' H' => ∃ (tx : Str) (u5 u6 : Option V), σ' = [some (.ref s), some (.ref r), some (.ref so), some (.int (tn : Int)), some (.str tx), u5, u6] ∧ RowAt K s ns H' r ∧ H' so = some (.lst (someS.map V.str)) ∧ TxB (bA i) (bE i) (bL i) (bR i) (TL.tl tx)) ⟨txP p, u5, u6, rfl, R9, h9, B0⟩ ?_ ?_
    · rintro i σ' Ha hi ⟨tx, u5, u6, rfl, Ra, ha, Ba⟩
      have hi2 : i ≤ 2 := by omega
      have ok := Ba.okX (by omega)
      obtain ⟨b1, b2⟩ := b_le2 i hi2
      dsimp only
      refine w_seq (w_ifs (w_t (K := K) (b := false) (tk_same (ed_var rfl (.str _)) ok) fun Hb eb => ifF rfl (w_next ?_)))
      dsimp only
      refine w_asg (w_call (w_cons (w_v rfl (w_cons (w_v rfl (w_nil ⟨r, s, ns, tx, _, _, _, _, rfl, Ra.ex eb, hn, Ba, b1, b2, fun tx' Hc hc fc Rc => ?_⟩))))))
      exact ⟨tx', _, _, rfl, Rc, fc _ _ (by simpa using nso) (eb _ _ ha), hc.ok Ba⟩
    · rintro σ' Ha ⟨tx, u5, u6, rfl, Ra, ha, Ba⟩
      have ok := Ba.okX (by omega)
      dsimp only
      refine w_forL0 (w_lst (w_cons (w_v rfl (w_cons (w_op (w_v rfl (w_taken rfl Ra hn (m := 24) ed_ci (by decide) (by decide) fun t Hb ht fb Rb => ?_)))))))
      have hb := fb _ _ (by simpa using nso) ha
      have htl : t < someS.length := by show t < 24; omega
      have hz : someS[t]? = some someS[t] := List.getElem?_eq_getElem htl
      have okz := some_ok (List.getElem_mem htl)
      refine ⟨so, _, (t : Int), .str someS[t], rfl, rfl, SqL.of hb, atI_nat (by rw [List.getElem?_map, hz]; rfl), w_nil ⟨by show 2 ≤ sizeLine; decide, fun q hq => ⟨q, rfl, ⟨[.str tx, .str someS[t]], SqL.of upd_same⟩, ?_⟩⟩⟩
      generalize someS[t] = z at *
      have eq := Ex.new (o := .lst [.str tx, .str z]) hq
      have hq1 : upd Hb q (.lst [.str tx, .str z]) q = some (.lst [.str tx, .str z]) := upd_same
      have Rq := Rb.ex eq
      have hsq := eq _ _ hb
      generalize upd Hb q (.lst [.str tx, .str z]) = Hc at *
      refine for_list (xs := [.str tx, .str z]) (fun i σ' H' => ∃ u6 : Option V, σ' = [some (.ref s), some (.ref r), some (.ref so), some (.int (tn : Int)), some (.str tx), u5, u6] ∧ Ex Hc H') ⟨u6, rfl, Ex.refl _⟩ (fun i σ' H' _ p => ?_) (fun i x σ' H' hx p => ?_) (fun σ' H' p => ?_)
      · obtain ⟨_, _, e⟩ := p
        exact SqL.of (e _ _ hq1)
      · obtain ⟨u6, rfl, e⟩ := p
        obtain ⟨y, rfl, oky⟩ : ∃ y, x = V.str y ∧ OkX y := by
          match i, hx with
          | 0, hx => cases hx; exact ⟨tx, rfl, ok⟩
          | 1, hx => cases hx; exact ⟨z, rfl, okz⟩
        exact w_ifs (w_t (K := K) (b := false) (tk_same (ed_var rfl (.str _)) oky) fun Hd ed => ifF rfl (w_next ⟨_, rfl, e.trans ed⟩))
      · obtain ⟨u6, rfl, e⟩ := p
        exact ⟨_, _, _, _, rfl, Rq.ex e, e _ _ hsq⟩
  · rintro σ' H6 ⟨u3, u4, u5, u6, rfl, R6, h6⟩
    dsimp only
    exact w_ret (w_c (kq H6))
/-- all of it -/
theorem law_ok : Fn_law T P w base CX0 213 (spLaw K) := by
  have gT := ok_taken (P := P) (w := w) (base := base) T
  have GM := ok_must (P := P) (w := w) (base := base) T
  have GH := ok_here (P := P) (w := w) (base := base) T
  have GW := ok_word T (by decide : 1 ≤ 3) GM
  have GN := ok_numb T (by decide : 1 ≤ 3) GM GW
  have GS := ok_stp T (lw := 3) (dt := 111) (by decide) GM 31
  have GB := ok_sth T (lv := 209) (by decide) GH GS
  have GR := ok_read T (lv := 210) (lw := 3) (by decide) (by decide) (by decide) (ok_linit T) GM GN GB (ok_np T)
  have GF := ok_fig (P := P) (w := w) (base := base) T
  have LN := ok_lnumber (P := P) (w := w) (base := base) T
  have LT := ok_lth T LN
  have LS : ∀ n, Fn__law_is_step T P w base CX0 (8 + 2 * n) (spLS K (fSt n) n) := by
    intro n
    induction n with
    | zero => exact ok_lst T (k := 7) (by decide) (fun _ _ _ _ => False) (fun h => absurd h (Nat.lt_irrefl _)) LN (LT 5) (fn_vac fun _ _ _ _ h => h)
    | succ n ih => exact ok_lst T (k := 8 + 2 * n + 1) (by omega) (spLS K (fBd n) n) (fun _ => rfl) LN (LT 5) (ok_lbd T ih)
  have LP := ok_lpr T (ok_lbd T (LS 5)) (ok_lcnt T 6)
  have LB := ok_lba T (ok_lsd (dt := 111) T GF 31)
  exact ok_law T gT (ok_gen T gT) (ok_alike T 21) (ok_ltext T (ok_lw T 17)) (ok_told T GR) (ok_lrd T (lv := 177) (by decide) GF LB LP) (ok_chg T gT)
end
end Hw

set_option maxRecDepth 100000
set_option maxHeartbeats 0
namespace Hw
open PySem PySem.Spec PyProof.Rows L2
def dd_BadText___init__ : He.DefD := ⟨("BadText", some "__init__"), "__init__", "BadText.__init__", defArgs s_BadText___init__, defBody s_BadText___init__, defScope s_BadText___init__, [], []⟩
def dd_is_number : He.DefD := ⟨("is_number", none), "is_number", "is_number", defArgs s_is_number, defBody s_is_number, defScope s_is_number, [], []⟩
def dd_is_thing : He.DefD := ⟨("is_thing", none), "is_thing", "is_thing", defArgs s_is_thing, defBody s_is_thing, defScope s_is_thing, [], []⟩
def dd_is_call : He.DefD := ⟨("is_call", none), "is_call", "is_call", defArgs s_is_call, defBody s_is_call, defScope s_is_call, [], []⟩
def dd_is_step : He.DefD := ⟨("is_step", none), "is_step", "is_step", defArgs s_is_step, defBody s_is_step, defScope s_is_step, [], []⟩
def dd_is_body : He.DefD := ⟨("is_body", none), "is_body", "is_body", defArgs s_is_body, defBody s_is_body, defScope s_is_body, [], []⟩
def dd_bodies_of : He.DefD := ⟨("bodies_of", none), "bodies_of", "bodies_of", defArgs s_bodies_of, defBody s_bodies_of, defScope s_bodies_of, [], []⟩
def dd_count : He.DefD := ⟨("count", none), "count", "count", defArgs s_count, defBody s_count, defScope s_count, [], []⟩
def dd_is_work : He.DefD := ⟨("is_work", none), "is_work", "is_work", defArgs s_is_work, defBody s_is_work, defScope s_is_work, [], []⟩
def dd_need_program : He.DefD := ⟨("need_program", none), "need_program", "need_program", defArgs s_need_program, defBody s_need_program, defScope s_need_program, [], []⟩
def dd_Line___init__ : He.DefD := ⟨("Line", some "__init__"), "__init__", "Line.__init__", defArgs s_Line___init__, defBody s_Line___init__, defScope s_Line___init__, [], []⟩
def dd_Line_here : He.DefD := ⟨("Line", some "here"), "here", "Line.here", defArgs s_Line_here, defBody s_Line_here, defScope s_Line_here, [], []⟩
def dd_Line_must : He.DefD := ⟨("Line", some "must"), "must", "Line.must", defArgs s_Line_must, defBody s_Line_must, defScope s_Line_must, [], []⟩
def dd_Line_word : He.DefD := ⟨("Line", some "word"), "word", "Line.word", defArgs s_Line_word, defBody s_Line_word, defScope s_Line_word, [], []⟩
def dd_Line_number : He.DefD := ⟨("Line", some "number"), "number", "Line.number", defArgs s_Line_number, defBody s_Line_number, defScope s_Line_number, [], []⟩
def dd_Line_thing_here : He.DefD := ⟨("Line", some "thing_here"), "thing_here", "Line.thing_here", defArgs s_Line_thing_here, defBody s_Line_thing_here, defScope s_Line_thing_here, [], []⟩
def dd_Line_inner : He.DefD := ⟨("Line", some "inner"), "inner", "Line.inner", defArgs s_Line_inner, defBody s_Line_inner, defScope s_Line_inner, [], []⟩
def dd_Line_steps_here : He.DefD := ⟨("Line", some "steps_here"), "steps_here", "Line.steps_here", defArgs s_Line_steps_here, defBody s_Line_steps_here, defScope s_Line_steps_here, [], []⟩
def dd_Line_step : He.DefD := ⟨("Line", some "step"), "step", "Line.step", defArgs s_Line_step, defBody s_Line_step, defScope s_Line_step, [], []⟩
def dd_read : He.DefD := ⟨("read", none), "read", "read", defArgs s_read, defBody s_read, defScope s_read, [], []⟩
def dd__law_taken : He.DefD := ⟨("_law_taken", none), "_law_taken", "_law_taken", defArgs s__law_taken, defBody s__law_taken, defScope s__law_taken, [], []⟩
def dd__law_alike : He.DefD := ⟨("_law_alike", none), "_law_alike", "_law_alike", defArgs s__law_alike, defBody s__law_alike, defScope s__law_alike, [], []⟩
def dd__law_thing : He.DefD := ⟨("_law_thing", none), "_law_thing", "_law_thing", defArgs s__law_thing, defBody s__law_thing, defScope s__law_thing, [], []⟩
def dd__law_place : He.DefD := ⟨("_law_place", none), "_law_place", "_law_place", defArgs s__law_place, defBody s__law_place, defScope s__law_place, [], []⟩
def dd__law_step : He.DefD := ⟨("_law_step", none), "_law_step", "_law_step", defArgs s__law_step, defBody s__law_step, defScope s__law_step, [], []⟩
def dd__law_body : He.DefD := ⟨("_law_body", none), "_law_body", "_law_body", defArgs s__law_body, defBody s__law_body, defScope s__law_body, [], []⟩
def dd__law_program : He.DefD := ⟨("_law_program", none), "_law_program", "_law_program", defArgs s__law_program, defBody s__law_program, defScope s__law_program, [], []⟩
def dd__law_ways : He.DefD := ⟨("_law_ways", none), "_law_ways", "_law_ways", defArgs s__law_ways, defBody s__law_ways, defScope s__law_ways, [], []⟩
def dd__law_cells : He.DefD := ⟨("_law_cells", none), "_law_cells", "_law_cells", defArgs s__law_cells, defBody s__law_cells, defScope s__law_cells, [], []⟩
def dd__law_words : He.DefD := ⟨("_law_words", none), "_law_words", "_law_words", defArgs s__law_words, defBody s__law_words, defScope s__law_words, [], []⟩
def dd__law_text : He.DefD := ⟨("_law_text", none), "_law_text", "_law_text", defArgs s__law_text, defBody s__law_text, defScope s__law_text, [], []⟩
def dd__law_is_number : He.DefD := ⟨("_law_is_number", none), "_law_is_number", "_law_is_number", defArgs s__law_is_number, defBody s__law_is_number, defScope s__law_is_number, [], []⟩
def dd__law_is_thing : He.DefD := ⟨("_law_is_thing", none), "_law_is_thing", "_law_is_thing", defArgs s__law_is_thing, defBody s__law_is_thing, defScope s__law_is_thing, [], []⟩
def dd__law_is_step : He.DefD := ⟨("_law_is_step", none), "_law_is_step", "_law_is_step", defArgs s__law_is_step, defBody s__law_is_step, defScope s__law_is_step, [], []⟩
def dd__law_is_body : He.DefD := ⟨("_law_is_body", none), "_law_is_body", "_law_is_body", defArgs s__law_is_body, defBody s__law_is_body, defScope s__law_is_body, [], []⟩
def dd__law_count : He.DefD := ⟨("_law_count", none), "_law_count", "_law_count", defArgs s__law_count, defBody s__law_count, defScope s__law_count, [], []⟩
def dd__law_is_program : He.DefD := ⟨("_law_is_program", none), "_law_is_program", "_law_is_program", defArgs s__law_is_program, defBody s__law_is_program, defScope s__law_is_program, [], []⟩
def dd__law_is_figures : He.DefD := ⟨("_law_is_figures", none), "_law_is_figures", "_law_is_figures", defArgs s__law_is_figures, defBody s__law_is_figures, defScope s__law_is_figures, [], []⟩
def dd__law_thing_at : He.DefD := ⟨("_law_thing_at", none), "_law_thing_at", "_law_thing_at", defArgs s__law_thing_at, defBody s__law_thing_at, defScope s__law_thing_at, [], []⟩
def dd__law_things_at : He.DefD := ⟨("_law_things_at", none), "_law_things_at", "_law_things_at", defArgs s__law_things_at, defBody s__law_things_at, defScope s__law_things_at, [], []⟩
def dd__law_step_at : He.DefD := ⟨("_law_step_at", none), "_law_step_at", "_law_step_at", defArgs s__law_step_at, defBody s__law_step_at, defScope s__law_step_at, [], []⟩
def dd__law_body_at : He.DefD := ⟨("_law_body_at", none), "_law_body_at", "_law_body_at", defArgs s__law_body_at, defBody s__law_body_at, defScope s__law_body_at, [], []⟩
def dd__law_reading : He.DefD := ⟨("_law_reading", none), "_law_reading", "_law_reading", defArgs s__law_reading, defBody s__law_reading, defScope s__law_reading, [], []⟩
def dd__law_told : He.DefD := ⟨("_law_told", none), "_law_told", "_law_told", defArgs s__law_told, defBody s__law_told, defScope s__law_told, [], []⟩
def dd__law_changed : He.DefD := ⟨("_law_changed", none), "_law_changed", "_law_changed", defArgs s__law_changed, defBody s__law_changed, defScope s__law_changed, [], []⟩
def dd_law : He.DefD := ⟨("law", none), "law", "law", defArgs s_law, defBody s_law, defScope s_law, [], []⟩
def fns : List He.DefD := [dd_BadText___init__, dd_is_number, dd_is_thing, dd_is_call, dd_is_step, dd_is_body, dd_bodies_of, dd_count, dd_is_work, dd_need_program, dd_Line___init__, dd_Line_here, dd_Line_must, dd_Line_word, dd_Line_number, dd_Line_thing_here, dd_Line_inner, dd_Line_steps_here, dd_Line_step, dd_read, dd__law_taken, dd__law_alike, dd__law_thing, dd__law_place, dd__law_step, dd__law_body, dd__law_program, dd__law_ways, dd__law_cells, dd__law_words, dd__law_text, dd__law_is_number, dd__law_is_thing, dd__law_is_step, dd__law_is_body, dd__law_count, dd__law_is_program, dd__law_is_figures, dd__law_thing_at, dd__law_things_at, dd__law_step_at, dd__law_body_at, dd__law_reading, dd__law_told, dd__law_changed, dd_law]
def fas : List He.Fa := [.glo "is_number", .glo "is_thing", .glo "is_call", .glo "is_step", .glo "is_body", .glo "bodies_of", .glo "count", .glo "is_work", .glo "need_program", .glo "read", .glo "_law_taken", .glo "_law_alike", .glo "_law_thing", .glo "_law_place", .glo "_law_step", .glo "_law_body", .glo "_law_program", .glo "_law_ways", .glo "_law_cells", .glo "_law_words", .glo "_law_text", .glo "_law_is_number", .glo "_law_is_thing", .glo "_law_is_step", .glo "_law_is_body", .glo "_law_count", .glo "_law_is_program", .glo "_law_is_figures", .glo "_law_thing_at", .glo "_law_things_at", .glo "_law_step_at", .glo "_law_body_at", .glo "_law_reading", .glo "_law_told", .glo "_law_changed", .glo "law", .glo "HandError", .keep "HandError", .glo "BadProgram", .keep "BadProgram", .glo "BadWays", .keep "BadWays", .glo "BadCells", .keep "BadCells", .glo "BadText", .keep "BadText", .glo "Line", .keep "Line", .cls "Line", .mkr "Line", .noat "Line" "words", .noat "Line" "at", .noat "Line" "row", .meth "Line" "here", .meth "Line" "must", .meth "Line" "word", .meth "Line" "number", .meth "Line" "thing_here", .meth "Line" "inner", .meth "Line" "steps_here", .meth "Line" "step", .free "ValueError", .free "bool", .free "int", .free "isinstance", .free "len", .free "list", .free "range", .free "str", .free "sum", .free "tuple", .int "NUMBERS" 3, .int "MOST_WORKS" 4, .int "MOST_PARAMS" 3, .int "MOST_OWNS" 99, .int "MOST_STEPS" 100, .int "MOST_WITHIN" 4, .glo "PLACES", .str "FIGURES" "0123456789", .int "MOST_FIGURES" 2]
def exs : List (PySem.W.Frag → Bool) := [fun K => PySem.W.excIn K (He.ga K "HandError") [.type "ValueError", .type "Exception", .type "BaseException", .type "object"] "ValueError.__new__", fun K => decide (PySem.W.subIn K (.ref (He.ga K "HandError")) (.type "BaseException") = some true), fun K => decide (PySem.W.typeIn K (.ref (He.ga K "HandError")) = some (.type "type")), fun K => decide (PySem.W.exmOne K (.ref (He.ga K "HandError")) (.ref (He.ga K "HandError")) = some true), fun K => decide (PySem.W.exmOne K (.ref (He.ga K "HandError")) (.ref (He.ga K "BadProgram")) = some false), fun K => decide (PySem.W.exmOne K (.ref (He.ga K "HandError")) (.ref (He.ga K "BadWays")) = some false), fun K => decide (PySem.W.exmOne K (.ref (He.ga K "HandError")) (.ref (He.ga K "BadCells")) = some false), fun K => decide (PySem.W.exmOne K (.ref (He.ga K "HandError")) (.ref (He.ga K "BadText")) = some false), fun K => PySem.W.excIn K (He.ga K "BadProgram") [.type "ValueError", .type "Exception", .type "BaseException", .type "object"] "ValueError.__new__", fun K => decide (PySem.W.subIn K (.ref (He.ga K "BadProgram")) (.type "BaseException") = some true), fun K => decide (PySem.W.typeIn K (.ref (He.ga K "BadProgram")) = some (.type "type")), fun K => decide (PySem.W.exmOne K (.ref (He.ga K "BadProgram")) (.ref (He.ga K "HandError")) = some true), fun K => decide (PySem.W.exmOne K (.ref (He.ga K "BadProgram")) (.ref (He.ga K "BadProgram")) = some true), fun K => decide (PySem.W.exmOne K (.ref (He.ga K "BadProgram")) (.ref (He.ga K "BadWays")) = some false), fun K => decide (PySem.W.exmOne K (.ref (He.ga K "BadProgram")) (.ref (He.ga K "BadCells")) = some false), fun K => decide (PySem.W.exmOne K (.ref (He.ga K "BadProgram")) (.ref (He.ga K "BadText")) = some false), fun K => PySem.W.excIn K (He.ga K "BadWays") [.type "ValueError", .type "Exception", .type "BaseException", .type "object"] "ValueError.__new__", fun K => decide (PySem.W.subIn K (.ref (He.ga K "BadWays")) (.type "BaseException") = some true), fun K => decide (PySem.W.typeIn K (.ref (He.ga K "BadWays")) = some (.type "type")), fun K => decide (PySem.W.exmOne K (.ref (He.ga K "BadWays")) (.ref (He.ga K "HandError")) = some true), fun K => decide (PySem.W.exmOne K (.ref (He.ga K "BadWays")) (.ref (He.ga K "BadProgram")) = some false), fun K => decide (PySem.W.exmOne K (.ref (He.ga K "BadWays")) (.ref (He.ga K "BadWays")) = some true), fun K => decide (PySem.W.exmOne K (.ref (He.ga K "BadWays")) (.ref (He.ga K "BadCells")) = some false), fun K => decide (PySem.W.exmOne K (.ref (He.ga K "BadWays")) (.ref (He.ga K "BadText")) = some false), fun K => PySem.W.excIn K (He.ga K "BadCells") [.type "ValueError", .type "Exception", .type "BaseException", .type "object"] "ValueError.__new__", fun K => decide (PySem.W.subIn K (.ref (He.ga K "BadCells")) (.type "BaseException") = some true), fun K => decide (PySem.W.typeIn K (.ref (He.ga K "BadCells")) = some (.type "type")), fun K => decide (PySem.W.exmOne K (.ref (He.ga K "BadCells")) (.ref (He.ga K "HandError")) = some true), fun K => decide (PySem.W.exmOne K (.ref (He.ga K "BadCells")) (.ref (He.ga K "BadProgram")) = some false), fun K => decide (PySem.W.exmOne K (.ref (He.ga K "BadCells")) (.ref (He.ga K "BadWays")) = some false), fun K => decide (PySem.W.exmOne K (.ref (He.ga K "BadCells")) (.ref (He.ga K "BadCells")) = some true), fun K => decide (PySem.W.exmOne K (.ref (He.ga K "BadCells")) (.ref (He.ga K "BadText")) = some false), fun K => decide (PySem.W.subIn K (.ref (He.ga K "BadText")) (.type "BaseException") = some true), fun K => decide (PySem.W.typeIn K (.ref (He.ga K "BadText")) = some (.type "type")), fun K => decide (PySem.W.exmOne K (.ref (He.ga K "BadText")) (.ref (He.ga K "HandError")) = some true), fun K => decide (PySem.W.exmOne K (.ref (He.ga K "BadText")) (.ref (He.ga K "BadProgram")) = some false), fun K => decide (PySem.W.exmOne K (.ref (He.ga K "BadText")) (.ref (He.ga K "BadWays")) = some false), fun K => decide (PySem.W.exmOne K (.ref (He.ga K "BadText")) (.ref (He.ga K "BadCells")) = some false), fun K => decide (PySem.W.exmOne K (.ref (He.ga K "BadText")) (.ref (He.ga K "BadText")) = some true), fun K => decide (PySem.W.findIn K (.ref (He.ga K "BadProgram")) "__getattribute__" = some (some (.builtin "BaseException.__getattribute__"))), fun K => decide (PySem.W.findIn K (.ref (He.ga K "BadProgram")) "__getattr__" = some none), fun K => decide (PySem.W.hasDictIn K (He.ga K "BadProgram") = true), fun K => decide (PySem.W.findIn K (.ref (He.ga K "BadProgram")) "__class__" = some (some (.builtin "object.__class__"))), fun K => decide (PySem.W.specialIn K (.builtin "object.__class__") "__get__" = some (some (.builtin "getset_descriptor.__get__"))), fun K => decide (PySem.W.takesIn K (.builtin "object.__class__") = some true), fun K => decide (PySem.W.mroIn K (He.ga K "BadProgram") (.type "object") = some true), fun K => decide (PySem.W.kitOne K (.ref (He.ga K "BadProgram")) (.type "ValueError") = some true), fun K => decide (PySem.W.findIn K (.ref (He.ga K "BadText")) "__getattribute__" = some (some (.builtin "BaseException.__getattribute__"))), fun K => decide (PySem.W.findIn K (.ref (He.ga K "BadText")) "__getattr__" = some none), fun K => decide (PySem.W.hasDictIn K (He.ga K "BadText") = true), fun K => decide (PySem.W.findIn K (.ref (He.ga K "BadText")) "__class__" = some (some (.builtin "object.__class__"))), fun K => decide (PySem.W.specialIn K (.builtin "object.__class__") "__get__" = some (some (.builtin "getset_descriptor.__get__"))), fun K => decide (PySem.W.takesIn K (.builtin "object.__class__") = some true), fun K => decide (PySem.W.mroIn K (He.ga K "BadText") (.type "object") = some true), fun K => decide (PySem.W.kitOne K (.ref (He.ga K "BadText")) (.type "ValueError") = some true), fun K => decide (PySem.W.specialIn K (.ref (He.ga K "HandError")) "__getattribute__" = some (some (.builtin "type.__getattribute__"))), fun K => PySem.W.readsIn K (He.ga K "HandError") (.type "type"), fun K => L2.fcB K (He.ga K "HandError"), fun K => decide (PySem.W.kitOne K (.ref (He.ga K "BadProgram")) (.ref (He.ga K "BadProgram")) = some true), fun K => decide (PySem.W.kitOne K (.ref (He.ga K "BadProgram")) (.ref (He.ga K "BadWays")) = some false), fun K => decide (PySem.W.kitOne K (.ref (He.ga K "BadProgram")) (.ref (He.ga K "BadCells")) = some false), fun K => decide (PySem.W.kitOne K (.ref (He.ga K "BadProgram")) (.ref (He.ga K "BadText")) = some false), fun K => L2.oexB K (He.ga K "BadText"), fun K => L2.xfB K (He.ga K "BadText"), fun K => decide (PySem.W.findIn K (.ref (He.ga K "BadText")) "__init__" = some (some (.ref (He.ma K (He.ga K "BadText") "__init__")))), fun K => decide (PySem.W.typeIn K (.ref (He.ma K (He.ga K "BadText") "__init__")) = some (.type "function")), fun K => decide (PySem.W.findIn K (.ref (He.ga K "BadText")) "row" = some none), fun K => decide (PySem.W.kitOne K (.ref (He.ga K "BadText")) (.ref (He.ga K "BadProgram")) = some false), fun K => decide (PySem.W.kitOne K (.ref (He.ga K "BadText")) (.ref (He.ga K "BadWays")) = some false), fun K => decide (PySem.W.kitOne K (.ref (He.ga K "BadText")) (.ref (He.ga K "BadCells")) = some false), fun K => decide (PySem.W.kitOne K (.ref (He.ga K "BadText")) (.ref (He.ga K "BadText")) = some true), fun K => He.tupB K "PLACES" [.str "cell", .str "own", .str "par"]]
def exB (K : PySem.W.Frag) : Bool := exs.all fun f => f K
theorem exs_at {K : PySem.W.Frag} (e : exB K = true) (i : Nat) {f : PySem.W.Frag → Bool} (h : exs[i]? = some f) : f K = true := List.all_eq_true.mp e f (List.mem_of_getElem? h)
abbrev R : PySem.W.OpenRow := PySem.W.OpenLaw.row PySem.Challenge.rw_handways_k12_texts_refused
/-- what the names reach, and the interpreter's own statics (where a class's attribute is read) -/
def asY (g : Addr → Option Obj) (n : Nat) : List Addr := He.asD g n ++ [cStatics]
def obsY (n : Nat) (fa : List He.Fa) (fn : List He.DefD) (ex : PySem.W.Frag → Bool) (g : Addr → Option Obj) : He.AlX := (He.obsT fa fn [] (He.frT g (asY g n)), ex (He.frT g (asY g n)))
theorem saysY_of {n : Nat} {fa : List He.Fa} {fn : List He.DefD} {ex : PySem.W.Frag → Bool} {w : World} {h : Heap} (e : obsY n fa fn ex h.get? = He.valX fn [] w) : He.SaysX fa fn [] [] ex w h (He.frT h.get? (asY h.get? n)) := by
  have e1 : He.obsT fa fn [] (He.frT h.get? (asY h.get? n)) = He.valT fn [] w := congrArg (fun z : He.AlX => z.1) e
  have e2 : ex (He.frT h.get? (asY h.get? n)) = true := congrArg (fun z : He.AlX => z.2) e
  exact ⟨e1, e2, fun p hp => absurd hp (by simp), fun p hp => absurd hp (by simp), fun p hp => absurd hp (by simp)⟩
def hookY (n : Nat) (fa : List He.Fa) (fn : List He.DefD) (ex : PySem.W.Frag → Bool) : PySem.W.Hook where
  α := He.AlX
  obs := fun s => obsY n fa fn ex s.heap.get?
  val := fun w => He.valX fn [] w
  says := fun w h => ∃ K : PySem.W.Frag, K.In h ∧ He.SaysX fa fn [] [] ex w h K
  of := fun _ _ e => ⟨_, He.frT_in, saysY_of e⟩
  keeps := fun _ _ _ ⟨K, hK, c⟩ k => ⟨K, PySem.W.Frag.In.keeps hK k, ⟨c.t, c.more, c.hd, c.out, fun p hp => absurd hp (by simp)⟩⟩
theorem obsY_eq {n : Nat} {fa : List He.Fa} {fn : List He.DefD} {ex : PySem.W.Frag → Bool} {g : Addr → Option Obj} {s : Shared} (h : ∀ a, g a = s.heap.get? a) : obsY n fa fn ex g = (hookY n fa fn ex).obs s := by
  have e : g = s.heap.get? := funext h
  rw [e] <;> rfl
abbrev hk : PySem.W.Hook := hookY 4 fas fns exB
def ob (s : PySem.W.SharedT) : He.AlX := obsY 4 fas fns exB (HandSHeadRun.getT s)
theorem ob_eq (s : PySem.W.SharedT) : ob s = hk.obs s.abs := obsY_eq (HandSHeadRun.getT_eq s)
def loose0 : List Str := [("HandError" : Str), ("BadProgram" : Str), ("BadWays" : Str), ("BadCells" : Str), ("BadText" : Str), ("NUMBERS" : Str), ("MOST_WORKS" : Str), ("MOST_PARAMS" : Str), ("MOST_OWNS" : Str), ("MOST_STEPS" : Str), ("MOST_WITHIN" : Str), ("PLACES" : Str)]
def loose1 : List Str := [("is_number" : Str), ("is_thing" : Str), ("is_call" : Str), ("is_step" : Str), ("is_body" : Str), ("bodies_of" : Str), ("count" : Str), ("is_work" : Str), ("need_program" : Str), ("FIGURES" : Str), ("MOST_FIGURES" : Str), ("Line" : Str)]
def loose2 : List Str := [("read" : Str), ("_law_taken" : Str), ("_law_alike" : Str), ("_law_thing" : Str), ("_law_place" : Str), ("_law_step" : Str), ("_law_body" : Str), ("_law_program" : Str), ("_law_ways" : Str), ("_law_cells" : Str), ("_law_words" : Str), ("_law_text" : Str)]
def loose3 : List Str := [("_law_is_number" : Str), ("_law_is_thing" : Str), ("_law_is_step" : Str), ("_law_is_body" : Str), ("_law_count" : Str), ("_law_is_program" : Str), ("_law_is_figures" : Str), ("_law_thing_at" : Str), ("_law_things_at" : Str), ("_law_step_at" : Str), ("_law_body_at" : Str), ("_law_reading" : Str)]
def loose4 : List Str := [("_law_told" : Str), ("_law_changed" : Str)]
def loose : List Str := loose0 ++ loose1 ++ loose2 ++ loose3 ++ loose4
theorem run (w : World) : HandSHeadRun.RunEq R (PySem.W.view R.prog [54]) hk ob 8000 loose w := by
  intro os
  kernel_rfl
theorem tx_of {w : World} {K : PySem.W.Frag} {h : Heap} {mg : Str → Option Value} (X : K.In h) (G : h.Ns mainGlobals mg) (y : He.SaysX fas fns [] [] exB w h K) : Tx K mg := by
  have c := y.t.d
  have e := y.more
  refine ⟨?f0, ?f1, ?f2, ?f3, ?f4, ?f5, ?f6, ?f7, ?f8, ?f9, ?f10, ?f11, ?f12, ?f13, ?f14, ?f15, ?f16, ?f17, ?f18, ?f19, ?f20, ?f21, ?f22, ?f23, ?f24, ?f25, ?f26, ?f27, ?f28, ?f29, ?f30, ?f31, ?f32, ?f33, ?f34, ?f35, ?f36, ?f37, ?f38, ?f39, ?f40, ?f41, ?f42, ?f43, ?f44, ?f45, ?f46, ?f47, ?f48, ?f49, ?f50, ?f51, ?f52, ?f53, ?f54, ?f55, ?f56, ?f57, ?f58, ?f59, ?f60, ?f61, ?f62, ?f63, ?f64, ?f65, ?f66, ?f67, ?f68, ?f69, ?f70, ?f71, ?f72, ?f73, ?f74, ?f75, ?f76, ?f77, ?f78, ?f79, ?f80, ?f81, ?f82, ?f83, ?f84, ?f85, ?f86, ?f87, ?f88, ?f89, ?f90, ?f91, ?f92, ?f93, ?f94, ?f95, ?f96, ?f97, ?f98, ?f99, ?f100, ?f101, ?f102, ?f103, ?f104, ?f105, ?f106, ?f107, ?f108, ?f109, ?f110, ?f111, ?f112, ?f113, ?f114, ?f115, ?f116, ?f117, ?f118, ?f119, ?f120, ?f121, ?f122, ?f123, ?f124, ?f125, ?f126, ?f127, ?f128, ?f129, ?f130, ?f131, ?f132, ?f133, ?f134, ?f135, ?f136, ?f137, ?f138, ?f139, ?f140, ?f141, ?f142, ?f143, ?f144, ?f145, ?f146, ?f147, ?f148, ?f149, ?f150, ?f151, ?d0, ?d1, ?d2, ?d3, ?d4, ?d5, ?d6, ?d7, ?d8, ?d9, ?d10, ?d11, ?d12, ?d13, ?d14, ?d15, ?d16, ?d17, ?d18, ?d19, ?d20, ?d21, ?d22, ?d23, ?d24, ?d25, ?d26, ?d27, ?d28, ?d29, ?d30, ?d31, ?d32, ?d33, ?d34, ?d35, ?d36, ?d37, ?d38, ?d39, ?d40, ?d41, ?d42, ?d43, ?d44, ?d45⟩
  case f0 => exact He.glo_ok X G (c.fact 0 (by rfl))
  case f1 => exact He.glo_ok X G (c.fact 1 (by rfl))
  case f2 => exact He.glo_ok X G (c.fact 2 (by rfl))
  case f3 => exact He.glo_ok X G (c.fact 3 (by rfl))
  case f4 => exact He.glo_ok X G (c.fact 4 (by rfl))
  case f5 => exact He.glo_ok X G (c.fact 5 (by rfl))
  case f6 => exact He.glo_ok X G (c.fact 6 (by rfl))
  case f7 => exact He.glo_ok X G (c.fact 7 (by rfl))
  case f8 => exact He.glo_ok X G (c.fact 8 (by rfl))
  case f9 => exact He.glo_ok X G (c.fact 9 (by rfl))
  case f10 => exact He.glo_ok X G (c.fact 10 (by rfl))
  case f11 => exact He.glo_ok X G (c.fact 11 (by rfl))
  case f12 => exact He.glo_ok X G (c.fact 12 (by rfl))
  case f13 => exact He.glo_ok X G (c.fact 13 (by rfl))
  case f14 => exact He.glo_ok X G (c.fact 14 (by rfl))
  case f15 => exact He.glo_ok X G (c.fact 15 (by rfl))
  case f16 => exact He.glo_ok X G (c.fact 16 (by rfl))
  case f17 => exact He.glo_ok X G (c.fact 17 (by rfl))
  case f18 => exact He.glo_ok X G (c.fact 18 (by rfl))
  case f19 => exact He.glo_ok X G (c.fact 19 (by rfl))
  case f20 => exact He.glo_ok X G (c.fact 20 (by rfl))
  case f21 => exact He.glo_ok X G (c.fact 21 (by rfl))
  case f22 => exact He.glo_ok X G (c.fact 22 (by rfl))
  case f23 => exact He.glo_ok X G (c.fact 23 (by rfl))
  case f24 => exact He.glo_ok X G (c.fact 24 (by rfl))
  case f25 => exact He.glo_ok X G (c.fact 25 (by rfl))
  case f26 => exact He.glo_ok X G (c.fact 26 (by rfl))
  case f27 => exact He.glo_ok X G (c.fact 27 (by rfl))
  case f28 => exact He.glo_ok X G (c.fact 28 (by rfl))
  case f29 => exact He.glo_ok X G (c.fact 29 (by rfl))
  case f30 => exact He.glo_ok X G (c.fact 30 (by rfl))
  case f31 => exact He.glo_ok X G (c.fact 31 (by rfl))
  case f32 => exact He.glo_ok X G (c.fact 32 (by rfl))
  case f33 => exact He.glo_ok X G (c.fact 33 (by rfl))
  case f34 => exact He.glo_ok X G (c.fact 34 (by rfl))
  case f35 => exact He.glo_ok X G (c.fact 35 (by rfl))
  case f36 => exact He.glo_ok X G (c.fact 36 (by rfl))
  case f37 => exact He.keep_ok (c.fact 37 (by rfl))
  case f38 => exact (exs_at e 0 (by rfl))
  case f39 => exact of_decide_eq_true (exs_at e 1 (by rfl))
  case f40 => exact of_decide_eq_true (exs_at e 2 (by rfl))
  case f41 => exact of_decide_eq_true (exs_at e 3 (by rfl))
  case f42 => exact of_decide_eq_true (exs_at e 4 (by rfl))
  case f43 => exact of_decide_eq_true (exs_at e 5 (by rfl))
  case f44 => exact of_decide_eq_true (exs_at e 6 (by rfl))
  case f45 => exact of_decide_eq_true (exs_at e 7 (by rfl))
  case f46 => exact He.glo_ok X G (c.fact 38 (by rfl))
  case f47 => exact He.keep_ok (c.fact 39 (by rfl))
  case f48 => exact (exs_at e 8 (by rfl))
  case f49 => exact of_decide_eq_true (exs_at e 9 (by rfl))
  case f50 => exact of_decide_eq_true (exs_at e 10 (by rfl))
  case f51 => exact of_decide_eq_true (exs_at e 11 (by rfl))
  case f52 => exact of_decide_eq_true (exs_at e 12 (by rfl))
  case f53 => exact of_decide_eq_true (exs_at e 13 (by rfl))
  case f54 => exact of_decide_eq_true (exs_at e 14 (by rfl))
  case f55 => exact of_decide_eq_true (exs_at e 15 (by rfl))
  case f56 => exact He.glo_ok X G (c.fact 40 (by rfl))
  case f57 => exact He.keep_ok (c.fact 41 (by rfl))
  case f58 => exact (exs_at e 16 (by rfl))
  case f59 => exact of_decide_eq_true (exs_at e 17 (by rfl))
  case f60 => exact of_decide_eq_true (exs_at e 18 (by rfl))
  case f61 => exact of_decide_eq_true (exs_at e 19 (by rfl))
  case f62 => exact of_decide_eq_true (exs_at e 20 (by rfl))
  case f63 => exact of_decide_eq_true (exs_at e 21 (by rfl))
  case f64 => exact of_decide_eq_true (exs_at e 22 (by rfl))
  case f65 => exact of_decide_eq_true (exs_at e 23 (by rfl))
  case f66 => exact He.glo_ok X G (c.fact 42 (by rfl))
  case f67 => exact He.keep_ok (c.fact 43 (by rfl))
  case f68 => exact (exs_at e 24 (by rfl))
  case f69 => exact of_decide_eq_true (exs_at e 25 (by rfl))
  case f70 => exact of_decide_eq_true (exs_at e 26 (by rfl))
  case f71 => exact of_decide_eq_true (exs_at e 27 (by rfl))
  case f72 => exact of_decide_eq_true (exs_at e 28 (by rfl))
  case f73 => exact of_decide_eq_true (exs_at e 29 (by rfl))
  case f74 => exact of_decide_eq_true (exs_at e 30 (by rfl))
  case f75 => exact of_decide_eq_true (exs_at e 31 (by rfl))
  case f76 => exact He.glo_ok X G (c.fact 44 (by rfl))
  case f77 => exact He.keep_ok (c.fact 45 (by rfl))
  case f78 => exact of_decide_eq_true (exs_at e 32 (by rfl))
  case f79 => exact of_decide_eq_true (exs_at e 33 (by rfl))
  case f80 => exact of_decide_eq_true (exs_at e 34 (by rfl))
  case f81 => exact of_decide_eq_true (exs_at e 35 (by rfl))
  case f82 => exact of_decide_eq_true (exs_at e 36 (by rfl))
  case f83 => exact of_decide_eq_true (exs_at e 37 (by rfl))
  case f84 => exact of_decide_eq_true (exs_at e 38 (by rfl))
  case f85 => exact He.glo_ok X G (c.fact 46 (by rfl))
  case f86 => exact He.keep_ok (c.fact 47 (by rfl))
  case f87 => exact He.cls_ok (c.fact 48 (by rfl))
  case f88 => exact He.mkr_ok (c.fact 49 (by rfl))
  case f89 => exact He.noat_ok (c.fact 50 (by rfl))
  case f90 => exact He.noat_ok (c.fact 51 (by rfl))
  case f91 => exact He.noat_ok (c.fact 52 (by rfl))
  case f92 => exact He.meth_ok (c.fact 53 (by rfl))
  case f93 => exact He.meth_ok (c.fact 54 (by rfl))
  case f94 => exact He.meth_ok (c.fact 55 (by rfl))
  case f95 => exact He.meth_ok (c.fact 56 (by rfl))
  case f96 => exact He.meth_ok (c.fact 57 (by rfl))
  case f97 => exact He.meth_ok (c.fact 58 (by rfl))
  case f98 => exact He.meth_ok (c.fact 59 (by rfl))
  case f99 => exact He.meth_ok (c.fact 60 (by rfl))
  case f100 => exact of_decide_eq_true (exs_at e 39 (by rfl))
  case f101 => exact of_decide_eq_true (exs_at e 40 (by rfl))
  case f102 => exact of_decide_eq_true (exs_at e 41 (by rfl))
  case f103 => exact of_decide_eq_true (exs_at e 42 (by rfl))
  case f104 => exact of_decide_eq_true (exs_at e 43 (by rfl))
  case f105 => exact of_decide_eq_true (exs_at e 44 (by rfl))
  case f106 => exact of_decide_eq_true (exs_at e 45 (by rfl))
  case f107 => exact of_decide_eq_true (exs_at e 46 (by rfl))
  case f108 => exact of_decide_eq_true (exs_at e 47 (by rfl))
  case f109 => exact of_decide_eq_true (exs_at e 48 (by rfl))
  case f110 => exact of_decide_eq_true (exs_at e 49 (by rfl))
  case f111 => exact of_decide_eq_true (exs_at e 50 (by rfl))
  case f112 => exact of_decide_eq_true (exs_at e 51 (by rfl))
  case f113 => exact of_decide_eq_true (exs_at e 52 (by rfl))
  case f114 => exact of_decide_eq_true (exs_at e 53 (by rfl))
  case f115 => exact of_decide_eq_true (exs_at e 54 (by rfl))
  case f116 => exact of_decide_eq_true (exs_at e 55 (by rfl))
  case f117 => exact (exs_at e 56 (by rfl))
  case f118 => exact (exs_at e 57 (by rfl))
  case f119 => exact of_decide_eq_true (exs_at e 58 (by rfl))
  case f120 => exact of_decide_eq_true (exs_at e 59 (by rfl))
  case f121 => exact of_decide_eq_true (exs_at e 60 (by rfl))
  case f122 => exact of_decide_eq_true (exs_at e 61 (by rfl))
  case f123 => exact (exs_at e 62 (by rfl))
  case f124 => exact (exs_at e 63 (by rfl))
  case f125 => exact of_decide_eq_true (exs_at e 64 (by rfl))
  case f126 => exact of_decide_eq_true (exs_at e 65 (by rfl))
  case f127 => exact of_decide_eq_true (exs_at e 66 (by rfl))
  case f128 => exact of_decide_eq_true (exs_at e 67 (by rfl))
  case f129 => exact of_decide_eq_true (exs_at e 68 (by rfl))
  case f130 => exact of_decide_eq_true (exs_at e 69 (by rfl))
  case f131 => exact of_decide_eq_true (exs_at e 70 (by rfl))
  case f132 => exact He.free_ok X G (c.fact 61 (by rfl))
  case f133 => exact He.free_ok X G (c.fact 62 (by rfl))
  case f134 => exact He.free_ok X G (c.fact 63 (by rfl))
  case f135 => exact He.free_ok X G (c.fact 64 (by rfl))
  case f136 => exact He.free_ok X G (c.fact 65 (by rfl))
  case f137 => exact He.free_ok X G (c.fact 66 (by rfl))
  case f138 => exact He.free_ok X G (c.fact 67 (by rfl))
  case f139 => exact He.free_ok X G (c.fact 68 (by rfl))
  case f140 => exact He.free_ok X G (c.fact 69 (by rfl))
  case f141 => exact He.free_ok X G (c.fact 70 (by rfl))
  case f142 => exact He.int_ok X G (c.fact 71 (by rfl))
  case f143 => exact He.int_ok X G (c.fact 72 (by rfl))
  case f144 => exact He.int_ok X G (c.fact 73 (by rfl))
  case f145 => exact He.int_ok X G (c.fact 74 (by rfl))
  case f146 => exact He.int_ok X G (c.fact 75 (by rfl))
  case f147 => exact He.int_ok X G (c.fact 76 (by rfl))
  case f148 => exact He.glo_ok X G (c.fact 77 (by rfl))
  case f149 => exact fun H => He.tupB_ok (exs_at e 71 (by rfl)) H
  case f150 => exact He.str_ok X G (c.fact 78 (by rfl))
  case f151 => exact He.int_ok X G (c.fact 79 (by rfl))
  case d0 => exact c.def_ 0 (d := dd_BadText___init__) (by rfl)
  case d1 => exact c.def_ 1 (d := dd_is_number) (by rfl)
  case d2 => exact c.def_ 2 (d := dd_is_thing) (by rfl)
  case d3 => exact c.def_ 3 (d := dd_is_call) (by rfl)
  case d4 => exact c.def_ 4 (d := dd_is_step) (by rfl)
  case d5 => exact c.def_ 5 (d := dd_is_body) (by rfl)
  case d6 => exact c.def_ 6 (d := dd_bodies_of) (by rfl)
  case d7 => exact c.def_ 7 (d := dd_count) (by rfl)
  case d8 => exact c.def_ 8 (d := dd_is_work) (by rfl)
  case d9 => exact c.def_ 9 (d := dd_need_program) (by rfl)
  case d10 => exact c.def_ 10 (d := dd_Line___init__) (by rfl)
  case d11 => exact c.def_ 11 (d := dd_Line_here) (by rfl)
  case d12 => exact c.def_ 12 (d := dd_Line_must) (by rfl)
  case d13 => exact c.def_ 13 (d := dd_Line_word) (by rfl)
  case d14 => exact c.def_ 14 (d := dd_Line_number) (by rfl)
  case d15 => exact c.def_ 15 (d := dd_Line_thing_here) (by rfl)
  case d16 => exact c.def_ 16 (d := dd_Line_inner) (by rfl)
  case d17 => exact c.def_ 17 (d := dd_Line_steps_here) (by rfl)
  case d18 => exact c.def_ 18 (d := dd_Line_step) (by rfl)
  case d19 => exact c.def_ 19 (d := dd_read) (by rfl)
  case d20 => exact c.def_ 20 (d := dd__law_taken) (by rfl)
  case d21 => exact c.def_ 21 (d := dd__law_alike) (by rfl)
  case d22 => exact c.def_ 22 (d := dd__law_thing) (by rfl)
  case d23 => exact c.def_ 23 (d := dd__law_place) (by rfl)
  case d24 => exact c.def_ 24 (d := dd__law_step) (by rfl)
  case d25 => exact c.def_ 25 (d := dd__law_body) (by rfl)
  case d26 => exact c.def_ 26 (d := dd__law_program) (by rfl)
  case d27 => exact c.def_ 27 (d := dd__law_ways) (by rfl)
  case d28 => exact c.def_ 28 (d := dd__law_cells) (by rfl)
  case d29 => exact c.def_ 29 (d := dd__law_words) (by rfl)
  case d30 => exact c.def_ 30 (d := dd__law_text) (by rfl)
  case d31 => exact c.def_ 31 (d := dd__law_is_number) (by rfl)
  case d32 => exact c.def_ 32 (d := dd__law_is_thing) (by rfl)
  case d33 => exact c.def_ 33 (d := dd__law_is_step) (by rfl)
  case d34 => exact c.def_ 34 (d := dd__law_is_body) (by rfl)
  case d35 => exact c.def_ 35 (d := dd__law_count) (by rfl)
  case d36 => exact c.def_ 36 (d := dd__law_is_program) (by rfl)
  case d37 => exact c.def_ 37 (d := dd__law_is_figures) (by rfl)
  case d38 => exact c.def_ 38 (d := dd__law_thing_at) (by rfl)
  case d39 => exact c.def_ 39 (d := dd__law_things_at) (by rfl)
  case d40 => exact c.def_ 40 (d := dd__law_step_at) (by rfl)
  case d41 => exact c.def_ 41 (d := dd__law_body_at) (by rfl)
  case d42 => exact c.def_ 42 (d := dd__law_reading) (by rfl)
  case d43 => exact c.def_ 43 (d := dd__law_told) (by rfl)
  case d44 => exact c.def_ 44 (d := dd__law_changed) (by rfl)
  case d45 => exact c.def_ 45 (d := dd_law) (by rfl)
end Hw
set_option maxRecDepth 100000
set_option maxHeartbeats 0
open PySem PySem.W PySem.Calls PyProof.Rows
theorem PySem.Challenge.cw_handways_k12_texts_refused_holds : PySem.Challenge.rw_handways_k12_texts_refused.Holds := by
  w_on; o_law
  refine HandSHeadRun.head_any (r := OpenLaw.row PySem.Challenge.rw_handways_k12_texts_refused) (q := view (OpenLaw.row PySem.Challenge.rw_handways_k12_texts_refused).prog [54]) (H := Hw.hk) (ob := Hw.ob) (M := 8000) (loose := Hw.loose)
    (d := HandSHeadRun.topDef (OpenLaw.row PySem.Challenge.rw_handways_k12_texts_refused).prog 54) (kwd := []) Hw.ob_eq (by kernel_rfl) (fun s => by kernel_rfl) Hw.run (by kernel_rfl) (by kernel_rfl) (by kernel_rfl) (by rfl)
    (by first | assumption | decide +kernel) (by decide +kernel) ⟨rfl, rfl, rfl, rfl, rfl, by decide +kernel⟩ ?hw ?hc
  case hw => w_witness2
  case hc =>
    refine L2.walk_ofE (l := PySem.Challenge.rw_handways_k12_texts_refused) (n := 63) (k := 213) (x := "_law_script") (CX := L2.CX0) rfl (by decide) (by kernel_rfl) ⟨rfl, by decide, by decide⟩ ?F (fun _ _ _ _ z => z)
    intro w mg fa h Y G hmg0
    obtain ⟨K, KX, y⟩ := Y
    have T := Hw.tx_of KX G y
    have e : (HandSHeadRun.topDef (OpenLaw.row PySem.Challenge.rw_handways_k12_texts_refused).prog 54).name = ("law" : PySem.Str) := by kernel_rfl
    rw [e] at hmg0
    have e2 := hmg0.symm.trans T.g_law
    cases e2
    have b := L2.FunD.bindsA (ps := ["_law_script"]) T.F_law fun _ _ _ _ _ _ us hl => match us, hl with | [_], _ => rfl
    exact ⟨K, T.fd_law, Hw.spLaw K, KX, fun s v => b s [v] rfl, fun H a ns hl _ hS => ⟨a, ns, rfl, hS, hl, fun _ => rfl⟩, fun base _ _ => Hw.law_ok T⟩
