import PyProof.Rows.All
import Wide.All
import OpenK.AllK
import Wide.FinOn
import HandS.Codes
import HandS.Deep
import HandS.Defaults
import HandS.ForMost
import HandS.Head0
import HandS.Head1
import HandS.Head2
import HandS.HeadEnd
import HandS.HeadHook1
import HandS.HeadHook2
import HandS.HeadHook3
import HandS.HeadHook4
import HandS.HeadWalk
import HandS.IsInst
import HandS.Lambda
import HandS.More
import HandS.NoneIn
import HandS.SetFor
import HandS.Small
import HandS.SortInts
import HandS.SortKw
import HandS.Strs
import HandS.Style
import HandS.TupAny
import HandS.TupMul
import HandS.TupSets
import HandS.Zip
import KE.DataCmp
import KE.DataMinKey
import KE.GoesMore
import KE.GoesZip
import KE.KDictLaws
import KE.KDictZip
import KE.SortData
import PyProof.ListNew
import PySem.Challenge.RW_shownlater_k13_whole_one_behind_another
set_option Elab.async false
set_option linter.all false
set_option maxRecDepth 100000
set_option maxHeartbeats 4000000
namespace L2.K13
open PySem PySem.Spec PyProof.Rows L2
section
variable {X : Cx}
/-! ### operators of several kinds -/
def rAddU (K : PySem.W.Frag) : R2 := fun x y H Q => (rI0 fun i j => .int (i + j)) x y H Q ∨ (rCat x y H Q ∨ rCatA K x y H Q)
theorem op_addU : OpR X (binaryOp .Add) (rAddU X.K) := OpR.or op_add (OpR.or op_cat op_catA)
def rMulU (K : PySem.W.Frag) : R2 := fun x y H Q => (rI CMul fun i j => .int (i * j)) x y H Q ∨ rRepT K x y H Q
theorem op_mulU : OpR X (binaryOp .Mult) (rMulU X.K) := OpR.or op_mul op_repT
def rEqU (K : PySem.W.Frag) : R2 := fun x y H Q => rEq x y H Q ∨ rEqD K x y H Q
theorem op_eqU (hu : X.A.units + 64 < cLine) : OpR X (compareOp .Eq) (rEqU X.K) := OpR.or op_eq (op_eqD hu)
def rNeU (K : PySem.W.Frag) : R2 := fun x y H Q => rNe x y H Q ∨ rNeD K x y H Q
theorem op_neU (hu : X.A.units + 64 < cLine) : OpR X (compareOp .NotEq) (rNeU X.K) := OpR.or op_ne (op_neD hu)
/-- a dict's item by a text -/
def rIxK : R2 := fun x y H Q => ∃ a v, x = .ref a ∧ DGet H a y (some v) ∧ Q v H
def rIxU (K : PySem.W.Frag) : R2 := fun x y H Q => rIxL K x y H Q ∨ (rIxT K x y H Q ∨ rIxK x y H Q)
def rSlU (K : PySem.W.Frag) : V → Option Int → Option Int → Hp → VK → Prop := fun x lo hi H Q => rSlL K x lo hi H Q ∨ rSlA K x lo hi H Q
theorem sl_U : SlR X (rSlU X.K) := SlR.or sl_list sl_tupA
def rSetU : TSet := fun o i v H Q => rSetL o i v H Q ∨ rSetD o i v H Q
theorem set_U (hu : X.A.units + 1 < cLine) : PSet X rSetU := by
  intro pins s σ H o i v ov iv u Q I ro ri rv h
  rcases h with h | h
  · exact set_list pins s σ H o i v ov iv u Q I ro ri rv h
  · exact set_dict hu pins s σ H o i v ov iv u Q I ro ri rv h
/-! ### attributes as targets -/
def gFld (K : PySem.W.Frag) (ta : TE) (f : Str) : TG := fun y σ H Q => ta σ H fun x H2 => ∃ a C dx fs, x = .ref a ∧ H2 a = some (.ins C dx fs) ∧ Cls K C ∧ NoAttr K C f ∧ fs.length < 1000 ∧
  Q σ (upd H2 a (.ins C dx (putF f y fs)))
theorem pg_fld {o : Expr} {f : Str} {pos : Pos} {ta : TE} (ho : PE X o ta) : PG X (.Attribute o f pos) (gFld X.K ta f) := by
  refine ⟨fun pins s σ H v u Q I r h => ?_⟩
  rw [PySem.arm_assign_Attribute]
  refine wpAny_bind (wpAny_holding (thn (ho.run pins s σ H _ I h) fun ov s1 ⟨x, H1, I1, r1, a, C, dx, fs, ex, ea, c, n, l, q⟩ => ?_))
  subst ex
  obtain rfl : ov = Value.ref a := r1
  refine wpAny_bind (wpAny_standAt (wpAny_bind (wpAny_holding (setattr_ok I1 ea c n l r fun s3 I3 => ?_))))
  exact wpAny_release ⟨σ, _, I3, q⟩
theorem ix_dict (hu : X.A.units + 1 < cLine) : IxR X rIxK := by
  intro value slice pins s σ H x y v u Q I rx ry h hs
  obtain ⟨a, r, ex, g, q⟩ := h
  subst ex
  obtain rfl : v = Value.ref a := rx
  have hT := dict_typeIs I g
  unfold subscriptTail
  refine wpAny_bind ?_
  rw [getitemInPython_of_ne hT.not_modules]
  refine wpAny_bind (wpAny_specialOf hT PySem.F.slot_dict_getitem.lookup ?_)
  have fin : wpAny (model X.prog X.w) X.A (subscripted slice false (.ref a) u) (fun r s₃ => wpAny (model X.prog X.w) X.A (letTemporaryGo value (.ref a) r >>= fun _ => pure r) (EP X pins σ Q) X.xe s₃) X.xe s := by
    rw [hs]
    exact wpAny_operating (d_getItem hu I g ry fun w' s3 I3 rw' => wpAny_bind (wpAny_letTemporaryGo (wpAny_pure ⟨r, H, I3, rw', q⟩)))
  first
    | exact wpAny_pure (wpAny_bind fin)
    | exact wpAny_bind (wpAny_pure (wpAny_bind fin))
    | exact wpAny_bind fin
theorem ix_U (hu : X.A.units + 1 < cLine) : IxR X (rIxU X.K) := IxR.or ix_list (IxR.or ix_tup (ix_dict hu))
end
end L2.K13
set_option Elab.async false
set_option linter.all false
set_option maxRecDepth 100000
set_option maxHeartbeats 4000000
namespace L2.K13
open PySem PySem.Spec PyProof.Rows PySem.SeqAt
section
variable {M : Model} {prog : Program} {w : World} {A : Around} {E : Value → Shared → Prop} {s : Shared} {K : PySem.W.Frag} {x y C : Addr} {ox oy : Obj} {od od' : Option Obj}
/-! ### == of instances that have no __eq__ of their own -/
theorem call_objEq2 {Q : Value → Shared → Prop} (X : K.In s.heap) (I : PySem.W.InstAt s.heap x ox C od) (hx : s.heap.get? x = some ox) (hnt : ox.cls ≠ .type "tuple") (hy : s.heap.get? y = some oy) (hxy : x ≠ y) (hm : PySem.W.mroIn K C (.type "object") = some true) (hq : Q .notImplemented s) :
    wpAny (model prog w) A (call (.builtin "object.__eq__") [.ref x, .ref y]) Q E s :=
  wpAny_call (codeAny_call_builtin F.cmp_object.eq.plain F.cmpEntry_eq (PySem.W.check_slot F.cmpKind_eq F.cmpSplit_eq (I.type.andThen (PySem.W.looks_mroIn X hm)) (F.cmpArgs_eq _ _) (objEq_entry_other hxy hx hy hnt hq)))
theorem rc_inst (hu : A.units < cLine) (X : K.In s.heap) (I : PySem.W.InstAt s.heap x ox C od) (J : PySem.W.InstAt s.heap y oy C od') (hx : s.heap.get? x = some ox) (hy : s.heap.get? y = some oy) (hnx : ox.cls ≠ .type "tuple") (hny : oy.cls ≠ .type "tuple")
    (hxy : x ≠ y) (hm : PySem.W.mroIn K C (.type "object") = some true) (hs : PySem.W.findIn K (.ref C) "__eq__" = some (some (.builtin "object.__eq__"))) :
    RcAt A s (.ref x) (.ref y) false := fun prog w E Q h => by
  have one : wpAny (model prog w) A (tryCompare (.ref x) "__eq__" (.ref y)) (fun r s' => r = none ∧ s' = s) E s := by
    unfold tryCompare
    exact wpAny_bind (HN.ifBound_objEq X I hs (call_objEq2 X I hx hnx hy hxy hm (wpAny_pure ⟨rfl, rfl⟩)))
  have two : wpAny (model prog w) A (tryCompare (.ref y) "__eq__" (.ref x)) (fun r s' => r = none ∧ s' = s) E s := by
    unfold tryCompare
    exact wpAny_bind (HN.ifBound_objEq X J hs (call_objEq2 X J hy hny hx (Ne.symm hxy) hm (wpAny_pure ⟨rfl, rfl⟩)))
  simp only [richCompare, cmpInfo_Eq, oneThing_ref]
  refine wpAny_holding (wpAny_bind (wpAny_cRoomFor hu ?_))
  refine wpAny_bind (I.type.here ?_)
  refine wpAny_bind (J.type.here ?_)
  rw [if_neg (by simp)]
  refine wpAny_bind (wpAny_pure ?_)
  simp only [Bool.false_eq_true, if_false, Bool.not_false, if_true]
  refine wpAny_bind (m := tryCompare (.ref x) _ (.ref y)) (wpAny_mono one (fun r s1 z => ?_) fun _ _ e => e)
  obtain ⟨z1, z2⟩ := z
  subst z1
  subst z2
  refine wpAny_bind (m := tryCompare (.ref y) _ (.ref x)) (wpAny_mono two (fun r s2 z => ?_) fun _ _ e => e)
  obtain ⟨z1, z2⟩ := z
  subst z1
  subst z2
  exact wpAny_bind (wpAny_rule (wpAny_bind (wpAny_isSame_ref_other hxy hx hy hnx (wpAny_pure h))))
theorem eqAt_inst (hu : A.units < cLine) (X : K.In s.heap) (I : PySem.W.InstAt s.heap x ox C od) (J : PySem.W.InstAt s.heap y oy C od') (hx : s.heap.get? x = some ox) (hy : s.heap.get? y = some oy) (hnx : ox.cls ≠ .type "tuple") (hny : oy.cls ≠ .type "tuple")
    (hm : PySem.W.mroIn K C (.type "object") = some true) (hs : PySem.W.findIn K (.ref C) "__eq__" = some (some (.builtin "object.__eq__"))) :
    EqAt A s (.ref x) (.ref y) (decide (x = y)) := by
  by_cases hxy : x = y
  · subst hxy
    rw [decide_eq_true rfl]
    exact SeqAt.EqAt.same _
  · rw [decide_eq_false hxy]
    intro prog w E Q h
    unfold eqBool
    refine wpAny_holding ?_
    refine wpAny_ite_split (fun hab => absurd (by have := eq_of_beq hab; injection this) hxy) (fun _ => ?_)
    exact wpAny_bind (rc_inst hu X I J hx hy hnx hny hxy hm hs prog w E _ (wpAny_truthy_bool h))
/-- None == an instance -/
theorem rc_noneL (hu : A.units < cLine) (X : K.In s.heap) (I : PySem.W.InstAt s.heap x ox C od) (hm : PySem.W.mroIn K C (.type "object") = some true) (hs : PySem.W.findIn K (.ref C) "__eq__" = some (some (.builtin "object.__eq__")))
    (hn : PySem.W.subIn K (.ref C) (.type "NoneType") = some false) :
    RcAt A s .none (.ref x) false := fun prog w E Q h => by
  have one : wpAny (model prog w) A (tryCompare (.ref x) "__eq__" .none) (fun r s' => r = none ∧ s' = s) E s := by
    unfold tryCompare
    exact wpAny_bind (HN.ifBound_objEq X I hs (HN.call_objEq X I hm (wpAny_pure ⟨rfl, rfl⟩)))
  have two : wpAny (model prog w) A (tryCompare .none "__eq__" (.ref x)) (fun r s' => r = none ∧ s' = s) E s :=
    wpAny_tryCompare_declines (show s.TypeIs .none "NoneType" from rfl) F.slot_NoneType_eq_refl (call_gives F.slot_NoneType_eq_refl rfl F.entry_NoneType_eq (F.args_NoneType_eq_2 _ _) (NoneType___eq___none_ref_0 x) ⟨rfl, rfl, rfl⟩)
  have oneT : oneThing? .Eq .none (.ref x) = none := rfl
  simp only [richCompare, cmpInfo_Eq, oneT]
  refine wpAny_holding (wpAny_bind (wpAny_cRoomFor hu ?_))
  refine wpAny_bind (wpAny_typeOf (show s.TypeIs .none "NoneType" from rfl) ?_)
  refine wpAny_bind (I.type.here ?_)
  split
  · refine wpAny_bind ((PySem.W.looks_subIn X hn).here ?_)
    simp only [Bool.false_eq_true, if_false, Bool.not_false, if_true]
    refine wpAny_bind (m := tryCompare .none _ (.ref x)) (wpAny_mono two (fun r s2 z => ?_) fun _ _ e => e)
    obtain ⟨z1, z2⟩ := z
    subst z1
    subst z2
    refine wpAny_bind (m := tryCompare (.ref x) _ .none) (wpAny_mono one (fun r s1 z => ?_) fun _ _ e => e)
    obtain ⟨z1, z2⟩ := z
    subst z1
    subst z2
    exact wpAny_bind (wpAny_rule (wpAny_bind (wpAny_of_eq (rfl : isSame .none (.ref x) = pure false) (wpAny_pure h))))
  · rename_i q
    exact absurd (by simp) q
theorem eqAt_noneL (hu : A.units < cLine) (X : K.In s.heap) (I : PySem.W.InstAt s.heap x ox C od) (hm : PySem.W.mroIn K C (.type "object") = some true) (hs : PySem.W.findIn K (.ref C) "__eq__" = some (some (.builtin "object.__eq__")))
    (hn : PySem.W.subIn K (.ref C) (.type "NoneType") = some false) :
    EqAt A s .none (.ref x) false := fun prog w E Q h => by
  unfold eqBool
  refine wpAny_holding ?_
  refine wpAny_ite_split (fun hab => absurd (eq_of_beq hab) nofun) (fun _ => ?_)
  exact wpAny_bind (rc_noneL hu X I hm hs hn prog w E _ (wpAny_truthy_bool h))
end
end L2.K13
set_option Elab.async false
set_option linter.all false
set_option maxRecDepth 100000
set_option maxHeartbeats 4000000
namespace L2.K13
open PySem PySem.Spec PyProof.Rows L2
open PySem.MeetsSeq2 PySem.MeetsSeq3 PySem.SeqRoads2 PySem.AutoSeq1 in
theorem remove_loopAt (l : Addr) (items : Array Value) (n : Nat) (x : Value) (e : Value → Bool) (j : Nat) (hj : j < items.size) (hit : e items[j] = true) (k : Nat) (hs1 : items.size ≤ sizeLine) :
    ∀ i : Nat, j - i = k → i ≤ j → (∀ m (hm : m < items.size), i ≤ m → m < j → e items[m] = false) → Meets (Builtin.«list.remove.loop» ⟨[.ref l, x, rawInt i], []⟩)
      (fun A R s => s.heap.get? l = some { cls := .type "list", dict := none, data := .seq items n, slots := #[] } ∧ (∀ y, y ∈ items → SeqAt.EqAt A.in1 s y x (e y)) ∧ R (.ok (.ret .none)) { s with heap := s.heap.update l (Obj.mapSeq fun xs => xs.eraseIdxIfInBounds j) }) := by
  induction k with
  | zero =>
    intro i hk hij hno prog w A R s h
    obtain ⟨hp, g, d, tk, os⟩ := s; obtain ⟨hl, he, h⟩ := h
    have hij' : i = j := by omega
    subst hij'
    wp_walk using wpAny_loadPart' hl
    have hi : items[((i : Nat) : Int).toNat]? = some items[i] := by simp [hj]
    rw [hi]
    refine wpAny_bind (he _ (Array.getElem_mem hj) prog w _ _ ?_)
    rw [hit]
    have hz' : (items.eraseIdxIfInBounds i).size ≤ sizeLine + 1 := Nat.le_trans (MeetsSeq.size_erased items _) (Nat.le_succ_of_le hs1)
    wp_walk using (wpAny_updateSeq hl rfl (hz := hs1) (_hz' := hz')), wpAny_loadPart' hl
    simpa using h
  | succ k ih =>
    intro i hk hij hno prog w A R s h
    obtain ⟨hp, g, d, tk, os⟩ := s; obtain ⟨hl, he, h⟩ := h
    have hlt : i < items.size := by omega
    wp_walk using wpAny_loadPart' hl
    have hi : items[((i : Nat) : Int).toNat]? = some items[i] := by simp [hlt]
    have hc : ((i : Int) + 1) = ((i + 1 : Nat) : Int) := by push_cast; rfl
    rw [hi]
    refine wpAny_bind (he _ (Array.getElem_mem hlt) prog w _ _ ?_)
    rw [hno i hlt (Nat.le_refl _) (by omega)]
    wp_walk
    rw [hc]
    exact ⟨plainId_quiet MeetsSeq.plain_remove_loop _, codeAny_builtin MeetsSeq.entry_remove_loop (by
      rw [Around.under_plainId MeetsSeq.plain_remove_loop _]
      exact ih (i + 1) (by omega) (by omega) (fun m hm h1 h2 => hno m hm (by omega) h2) prog w A R _ ⟨hl, he, h⟩)⟩
open PySem.MeetsSeq2 PySem.MeetsSeq3 PySem.SeqRoads2 PySem.AutoSeq1 in
theorem list_removeAt (l : Addr) (items : Array Value) (n : Nat) (x : Value) (e : Value → Bool) (j : Nat) (hj : j < items.size)
    (hit : e items[j] = true) (hno : ∀ m (hm : m < items.size), m < j → e items[m] = false) (hs1 : items.size ≤ sizeLine) :
    Meets (Builtin.«list.remove» ⟨[.ref l, x], []⟩)
      (fun A R s => s.heap.get? l = some { cls := .type "list", dict := none, data := .seq items n, slots := #[] } ∧ (∀ y, y ∈ items → SeqAt.EqAt A.in1 s y x (e y)) ∧ R (.ok (.ret .none)) { s with heap := s.heap.update l (Obj.mapSeq fun xs => xs.eraseIdxIfInBounds j) }) := by
  intro prog w A R s h
  obtain ⟨hp, g, d, tk, os⟩ := s; obtain ⟨hl, he, h⟩ := h
  wp_walk using wpAny_loadPart' hl
  exact ⟨plainId_quiet MeetsSeq.plain_remove_loop _, codeAny_builtin MeetsSeq.entry_remove_loop (by
    rw [Around.under_plainId MeetsSeq.plain_remove_loop _]
    exact remove_loopAt l items n x e j hj hit _ hs1 0 rfl (Nat.zero_le _) (fun m hm _ h2 => hno m hm h2) prog w A R _ ⟨hl, he, h⟩)⟩
/-- a class without an __eq__ of its own -/
structure EqId (K : PySem.W.Frag) (C : Addr) : Prop where
  m : PySem.W.mroIn K C (.type "object") = some true
  e : PySem.W.findIn K (.ref C) "__eq__" = some (some (.builtin "object.__eq__"))
  n : PySem.W.subIn K (.ref C) (.type "NoneType") = some false
/-- None, or an instance of C -/
def NI (C : Addr) (H : Hp) (z : V) : Prop := z = .non ∨ ∃ a dx fs, z = .ref a ∧ H a = some (.ins C dx fs)
def isR (b : Addr) : Value → Bool
  | .ref a => decide (a = b)
  | _ => false
section
variable {X : Cx}
theorem ni_eq {A : Around} {pins : List (Addr × Obj)} {σ : St} {H : Hp} {s : Shared} {C b dx : Addr} {fs : List (Str × V)} (I : Inv X pins σ H s) (hu : A.units < cLine) (E : EqId X.K C) (hb : H b = some (.ins C dx fs)) {z : V} {u : Value} (r : RelV z u) (f : NI C H z) :
    SeqAt.EqAt A s u (.ref b) (isR b u) := by
  obtain ⟨mB, O, _⟩ := ins_get I.hok hb
  obtain ⟨od, J, _⟩ := O.look
  rcases f with rfl | ⟨a, dxa, fsa, rfl, ha⟩
  · cases r
    exact eqAt_noneL hu I.kIn J E.m E.e E.n
  · cases r
    obtain ⟨mA, O', _⟩ := ins_get I.hok ha
    obtain ⟨od', J', _⟩ := O'.look
    exact eqAt_inst hu I.kIn J' J J'.at_ J.at_ (by rw [J'.cls]; intro z; cases z) (by rw [J.cls]; intro z; cases z) E.m E.e
theorem mem_ni {A : Around} {pins : List (Addr × Obj)} {σ : St} {H : Hp} {s : Shared} {C b dx : Addr} {fs : List (Str × V)} (I : Inv X pins σ H s) (hu : A.units < cLine) (E : EqId X.K C) (hb : H b = some (.ins C dx fs)) :
    ∀ {xs : List V} {us : List Value}, Vals xs us → (∀ z ∈ xs, NI C H z) → ∀ u ∈ us, SeqAt.EqAt A s u (.ref b) (isR b u)
  | _, _, .nil, _ => fun u hu' => by cases hu'
  | y :: xs, u :: us, .cons r t, f => fun u' hu' => by
    rcases List.mem_cons.mp hu' with e | hu'
    · subst e
      exact ni_eq I hu E hb r (f y (List.mem_cons_self ..))
    · exact mem_ni I hu E hb t (fun z hz => f z (List.mem_cons_of_mem _ hz)) u' hu'
theorem isR_rel {b : Addr} : ∀ {z : V} {u : Value}, RelV z u → isR b u = decide (z = .ref b)
  | .non, _, r => by cases r; rfl
  | .bl _, _, r => by cases r; rfl
  | .int _, _, r => by obtain ⟨t, rfl⟩ := r; rfl
  | .str _, _, r => by obtain ⟨t, rfl⟩ := r; rfl
  | .byt _, _, r => by obtain ⟨t, rfl⟩ := r; rfl
  | .flt _, _, r => by obtain ⟨t, rfl⟩ := r; rfl
  | .ref a, _, r => by
    cases r
    show decide (a = b) = decide (V.ref a = V.ref b)
    by_cases e : a = b
    · subst e; simp
    · rw [decide_eq_false e, decide_eq_false (fun q => e (V.ref.inj q))]
  | .ty _, _, r => by cases r; rfl
theorem any_isR {b : Addr} : ∀ {xs : List V} {us : List Value}, Vals xs us → us.any (isR b) = decide (V.ref b ∈ xs)
  | _, _, .nil => by simp
  | y :: xs, u :: us, .cons r t => by
    rw [List.any_cons, isR_rel r, any_isR t]
    by_cases e : y = V.ref b
    · subst e; simp
    · rw [decide_eq_false e, Bool.false_or]
      by_cases h : V.ref b ∈ xs
      · rw [decide_eq_true h, decide_eq_true (List.mem_cons_of_mem _ h)]
      · rw [decide_eq_false h, decide_eq_false (fun q => (List.mem_cons.mp q).elim (fun z => e z.symm) h)]
def rInR (K : PySem.W.Frag) (neg : Bool) : R2 := fun x y H Q => ∃ C b dx fs p xs, x = .ref b ∧ H b = some (.ins C dx fs) ∧ y = .ref p ∧ SqL K H p xs ∧ (∀ z ∈ xs, NI C H z) ∧ EqId K C ∧
  Q (.bl (if neg then !decide (V.ref b ∈ xs) else decide (V.ref b ∈ xs))) H
theorem op_inR (hu : X.A.units + 64 < cLine) : OpR X (compareOp .In) (rInR X.K false) := by
  intro pins s σ H x y v u Q I rx ry h
  obtain ⟨C, b, dx, fs, p, xs, rfl, hb, rfl, hq, f, E, q⟩ := h
  cases rx
  cases ry
  obtain ⟨its, rv, hl, _⟩ := I.list hq
  have hu1 : X.A.in1.units < cLine := by show X.A.units + 1 < cLine; omega
  refine SeqAt.in_listAt (isR b) hl.isList (fun z hz => mem_ni I hu1 E hb rv f z (by simpa using hz)) ⟨.bl _, H, I, rfl, ?_⟩
  rw [show its.toArray.any (isR b) = its.any (isR b) by simp, any_isR rv]
  exact q
theorem op_niR (hu : X.A.units + 64 < cLine) : OpR X (compareOp .NotIn) (rInR X.K true) := by
  intro pins s σ H x y v u Q I rx ry h
  obtain ⟨C, b, dx, fs, p, xs, rfl, hb, rfl, hq, f, E, q⟩ := h
  cases rx
  cases ry
  obtain ⟨its, rv, hl, _⟩ := I.list hq
  have hu1 : X.A.in1.units < cLine := by show X.A.units + 1 < cLine; omega
  refine SeqAt.notIn_listAt (isR b) hl.isList (fun z hz => mem_ni I hu1 E hb rv f z (by simpa using hz)) ⟨.bl _, H, I, rfl, ?_⟩
  rw [show its.toArray.any (isR b) = its.any (isR b) by simp, any_isR rv]
  exact q
def rInU (K : PySem.W.Frag) (neg : Bool) : R2 := fun x y H Q => rIn K neg x y H Q ∨ (rInR K neg x y H Q ∨ (if neg then rNotInD K x y H Q else rInD K x y H Q))
theorem op_inU (hu : X.A.units + 65 < cLine) : OpR X (compareOp .In) (rInU X.K false) := OpR.or op_in_seq (OpR.or (op_inR (by omega)) (op_inD hu))
theorem op_niU (hu : X.A.units + 65 < cLine) : OpR X (compareOp .NotIn) (rInU X.K true) := OpR.or op_notIn_seq (OpR.or (op_niR (by omega)) (op_notInD hu))
/-- xs.remove(o), o an instance of a class without an __eq__ of its own -/
def rRemR (K : PySem.W.Frag) : V → List V → Hp → VK → Prop := fun x vs H Q => ∃ C l b dx fs xs, x = .ref l ∧ vs = [.ref b] ∧ H l = some (.lst xs) ∧ H b = some (.ins C dx fs) ∧ (∀ z ∈ xs, NI C H z) ∧ EqId K C ∧ V.ref b ∈ xs ∧
  Q .non (upd H l (.lst (xs.erase (.ref b))))
theorem first_atV : ∀ {xs : List V} {b : V}, b ∈ xs → ∃ j, j < xs.length ∧ xs[j]? = some b ∧ (∀ i, i < j → xs[i]? ≠ some b) ∧ xs.eraseIdx j = xs.erase b
  | [], b, h => absurd h (by simp)
  | a :: r, b, h => by
    by_cases e : a = b
    · refine ⟨0, Nat.succ_pos _, by rw [e] <;> rfl, fun i hi => absurd hi (Nat.not_lt_zero _), ?_⟩
      rw [e, List.erase_cons_head] <;> rfl
    · have hr : b ∈ r := by
        rcases List.mem_cons.mp h with z | z
        · exact absurd z.symm e
        · exact z
      obtain ⟨j, h1, h2, h3, h4⟩ := first_atV hr
      refine ⟨j + 1, Nat.succ_lt_succ h1, h2, fun i hi => ?_, ?_⟩
      · cases i with
        | zero =>
          intro z
          exact e (Option.some.inj z)
        | succ i => exact h3 i (Nat.lt_of_succ_lt_succ hi)
      · rw [List.erase_cons_tail (by rw [beq_iff_eq]; exact e), ← h4] <;> rfl
theorem mt_remR (hu : X.A.units + 64 < cLine) : MtR X "list.remove" (rRemR X.K) := by
  intro pins s σ H x xs v us Q I rx rxs h
  obtain ⟨C, l, b, dx, fs, xs, rfl, rfl, hH, hb, f, E, hm, q⟩ := h
  cases rx
  obtain ⟨u, rfl, ru⟩ := rxs.one
  cases ru
  obtain ⟨z, its, n, r, hl, e⟩ := I.lstM hH
  obtain ⟨j, j1, j2, j3, j4⟩ := first_atV hm
  have hjl : j < its.toArray.size := by rw [List.size_toArray]; omega
  have hu1 : X.A.in1.units < cLine := by show X.A.units + 1 < cLine; omega
  have at_ : ∀ (m : Nat) (hm : m < its.toArray.size), isR b its.toArray[m] = decide (xs[m]? = some (V.ref b)) := fun m hm => by
    have hml : m < its.length := by simpa using hm
    have hmx : m < xs.length := by omega
    obtain ⟨u, h1, h2⟩ := r.get (List.getElem?_eq_getElem hmx)
    rw [List.getElem?_eq_getElem hml] at h1
    have e1 : its.toArray[m] = u := by simpa using Option.some.inj h1
    rw [e1, isR_rel h2, List.getElem?_eq_getElem hmx]
    by_cases q : xs[m] = V.ref b
    · rw [decide_eq_true q, decide_eq_true (by rw [q])]
    · rw [decide_eq_false q, decide_eq_false (fun z => q (Option.some.inj z))]
  refine call_meets PySem.F.slot_list_remove ⟨_, e, rfl⟩ PySem.F.entry_list_remove (PySem.F.args_list_remove_2 _ _)
    (list_removeAt l its.toArray n (.ref b) (isR b) j hjl ?_ ?_ (by rw [List.size_toArray]; omega)) ⟨e, fun y hy => mem_ni I hu1 E hb r f y (by simpa using hy), ?_⟩
  · rw [at_ j hjl, decide_eq_true j2]
  · intro m hm hmj
    rw [at_ m hm, decide_eq_false (j3 m hmj)]
  · have rr := r.eraseIdx j
    rw [j4] at rr
    refine ⟨.non, _, I.lset (its' := its.eraseIdx j) (t' := s.toks) hH e ?_ rr ?_, rfl, q⟩
    · show its.toArray.eraseIdxIfInBounds j = (its.eraseIdx j).toArray
      rw [List.eraseIdxIfInBounds_toArray]
    · have z2 := List.length_erase_le (a := V.ref b) (l := xs)
      omega
end
end L2.K13
set_option Elab.async false
set_option linter.all false
set_option maxRecDepth 100000
set_option maxHeartbeats 4000000
namespace L2.K13
open PySem PySem.Spec PyProof.Rows L2 PySem.W
/-- sorted(xs), xs a list of data of one kind: some arrangement -/
def rSortD (K : PySem.W.Frag) : List V → Hp → VK → Prop := fun vs H Q => ∃ (a : Addr) (xs : List V) (ds : List PyData), vs = [V.ref a] ∧ SqL K H a xs ∧ DpAll K H xs ds ∧ AllAlike ds ∧ Sortable ds ∧ (∀ d ∈ ds, d.depth ≤ 8) ∧
  ∀ (ys : List V) (p : Addr), ys.Perm xs → H p = none → Q (.ref p) (upd H p (.lst ys))
theorem zip_fst : ∀ {xs : List V} {ds : List PyData}, xs.length = ds.length → (xs.zip ds).map (·.1) = xs
  | [], [], _ => rfl
  | x :: xs, d :: ds, h => by
    show x :: (xs.zip ds).map (·.1) = x :: xs
    rw [zip_fst (by simpa using h)]
  | [], _ :: _, h => by simp at h
  | _ :: _, [], h => by simp at h
theorem zip_snd : ∀ {xs : List V} {ds : List PyData}, xs.length = ds.length → (xs.zip ds).map (·.2) = ds
  | [], [], _ => rfl
  | x :: xs, d :: ds, h => by
    show d :: (xs.zip ds).map (·.2) = d :: ds
    rw [zip_snd (by simpa using h)]
  | [], _ :: _, h => by simp at h
  | _ :: _, [], h => by simp at h
theorem DpAll.len {K : PySem.W.Frag} {H : Hp} : ∀ {xs : List V} {ds : List PyData}, DpAll K H xs ds → xs.length = ds.length
  | _, _, .nil => rfl
  | _, _, .cons _ t => congrArg Nat.succ (DpAll.len t)
theorem each_of {h : Heap} : ∀ {xs : List V} {ds : List PyData} {its : List Value} {as : List Addr}, xs.length = ds.length → Vals xs its → ReadsAll h its ds as →
    EachIs (fun v (b : V × PyData) => RelV b.1 v) its (xs.zip ds) ∧ EachIs (fun v (b : V × PyData) => ∃ as, Reads h v b.2 as) its (xs.zip ds)
  | [], [], _, _, _, .nil, _ => ⟨.nil, .nil⟩
  | x :: xs, d :: ds, v :: its, _, hl, .cons r t, q => by
    cases q with
    | cons h1 h2 =>
      obtain ⟨a, b⟩ := each_of (by simpa using hl) t h2
      exact ⟨.cons r a, .cons ⟨_, h1⟩ b⟩
theorem vals_each : ∀ {bs : List (V × PyData)} {out : List Value}, EachIs (fun v (b : V × PyData) => RelV b.1 v) out bs → Vals (bs.map (·.1)) out
  | _, _, .nil => .nil
  | _, _, .cons h t => .cons h (vals_each t)
section
variable {X : Cx}
theorem cr_sortD (hu : X.A.units + 64 < cLine) : CallR X (.builtin "sorted") (rSortD X.K) := by
  intro pins s σ H vs us Q I r h
  obtain ⟨a, xs, ds, rfl, hs, hd, hal, hso, hdp, q⟩ := h
  rw [Vals.ref1 r]
  obtain ⟨its, rv, hl, hz⟩ := I.list hs
  obtain ⟨as, hr⟩ := Dp.readsAll I ds _ its hd rv
  have hlen := DpAll.len hd
  obtain ⟨e1, e2⟩ := each_of hlen rv hr
  have hds : (xs.zip ds).map (fun b => b.2) = ds := zip_snd hlen
  have hbl : (xs.zip ds).length = xs.length := by rw [List.length_zip]; omega
  refine sorted_data (enc := fun b : V × PyData => b.2) hl.isList e1 e2 (by rw [hds]; exact hal) (by rw [hds]; exact hso) (by omega) (fun b hb => ?_) fun out hol ho => ?_
  · have hm : b.2 ∈ ds := by
      rw [← hds]
      exact List.mem_map.mpr ⟨b, hb, rfl⟩
    have h8 := hdp _ hm
    have : X.A.units + 2 + b.2.depth < cLine := by omega
    exact this
  · have hv := vals_each ho
    have hp : (((xs.zip ds).mergeSort (dataLe false fun b : V × PyData => b.2)).map (·.1)).Perm xs := by
      have h1 := (List.mergeSort_perm (xs.zip ds) (dataLe false fun b : V × PyData => b.2)).map (·.1)
      rw [zip_fst hlen] at h1
      exact h1
    obtain ⟨ep, he'⟩ := PyProof.Rows.sortedAll_at s.heap its (List.toArray out)
    have hlen2 : (((xs.zip ds).mergeSort (dataLe false fun b : V × PyData => b.2)).map (·.1)).length ≤ sizeLine := by
      rw [hp.length_eq]; exact hz
    exact ⟨.ref _, upd H (s.heap.objs.size + 1) (.lst _), I.laid (t' := s.toks) (fun _ _ => PyProof.Rows.sortedAll_old) (Nat.le_succ _) ⟨hlen2, out, ep, hv, he'⟩, rfl, q _ _ hp (I.hok.fresh (Nat.le_succ _))⟩
end
end L2.K13
set_option Elab.async false
set_option linter.all false
set_option maxRecDepth 100000
set_option maxHeartbeats 4000000
namespace L2.K13
open PySem PySem.Spec PyProof.Rows L2
section
variable {P : Program} {w : World} {A : Around} {E : Value → Shared → Prop} {s : Shared}
theorem call_set_lstI {l : Addr} {items : Array Value} (ns : List Int) {Q : Value → Shared → Prop} (hh : A.handled = none) (hl : s.heap.IsList l items) (hit : IntsAre items.toList ns) (hb : ns.length + 1 < scanBound)
    (h : ∀ (h' : Heap) (tk c : Nat), SetR w h' s.heap.objs.size (fun j => decide (j ∈ ns)) c → c ≤ ns.length → (∀ b o, s.heap.get? b = some o → h'.get? b = some o) → Q (.ref s.heap.objs.size) { s with heap := h', toks := tk }) :
    wpAny (model P w) A (call (.type "set") [.ref l]) Q E s := by
  have hisz : items.size = ns.length := by
    have q := IntsAre.length hit
    rw [Array.length_toList] at q
    exact q
  obtain ⟨c, tl, hmro⟩ := F.called_set.mro
  have hmade := F.called_set.made
  have hsub := F.called_set.sub
  refine wpAny_call (codeAny_of_tree ?_)
  show wpAny _ _ (callAny (.type "set") _) _ _ _
  refine wpAny_pure ⟨Code.quiet_builtin _ (by decide +kernel), codeAny_builtin F.entry_type_call ?_⟩
  rw [Around.under_plain (weight_type_call_type "set" [.ref l] []) rfl]
  have h1 := F.called_set.notType
  have h2 := F.called_set.canCreate
  have hct := F.typeCall_set_1 (.ref l)
  repeat (any_goals (first | assumption | wp_step))
  let O : Obj := { cls := .type "set", dict := none, data := .set #[] 0 (.fresh 0 0 (!w.params.followText "set-order")) }
  refine codeAny_mono (code_set_led1 (.ref l) (E := E) (Q₁ := fun obj s₁ => obj = .ref s.heap.objs.size ∧ s₁ = { s with heap := s.heap.push O }) ⟨rfl, rfl⟩) fun r s₁ hr => ?_
  cases r with
  | error e => exact hr
  | ok fl =>
    cases fl with
    | ret obj =>
      obtain ⟨rfl, rfl⟩ := hr
      have hS : (s.heap.push O).get? s.heap.objs.size = some O := Heap.get?_push_size _ rfl
      have hT : Shared.TypeIs { s with heap := s.heap.push O } (.ref s.heap.objs.size) "set" := ⟨_, hS, rfl⟩
      have hli := F.called_set.init.lookup
      have hbi := F.called_set.init.bind (.ref s.heap.objs.size)
      repeat (any_goals (first | assumption | wp_step))
      refine codeAny_mono (codeAny_call_builtin (R := wants (fun r s₂ => r = .none ∧ ∃ h' tk c, s₂ = { s with heap := h', toks := tk } ∧ SetR w h' s.heap.objs.size (fun j => decide (j ∈ ns)) c ∧ c ≤ ns.length ∧
          (∀ b o, s.heap.get? b = some o → h'.get? b = some o)) E) F.called_set.init.plain F.entry_set_init (check_set_init_1 hT ?_)) fun r₂ s₂ hr₂ => ?_
      · obtain ⟨ol, hol, hcl, nl, hdl⟩ := hl
        obtain ⟨ocls, odict, odata, oslots⟩ := ol
        simp only at hcl hdl
        subst hcl; subst hdl
        have hol' : (s.heap.push O).get? l = some { cls := .type "list", dict := odict, data := .seq items nl, slots := oslots } := Heap.get?_push_of_some _ hol
        have hsls := F.sub_list_set
        have hslf := F.sub_list_frozenset
        have hne : (Value.type "list" == Value.type "dict") = false := by decide
        have hl1 : (s.heap.push O).IsList l items := ⟨_, hol', rfl, nl, rfl⟩
        unfold Builtin.«set.__init__» noKeywords Builtin.Frozenset.updateFrom
        generalize hPI : pyIter = PI
        wp_walk
        subst hPI
        refine wpAny_pyIter_list hl1 ?_
        refine wpAny_bind (wpAny_runValue ?_)
        have hlS : l < s.heap.objs.size := Heap.lt_size hol
        have hh3 : A.in1.in1.in1.handled = none := by simp [hh]
        have hz1 : (s.heap.push O).objs.size = s.heap.objs.size + 1 := Heap.size_push ..
        have hneI : l ≠ (s.heap.push O).objs.size := by
          rw [Heap.size_push]; exact Nat.ne_of_lt (Nat.lt_succ_of_lt hlS)
        have hSf : s.heap.objs.size ∉ [(s.heap.push O).objs.size, l] := by
          rw [Heap.size_push]; simp only [List.mem_cons, List.mem_singleton, List.not_mem_nil, or_false, not_or]
          exact ⟨Nat.ne_of_lt (Nat.lt_succ_self _), Nat.ne_of_gt hlS⟩
        have hval : ∀ (i : Nat) (v : Value), items[i]? = some v → ∃ k t, ns[i]? = some k ∧ v = .int k t := fun i v hv => by
          have hi : i < ns.length := by rw [← hisz]; exact (Array.getElem?_eq_some_iff.mp hv).1
          obtain ⟨t, e⟩ := PyProof.Rows.IntsAre.int_at hit i v (by rw [Array.getElem?_toList]; exact hv)
          refine ⟨ns[i], t, List.getElem?_eq_getElem hi, ?_⟩
          rw [e, List.getD_eq_getElem?_getD, List.getElem?_eq_getElem hi] <;> rfl
        refine set_update_ints ((Walks.list hh3 _ l hneI items).toS) s.heap.objs.size
          hSf ns hisz hb hval (items.size - 0) 0 _ (by omega) (Nat.zero_le _)
          ⟨⟨_, Heap.get?_push_size _ rfl, rfl, rfl⟩, (hl1.push _)⟩ ?hS0 ?hR
        case hS0 =>
          exact ⟨0, Nat.le_refl 0, setR_new_at (Heap.get?_push_of_some _ hS)⟩
        case hR =>
          intro s' c' hm hc' hS'
          obtain ⟨h', g2, d', tk', os'⟩ := s'
          have eg : g2 = s.gens := hm.gens
          have ed : d' = s.drawn := hm.drawn
          have eo : os' = s.os := hm.os
          subst eg; subst ed; subst eo
          show wpAny _ _ _ _ _ _
          refine wpAny_pure ?_
          show wpAny _ _ (ret Value.none) _ _ _
          rw [hisz] at hc'
          refine wpAny_pure ⟨rfl, h', tk', c', rfl, hS', hc', fun b o e => ?_⟩
          have hb0 : b < s.heap.objs.size := Heap.lt_size e
          have hb1 : b ≠ s.heap.objs.size := Nat.ne_of_lt hb0
          have hb2 : b ≠ (s.heap.push O).objs.size := by
            rw [Heap.size_push]; exact Nat.ne_of_lt (Nat.lt_succ_of_lt hb0)
          exact hm.heap b o (by simp only [List.mem_cons, List.mem_singleton, List.not_mem_nil, or_false, not_or]; exact ⟨hb1, hb2⟩) (Heap.get?_push_of_some _ (Heap.get?_push_of_some _ e))
      · cases r₂ with
        | error e => exact hr₂
        | ok fl₂ =>
          cases fl₂ with
          | ret r =>
            obtain ⟨rfl, h', tk, c', rfl, hS', hc', hk'⟩ := hr₂
            repeat (any_goals (first | assumption | wp_step))
            exact h _ _ _ hS' hc' hk'
          | _ => exact hr₂.elim
    | _ => exact hr.elim
end
section
variable {X : Cx}
/-- set(xs), xs a list of ints -/
def rSetLI (K : PySem.W.Frag) (w : World) : List V → Hp → VK → Prop := fun vs H Q => ∃ (l : Addr) (ns : List Int), vs = [V.ref l] ∧ SqL K H l (ns.map V.int) ∧ ns.length < 64 ∧ ∀ a S n, H a = none → n < 64 → Q (.ref a) (upd H a (SetO w a S n))
theorem cr_setLI (hc : X.calm = true) : CallR X (.type "set") (rSetLI X.K X.w) := by
  intro pins s σ H vs us Q I r h
  obtain ⟨l, ns, rfl, hl, hn, q⟩ := h
  rw [Vals.ref1 r]
  obtain ⟨its, rv, pl, hz⟩ := I.list hl
  refine call_set_lstI ns (I.ok.hd hc) pl.isList (by simpa using rv.ints) (by unfold scanBound; omega) fun h' tk c R hc2 k => ?_
  have J : Inv X pins σ (upd H s.heap.objs.size (SetO X.w s.heap.objs.size (fun j => decide (j ∈ ns)) c)) { s with heap := h', toks := tk } :=
    I.laid (t' := tk) k (Nat.le_refl _) ⟨R, by obtain ⟨o, es, ep, t, ho, _⟩ := R; exact ⟨o, ho⟩, fun h1 h2 p k => SetR.at p k⟩
  exact ⟨.ref _, _, J, rfl, q _ _ _ (I.hok.fresh (Nat.le_refl _)) (by omega)⟩
end
end L2.K13
set_option Elab.async false
set_option linter.all false
set_option maxRecDepth 100000
set_option maxHeartbeats 4000000
namespace L2.K13
open PySem PySem.Spec PySem.SeqAt PyProof.Rows L2
open PySem.W (dataLt alike alikeAll rcLt_alike rcGt_alike)
/-! ### min(xs, key=lambda a: (a.f, a.g)), max(..) of instances with ints -/
def kD (k : Int × Int) : PyData := .tuple [.int k.1, .int k.2]
def kLt (a b : Int × Int) : Bool := dataLt (kD a) (kD b)
/-- y before a, as min (max) asks -/
def kB (mx : Bool) (y a : Int × Int) : Bool := if mx then kLt a y else kLt y a
def kBt (mx : Bool) (ks : List (Int × Int)) (i j : Nat) : Bool := kB mx (ks.getD i (0, 0)) (ks.getD j (0, 0))
def kId (mx : Bool) : String := if mx then "max" else "min"
theorem kD_alike (a b : Int × Int) : alike (kD a) (kD b) = true := by simp [kD, alike, alikeAll]
section
variable {X : Cx} {pins : List (Addr × Obj)} {σ : L2.St} {H : Hp} {s : Shared}
/-- the function object of a lambda with one parameter, called -/
theorem lam_call1 {C : Addr} {q cc : Addr} {nm : String} {qual : Str} {params : Arguments} {scope : Scope} {a f g : Str} {pm ctv : Value} {pa1 pa2 pb1 pb2 tp : Pos} {tk : Nat} {A : Around} {Q : Value → Shared → Prop} {E : Value → Shared → Prop} {b dx : Addr} {fs : List (Str × V)} {k : Int × Int}
    (I : Inv X pins σ H s) (hdp : A.depth < recursionLimit) (hco : s.heap.CodeRec (.ref cc) qual)
    (hf : s.heap.get? q = some (PySem.W.kla_obj nm qual params (.Tuple [.Attribute (.Name a pa1) f pa2, .Attribute (.Name a pb1) g pb2] tk tp) scope [] pm cc ctv))
    (hsk : scope.kind = .function) (hsc : scope.isCoroutine = false) (hsg : scope.isGenerator = false) (hsn : scope.names = [(a, .local)])
    (hbind : ∀ v : Value, bindArgs (PySem.W.kla_fn nm qual params (.Tuple [.Attribute (.Name a pa1) f pa2, .Attribute (.Name a pb1) g pb2] tk tp) scope [] pm (.ref cc) ctv) ⟨[v], []⟩ = pure [(a, v)])
    (hd : (a == ("__debug__" : Str)) = false)
    (hH : H b = some (.ins C dx fs)) (c : Cls X.K C) (nf : NoAttr X.K C f) (ng : NoAttr X.K C g) (lf : fs.lookup f = some (.int k.1)) (lg : fs.lookup g = some (.int k.2))
    (h : ∀ (h' : Heap) (tk' : Nat) (t : Addr) (t1 t2 : Tok), (∀ b o, s.heap.get? b = some o → h'.get? b = some o) → s.heap.get? t = none → h'.get? t = some { cls := .type "tuple", data := .seq #[.int k.1 t1, .int k.2 t2] } → Q (.ref t) { s with heap := h', toks := tk' }) :
    wpAny (model X.prog X.w) A (call (.ref q) [.ref b]) Q E s := by
  refine wpAny_call (PySem.W.kla_callFunE hdp hf rfl hsc hsg rfl hco ?_)
  rw [hbind]
  refine wpAny_pure (wpAny_newFunctionEnv (fun y hy => ?_) (fun y hy => ?_) (fun h₁ hns hsb => ⟨I.nolimit.fresh _ hsb, ?_⟩) hsk)
  · rw [show (PySem.W.kla_fn nm qual params (.Tuple [.Attribute (.Name a pa1) f pa2, .Attribute (.Name a pb1) g pb2] tk tp) scope [] pm (.ref cc) ctv).scope.names = [(a, .local)] from hsn] at hy
    rw [List.mem_singleton.mp hy]
    intro z
    cases z
  · rw [List.mem_singleton.mp hy]
    show scope.names.lookup a = some .local
    rw [hsn]
    simp [List.lookup]
  have kp : ∀ b o, s.heap.get? b = some o → h₁.get? b = some o := fun b o e => hsb.extBut b o (Nat.ne_of_lt (Heap.lt_size e)) (Heap.get?_push_of_some _ e)
  have I1 : Inv X pins σ H { s with heap := h₁, toks := s.toks + ([(a, Value.ref b)] : List (Str × Value)).length } := I.kept kp
  refine PySem.W.kla_codeExpr ?_
  have nmR : ∀ (pos : Pos) (Q : Value → Shared → Prop) (E : Value → Shared → Prop) (A : Around) (h2 : Heap) (tk2 : Nat), (∀ b o, h₁.get? b = some o → h2.get? b = some o) → Q (.ref b) { s with heap := h2, toks := tk2 } →
      wpAny (model X.prog X.w) A (eval (.Name a pos) (newEnv scope s.heap.objs.size mainGlobals [] (qual ++ ".<locals>.") (some q) (.ref cc) none builtinsNs)) Q E { s with heap := h2, toks := tk2 } := fun pos Q E A h2 tk2 k2 hq => by
    refine wpAny_Name (wpAny_loadName_local (m := fun x => ([(a, Value.ref b)] : List (Str × Value)).reverse.lookup x) hsk ?_ (hns.keeps k2) ?_ hq) hd
    · show scope.names.lookup a = some .local
      rw [hsn]
      simp [List.lookup]
    · simp [List.lookup]
  have atR : ∀ (fl : Str) (n : Int) (p1 p2 : Pos) (Q : Value → Shared → Prop) (E : Value → Shared → Prop) (A : Around) (h2 : Heap) (tk2 : Nat), NoAttr X.K C fl → fs.lookup fl = some (.int n) → (∀ b o, h₁.get? b = some o → h2.get? b = some o) → (∀ t, Q (.int n t) { s with heap := h2, toks := tk2 + 1 }) →
      wpAny (model X.prog X.w) A (eval (.Attribute (.Name a p1) fl p2) (newEnv scope s.heap.objs.size mainGlobals [] (qual ++ ".<locals>.") (some q) (.ref cc) none builtinsNs)) Q E { s with heap := h2, toks := tk2 } := fun fl n p1 p2 Q E A h2 tk2 nA l k2 hq => by
    refine attr_of (by rfl) (nmR p1 _ _ _ h2 tk2 k2 ?_)
    have I2 : Inv X pins σ H { s with heap := h2, toks := tk2 } := I.kept fun b o e => k2 b o (kp b o e)
    obtain ⟨mA, O, r, _, _, _⟩ := ins_get I2.hok hH
    obtain ⟨u, hu, ru⟩ := RelO.some_of (v := V.int n) (o := mA fl) (by rw [← l]; exact r fl)
    obtain ⟨t, rfl⟩ := ru
    exact get_map I2.kIn O (c.get fl) c.hd nA hu rfl (hq t)
  refine wpAny_Tuple_spliced ?_
  show wpAny _ _ (spliced ((false, eval (.Attribute (.Name a pa1) f pa2) _) :: (false, eval (.Attribute (.Name a pb1) g pb2) _) :: [])) _ _ _
  refine Calls.spliced_cons (atR f k.1 pa1 pa2 _ _ _ h₁ _ nf lf (fun _ _ e => e) fun t1 => ?_)
  refine Calls.spliced_cons (atR g k.2 pb1 pb2 _ _ _ h₁ _ ng lg (fun _ _ e => e) fun t2 => ?_)
  refine Calls.spliced_nil ⟨by show 2 ≤ sizeLine; decide, ?_⟩
  have sz : s.heap.objs.size ≤ h₁.objs.size := by
    have e := hns
    obtain ⟨o, es, ep, e, _⟩ := hns
    exact Nat.le_of_lt (Heap.lt_size e)
  exact h _ _ _ t1 t2 (fun b o e => Heap.get?_push_of_some _ (kp b o e)) (Heap.get?_none_of_le sz) (Heap.get?_push_size _ rfl)
/-- what min(xs, key=..), max(xs, key=..) ask: the list's items are instances with two ints -/
def tBest (K : PySem.W.Frag) (T : List (Addr × Str)) (mx : Bool) (f g : Str) (ta : TE) : TE := fun σ H Q => ta σ H fun x H1 => ∃ (l C : Addr) (xs : List V) (ks : List (Int × Int)), x = V.ref l ∧ LamX.Tabs T H1 ∧ H1 l = some (.lst xs) ∧ xs ≠ [] ∧ xs.length = ks.length ∧ Cls K C ∧ NoAttr K C f ∧ NoAttr K C g ∧
  (∀ (i : Nat) (v : V) (k : Int × Int), xs[i]? = some v → ks[i]? = some k → ∃ b dx fs, v = V.ref b ∧ H1 b = some (.ins C dx fs) ∧ fs.lookup f = some (.int k.1) ∧ fs.lookup g = some (.int k.2)) ∧
  ∀ H2, LamX.ExtN H1 H2 → LamX.Tabs T H2 → ∀ v, xs[argBest (kBt mx ks) (xs.length - 1)]? = some v → Q v H2
theorem kRd {s : Shared} {t : Addr} {k : Int × Int} {t1 t2 : Tok} (h : s.heap.get? t = some { cls := .type "tuple", data := .seq #[.int k.1 t1, .int k.2 t2] }) : ∃ as, Reads s.heap (.ref t) (kD k) as := by
  exact ⟨_, Reads.tuple h rfl rfl (.cons (.int _ _) (.cons (.int _ _) .nil))⟩
theorem vals_getV : ∀ {xs : List V} {us : List Value} {i : Nat} {u : Value}, Vals xs us → us[i]? = some u → ∃ v, xs[i]? = some v ∧ RelV v u
  | _, _, _, _, .nil, h => by simp at h
  | x :: xs, u0 :: us, 0, u, .cons r _, h => by
    simp only [List.getElem?_cons_zero, Option.some.injEq] at h
    subst h
    exact ⟨x, rfl, r⟩
  | x :: xs, u0 :: us, i + 1, u, .cons _ t, h => by
    simp only [List.getElem?_cons_succ] at h ⊢
    exact vals_getV t h
theorem pe_best {T : List (Addr × Str)} {mx : Bool} {x a f g : Str} {c P : Addr} {params : Arguments} {scope : Scope} {ta : TE} {e : Expr} {pa1 pa2 pb1 pb2 tp lpos kpos p pos : Pos} {tk : Nat} {j : Nat}
    (hx : x = (if mx then "max" else "min")) (he : PE X e ta) (hg : Gl X x) (hm : X.mg x = none) (TB : LamX.TabB X.base X.mg c P) (hcode : X.env.code = .ref c) (hmT : (P, X.env.qual ++ "<lambda>") ∈ T) (hu : ∀ p ∈ T, p.1 = P → p.2 = X.env.qual ++ "<lambda>") (hr : Room (j + 1) X.A) (hc : X.calm = true)
    (hsk : scope.kind = .function) (hsc : scope.isCoroutine = false) (hsg : scope.isGenerator = false) (hsn : scope.names = [(a, .local)]) (hdef : defaultsOf params X.env = ([], []))
    (hbind : ∀ (v pm cv ctv : Value) (q : Str), bindArgs (PySem.W.kla_fn "<lambda>" q params (.Tuple [.Attribute (.Name a pa1) f pa2, .Attribute (.Name a pb1) g pb2] tk tp) scope [] pm cv ctv) ⟨[v], []⟩ = pure [(a, v)])
    (hd : (a == ("__debug__" : Str)) = false := by decide) (hst : starEach [e] X.env = (false, eval e X.env) :: starEach [] X.env := by rfl) :
    PE X (.Call (.Name x p) [e] [⟨some "key", .Lambda params (.Tuple [.Attribute (.Name a pa1) f pa2, .Attribute (.Name a pb1) g pb2] tk tp) scope lpos, kpos⟩] pos) (tBest X.K T mx f g ta) := by
  refine ⟨fun pins s σ H Q I h => ?_⟩
  have hv : bootBuiltins x = some (.builtin (kId mx)) := by
    subst hx
    cases mx
    · exact boot_min
    · exact boot_max
  have hn : x ≠ "__name__" := by
    subst hx
    cases mx <;> decide
  have hdb : (x == ("__debug__" : Str)) = false := by
    subst hx
    cases mx <;> decide
  refine wpAny_Call_Name_kw (ld_blt I hg hm hv ?_ hn hdb)
  refine PyProof.Rows.callWith_kw (A := X.A) ?_ (by rw [hst]; rfl) (by rw [hst]; rfl) (by rfl) (by rfl)
  show wpAny _ _ (spliced (backTo pos (starEach [e] X.env))) _ _ s
  rw [hst]
  refine Calls.spliced_cons (thn (he.run pins s σ H _ I h) fun u s1 ⟨v, H1, I1, r1, l, C, xs, ks, ev, hT, hl, hne, hlen, cC, nf, ng, hit, hQ⟩ => Calls.spliced_nil ?_)
  subst ev
  obtain rfl : u = Value.ref l := r1
  refine wpAny_evalAll_cons (wpAny_bind (LamX.lam_make2 I1 TB hcode hmT hu hT hdef (fun y hy e => ?_) fun q c' pm ctv H2 s2 I2 hE hT2 hf hfn _ hco => wpAny_bind (wpAny_standAt (wpAny_pure (wpAny_evalAll_nil ?_)))))
  · rw [hsn] at hy
    rw [List.mem_singleton.mp hy] at e
    cases e
  show wpAny _ _ (call (.builtin (kId mx)) [.ref l] [((Str.ofString "key"), .ref q)]) _ _ s2
  have hcl : cloFrom X.env.cells scope.names [] = [] := by
    rw [hsn]
    rfl
  rw [hcl] at hf
  have hl2 : H2 l = some (.lst xs) := hE _ _ hl fun ps z => by cases z
  obtain ⟨its, rv, pl, _⟩ := I2.list (SqL.of hl2)
  have hlen2 : its.length = xs.length := rv.length.symm
  have hL : s2.heap.IsList l its.toArray := pl.isList
  obtain ⟨⟨oc, vs, tq, hoc, hdc, hvc⟩, _, _⟩ := I2.hok c' _ hco
  have hpos : 0 < its.toArray.size := by
    show 0 < its.length
    rw [hlen2]
    exact List.length_pos_iff.mpr hne
  have lt2 : ∀ {b : Addr} {o : Obj}, s2.heap.get? b = some o → b < s2.heap.objs.size := fun e => Heap.lt_size e
  -- the walk, the key
  let J : Shared → Prop := fun s' => ∃ h' tk, s' = { s2 with heap := h', toks := tk } ∧ ∀ b o, s2.heap.get? b = some o → h'.get? b = some o
  let V : Addr → Nat → Value → Shared → Prop := fun S i k s' => ∃ t t1 t2, k = Value.ref t ∧ s2.heap.get? t = none ∧ t ≠ S ∧ t ≠ s2.heap.objs.size ∧ s'.heap.get? t = some { cls := .type "tuple", data := .seq #[.int (ks.getD i (0, 0)).1 t1, .int (ks.getD i (0, 0)).2 t2] }
  let St : Nat → Shared → Prop := fun i s' => s'.heap.IsListIter s2.heap.objs.size l i ∧ s'.heap.IsList l its.toArray
  have key : ∀ (op : CmpOp) (s3 : Shared), s3 = { s2 with heap := s2.heap.push { cls := .type "list_iterator", data := .fields #[.ref l, .int 0 0] } } → op = (if mx then CmpOp.Gt else CmpOp.Lt) →
      KeyRun X.prog X.w X.A.in1 (.ref q) op s3.heap.objs.size [s2.heap.objs.size] (fun a b => b = a) its.toArray.size (fun i v => its.toArray[i]? = some v) St J (V s3.heap.objs.size) (kBt mx ks) := by
    intro op s3 e3 eop
    have hS3 : s3.heap.objs.size = s2.heap.objs.size + 1 := by
      rw [e3]
      exact Heap.size_push ..
    have offS : ∀ b : Addr, ∀ o, s2.heap.get? b = some o → b ∉ (s3.heap.objs.size :: [s2.heap.objs.size]) := fun b o e hb => by
      rcases List.mem_cons.mp hb with z | z
      · exact absurd (lt2 e) (by rw [z, hS3]; exact Nat.not_lt.mpr (Nat.le_succ _))
      · exact absurd (lt2 e) (by rw [List.mem_singleton.mp z]; exact Nat.lt_irrefl _)
    refine ⟨fun s s' hJ m => ?_, fun i k s s' hV m => ?_, fun i v s o Q E hi hP hJ hst hS hq => ?_, fun i j ki kj s Q E hJ hVi hVj hq => ?_⟩
    · obtain ⟨h', tk, rfl, kp⟩ := hJ
      obtain ⟨hp, g, d, tk2, os⟩ := s'
      have h1 : g = s2.gens := m.gens
      have h2 : d = s2.drawn := m.drawn
      have h3 : os = s2.os := m.os
      subst h1 h2 h3
      exact ⟨hp, tk2, rfl, fun b o e => m.heap b o (offS b o e) (kp b o e)⟩
    · obtain ⟨t, t1, t2, ek, n2, nS, nI, e⟩ := hV
      exact ⟨t, t1, t2, ek, n2, nS, nI, m.heap t _ (fun hb => by
        rcases List.mem_cons.mp hb with z | z
        · exact nS z
        · exact nI (List.mem_singleton.mp z)) e⟩
    · obtain ⟨h', tk, rfl, kp⟩ := hJ
      have I3 : Inv X pins σ H2 { s2 with heap := h', toks := tk } := I2.kept kp
      have hP' : its[i]? = some v := by simpa using hP
      obtain ⟨xv, hxv, rxv⟩ := vals_getV rv hP'
      have hik : i < ks.length := by
        rw [← hlen, ← hlen2]
        exact (List.getElem?_eq_some_iff.mp hP').1
      have hk : ks[i]? = some ks[i] := List.getElem?_eq_getElem hik
      have egd : ks.getD i (0, 0) = ks[i] := by rw [List.getD_eq_getElem?_getD, hk]; rfl
      obtain ⟨b, dx, fs, eb, hb, lf, lg⟩ := hit i xv _ hxv hk
      subst eb
      obtain rfl : v = Value.ref b := rxv
      have hb2 : H2 b = some (.ins C dx fs) := hE _ _ hb fun ps z => by cases z
      refine lam_call1 (nm := "<lambda>") I3 hr.in1.depth ⟨c', oc, vs, tq, rfl, kp _ _ hoc, hdc, hvc⟩ (kp _ _ hf) hsk hsc hsg hsn (fun v => hbind v _ _ _ _) hd hb2 cC nf ng lf lg fun h2 tk2 t t1 t2 kp2 nt ht => ?_
      have sz0 : ∀ b o, s2.heap.get? b = some o → h2.get? b = some o := fun b o e => kp2 b o (kp b o e)
      obtain ⟨⟨oI, hoI, hoc', hod'⟩, oL, hoL, hLr⟩ := hst
      refine hq (.ref t) _ ⟨h2, tk2, rfl, sz0⟩ ⟨⟨oI, kp2 _ _ hoI, hoc', hod'⟩, oL, kp2 _ _ hoL, hLr⟩ (kp2 _ _ hS) ⟨t, t1, t2, rfl, ?_, ?_, ?_, by rw [egd]; exact ht⟩ fun j k' hV => ?_
      · cases e : s2.heap.get? t with
        | none => rfl
        | some o =>
          have := kp _ _ e
          have nt : h'.get? t = none := nt
          rw [nt] at this
          cases this
      · intro z
        have hS : h'.get? s3.heap.objs.size = some o := hS
        have nt : h'.get? t = none := nt
        rw [z, hS] at nt
        cases nt
      · intro z
        have nt : h'.get? t = none := nt
        have hoI : h'.get? s2.heap.objs.size = some oI := hoI
        rw [z, hoI] at nt
        cases nt
      · obtain ⟨t', a1, a2, ek, n2, nS, nI, e⟩ := hV
        exact ⟨t', a1, a2, ek, n2, nS, nI, kp2 _ _ e⟩
    · obtain ⟨t, t1, t2, rfl, _, _, _, e⟩ := hVi
      obtain ⟨t', a1, a2, rfl, _, _, _, e'⟩ := hVj
      obtain ⟨as, r1⟩ := kRd (s := s) e
      obtain ⟨bs, r2⟩ := kRd (s := s) e'
      have hun : X.A.in1.units + min (kD (ks.getD i (0, 0))).depth (kD (ks.getD j (0, 0))).depth < cLine := by
        have h1 := hr.un
        have h2 : (kD (ks.getD i (0, 0))).depth ≤ 3 := by
          show PyData.depth (.tuple [.int _, .int _]) ≤ 3
          simp [PyData.depth, PyData.depthAll]
        have h3 := Nat.min_le_left (kD (ks.getD i (0, 0))).depth (kD (ks.getD j (0, 0))).depth
        show X.A.units + 1 + _ < cLine
        omega
      subst eop
      cases mx
      · exact rcLt_alike _ _ _ s _ _ as bs r1 r2 (kD_alike _ _) (by intro z; cases z) hun _ _ E Q hq
      · exact rcGt_alike _ _ _ s _ _ as bs r1 r2 (kD_alike _ _) (by intro z; cases z) hun _ _ E Q hq
  have fin : ∀ v s', its.toArray[argBest (kBt mx ks) (its.toArray.size - 1)]? = some v → J s' → EP X pins σ Q v s' := fun v s' hv hJ => by
    obtain ⟨h', tk, rfl, kp⟩ := hJ
    have hv' : its[argBest (kBt mx ks) (its.length - 1)]? = some v := by simpa using hv
    obtain ⟨xv, hxv, rxv⟩ := vals_getV rv hv'
    exact ⟨xv, H2, I2.kept kp, rxv, hQ H2 hE hT2 xv (by rw [← hlen2]; exact hxv)⟩
  cases mx
  · refine call_min_walkK (PySem.W.iter_listW (A := X.A.in1) hr.hd hL fun s3 e3 W st fp _ _ => ?_)
    exact ⟨_, _, _, _, _, _, St, J, V s3.heap.objs.size, kBt false ks, rfl, W, st, fp, hpos, key .Lt s3 e3 rfl, ⟨_, _, e3, fun b o e => Heap.get?_push_of_some _ e⟩, fin⟩
  · refine call_max_walkK (PySem.W.iter_listW (A := X.A.in1) hr.hd hL fun s3 e3 W st fp _ _ => ?_)
    exact ⟨_, _, _, _, _, _, St, J, V s3.heap.objs.size, kBt true ks, rfl, W, st, fp, hpos, key .Gt s3 e3 rfl, ⟨_, _, e3, fun b o e => Heap.get?_push_of_some _ e⟩, fin⟩
end
end L2.K13
set_option Elab.async false
set_option linter.all false
set_option maxRecDepth 100000
set_option maxHeartbeats 4000000
namespace L2.K13
open PySem PySem.Spec PyProof.Rows L2
/-! ### zip of a list and a tuple -/
def ItzM (K : PySem.W.Frag) (a b : Addr) : It :=
  ⟨fun i H => ∃ (xs ys : List V) (x y : V), SqL K H a xs ∧ SqT K H b ys ∧ xs[i]? = some x ∧ ys[i]? = some y,
    fun i H v H' => ∃ T x y, v = .ref T ∧ H T = none ∧ H' = upd H T (.tup [x, y]) ∧ (∀ xs, SqL K H a xs → xs[i]? = some x) ∧ ∀ ys, SqT K H b ys → ys[i]? = some y,
    fun i H => ∃ xs ys : List V, SqL K H a xs ∧ SqT K H b ys ∧ i ≤ xs.length ∧ i ≤ ys.length ∧ (xs.length = i ∨ ys.length = i)⟩
theorem no2 {x y z : Nat} (h1 : x ≠ y) (h2 : x ≠ z) : x ∉ [y, z] := fun h => by
  rcases List.mem_cons.mp h with q | q
  · exact h1 q
  · exact h2 (List.mem_singleton.mp q)
theorem zapart0 (n a b : Nat) (ha : a < n) (hb : b < n) : n + 4 ≠ a ∧ n + 3 ≠ a ∧ n + 4 ≠ b ∧ n + 3 ≠ b ∧ n ≠ b ∧ n + 1 ≠ a := by omega
theorem zapart {n a b : Addr} (ha : a < n) (hb : b < n) : ZipSep2 (n + 4) (n + 2) (n + 3) n (n + 1) [n, a] [n + 1, b] := by
  obtain ⟨h1, h2, h3, h4, h5, h6⟩ := zapart0 n a b ha hb
  have q : ∀ n : Nat, n + 2 ≠ n + 4 ∧ n + 3 ≠ n + 4 ∧ n + 2 ≠ n + 3 ∧ n + 2 ≠ n ∧ n + 2 ≠ n + 1 ∧ n + 4 ≠ n ∧ n + 3 ≠ n ∧ n + 4 ≠ n + 1 ∧ n + 3 ≠ n + 1 ∧ n ≠ n + 1 ∧ n + 1 ≠ n := fun n => by omega
  obtain ⟨a1, a2, a3, a4, a5, a6, a7, a8, a9, a10, a11⟩ := q n
  exact ⟨a1, a2, a3, a4, List.mem_cons_self .., no2 a6 h1, no2 a7 h2, a5, List.mem_cons_self .., no2 a8 h3, no2 a9 h4, no2 a10 h5, no2 a11 h6⟩
theorem li_ne {h : Heap} {it l : Addr} {i : Nat} {vs : Array Value} (a : h.IsListIter it l i) (b : h.IsList l vs) : l ≠ it := fun q => by
  obtain ⟨o, e, c, d⟩ := a
  obtain ⟨o', e', c', d'⟩ := b
  rw [q, e] at e'
  cases e'
  rw [c] at c'
  exact absurd c' (by decide)
theorem ti_ne {h : Heap} {it l : Addr} {i : Nat} {vs : Array Value} (a : h.IsTupleIter it l i) (b : h.IsTuple l vs) : l ≠ it := fun q => by
  obtain ⟨o, e, c, d⟩ := a
  obtain ⟨o', e', c', d'⟩ := b
  rw [q, e] at e'
  cases e'
  rw [c] at c'
  exact absurd c' (by decide)
theorem turn_zipM {P : Program} {w : World} {K : PySem.W.Frag} {elts : List Expr} {kk : Nat} {tpos : Pos} {a b z TI TO i1 i2 : Addr} (D : ZipSep2 z TI TO i1 i2 [i1, a] [i2, b]) :
    Turn P w K (.Tuple elts kk tpos) (ItzM K a b) [z, TI, TO, i1, i2] z (fun i h => IsZip h z TI TO .none ∧ IsPair h TI (.ref i1) (.ref i2) ∧ (∃ x y, IsPair h TO x y) ∧ h.IsListIter i1 a i ∧ h.IsTupleIter i2 b i) where
  mem := by simp
  obj := fun i h st c hc => by
    obtain ⟨hz, hTI, ⟨x, y, hTO⟩, ⟨o1, e1, _, d1⟩, ⟨o2, e2, _, d2⟩⟩ := st
    have e' : c = z ∨ c = TI ∨ c = TO ∨ c = i1 ∨ c = i2 := by simpa using hc
    rcases e' with q | q | q | q | q
    · rw [q]; exact ⟨_, hz, fun v q => nomatch q⟩
    · rw [q]; exact ⟨_, hTI, fun v q => nomatch q⟩
    · rw [q]; exact ⟨_, hTO, fun v q => nomatch q⟩
    · rw [q]; exact ⟨o1, e1, fun v q => by rw [d1] at q; cases q⟩
    · rw [q]; exact ⟨o2, e2, fun v q => by rw [d2] at q; cases q⟩
  keep := fun i h h' st k => by
    obtain ⟨hz, hTI, ⟨x, y, hTO⟩, h1, h2⟩ := st
    exact ⟨k z (by simp) _ hz, k TI (by simp) _ hTI, ⟨x, y, k TO (by simp) _ hTO⟩, h1.at fun o q => k i1 (by simp) o q, h2.at fun o q => k i2 (by simp) o q⟩
  item := by
    intro X hP hw hK hc i pins s σ H E I hf st hg
    subst hP hw hK
    obtain ⟨hz, hTI, ⟨x0, y0, hTO⟩, h1, h2⟩ := st
    obtain ⟨xs, ys, x, y, hqx, hqy, hx, hy⟩ := hg
    obtain ⟨its, rv, p, _⟩ := I.list hqx
    obtain ⟨its2, rv2, p2, _⟩ := I.tuple hqy
    obtain ⟨u, hu, ru⟩ := rv.get hx
    obtain ⟨u2, hu2, ru2⟩ := rv2.get hy
    have hzl : z < s.heap.objs.size := Heap.lt_size hz
    have na : a ≠ i1 := li_ne h1 p.isList
    have nb : b ≠ i2 := ti_ne h2 p2
    refine wpAny_pyNext_zipD2_item D (Draws.list (A := X.A.in1) (I.ok.hd hc) i1 a na its.toArray) (Draws.tuple (A := X.A.in1) (I.ok.hd hc) i2 b nb its2.toArray) hz hTI hTO ⟨h1, p.isList⟩ ⟨h2, p2⟩ (by have := (List.getElem?_eq_some_iff.mp hu).1; simpa using this) (by have := (List.getElem?_eq_some_iff.mp hu2).1; simpa using this) fun x1 x2 h' tk e1 e2 z' TO' h1' h2' hT hsz hk => ?_
    have e1' : x1 = u := by
      have : its[i]? = some x1 := by simpa using e1
      rw [hu] at this
      exact (Option.some.inj this).symm
    have e2' : x2 = u2 := by
      have : its2[i]? = some x2 := by simpa using e2
      rw [hu2] at this
      exact (Option.some.inj this).symm
    subst e1' e2'
    refine ⟨_, rfl, wpAny_letOwnedTupleGo_zip (s := { s with heap := h', toks := tk }) z' fun h'' z'' sb => ?_⟩
    have hT2 : h''.get? s.heap.objs.size = some { cls := .type "tuple", data := .seq #[x1, x2] } := (sb.2 _ (Nat.ne_of_gt hzl)).trans hT
    have new : ObjOk X.prog X.w (upd H s.heap.objs.size (.tup [x, y])) h'' s.heap.objs.size (.tup [x, y]) :=
      ⟨by show 2 ≤ sizeLine; decide, [x1, x2], .cons ru (.cons ru2 .nil), ⟨_, hT2, rfl, _, rfl⟩⟩
    have I1 : Inv X pins σ (upd H s.heap.objs.size (.tup [x, y])) { s with heap := h'', toks := tk } :=
      I.turnedNew (t' := tk) (ch := [z, TI, TO, i1, i2]) (fun c o hb q => (sb.2 c (fun q' => hb (by simp [q']))).trans (hk c o (fun q' => hb (by simp [q'])) (fun q' => hb (by simp [q'])) (fun q' => hb (by simp [q'])) (fun q' => hb (by simp [q'])) q)) hf (Nat.le_refl _) new
    refine ⟨.ref s.heap.objs.size, _, I1, rfl, ⟨_, x, y, rfl, I.hok.fresh (Nat.le_refl _), rfl, fun l hl => by rw [I.list_inj hl hqx]; exact hx, fun l hl => by rw [I.tuple_inj hl hqy]; exact hy⟩, ⟨z'', ?_, ⟨x1, x2, ?_⟩, ?_, ?_⟩, fun c hcm => ?_⟩
    · exact (sb.2 _ D.TIz).trans (hk _ _ D.TIz D.TITO D.TIi1 D.TIi2 hTI)
    · exact (sb.2 _ D.TOz).trans TO'
    · exact h1'.1.at fun o q => (sb.2 _ D.zi1.symm).trans q
    · exact h2'.1.at fun o q => (sb.2 _ D.zi2.symm).trans q
    · have hlt : c < s.heap.objs.size := by
        have e' : c = z ∨ c = TI ∨ c = TO ∨ c = i1 ∨ c = i2 := by simpa using hcm
        rcases e' with q | q | q | q | q
        · rw [q]; exact hzl
        · rw [q]; exact Heap.lt_size hTI
        · rw [q]; exact Heap.lt_size hTO
        · rw [q]; obtain ⟨_, e1, _⟩ := h1; exact Heap.lt_size e1
        · rw [q]; obtain ⟨_, e2, _⟩ := h2; exact Heap.lt_size e2
      rw [upd_ne (Nat.ne_of_lt hlt)]
      exact (hf c hcm).1
  done := by
    intro X hP hw hK hc i pins s σ H E I hf st hg
    subst hP hw hK
    obtain ⟨hz, hTI, ⟨x0, y0, hTO⟩, h1, h2⟩ := st
    obtain ⟨xs, ys, hqx, hqy, hi1, hi2, hend⟩ := hg
    obtain ⟨its, rv, p, _⟩ := I.list hqx
    obtain ⟨its2, rv2, p2, _⟩ := I.tuple hqy
    have l1 := rv.length
    have l2 := rv2.length
    have na : a ≠ i1 := li_ne h1 p.isList
    have nb : b ≠ i2 := ti_ne h2 p2
    refine wpAny_pyNext_zipD2_end D (Draws.list (A := X.A.in1) (I.ok.hd hc) i1 a na its.toArray) (Draws.tuple (A := X.A.in1) (I.ok.hd hc) i2 b nb its2.toArray) hz hTI hTO ⟨h1, p.isList⟩ ⟨h2, p2⟩ (by rw [List.size_toArray]; omega) (by rw [List.size_toArray]; omega) (by rw [List.size_toArray, List.size_toArray]; omega) fun h' tk hk => ⟨rfl, I.turnedL (t' := tk) (ch := [z, TI, TO, i1, i2]) (fun c o hb q =>
      hk c o (fun q' => hb (by simp [q'])) (fun q' => hb (by simp [q'])) (fun q' => hb (by simp [q'])) (fun q' => hb (by simp [q'])) q) hf⟩
  self := fun A i s Q E st h => wpAny_pyIter_zip st.1 h
def iZipM (K : PySem.W.Frag) (ta : TA) : TI := fun σ H R => ta σ H fun vs H1 => ∃ a b xs ys, vs = [.ref a, .ref b] ∧ SqL K H1 a xs ∧ SqT K H1 b ys ∧ R (ItzM K a b) H1
theorem pi_zipM {X : Cx} {e e2 : Expr} {ta : TA} {p pos tpos : Pos} {elts : List Expr} {kk : Nat} (hg : Gl X "zip") (hm : X.mg "zip" = none) (ha : PA X [e, e2] ta)
    (hs : starEach [e, e2] X.env = (false, eval e X.env) :: starEach [e2] X.env := by rfl) (hpl : (backTo pos (starEach [e2] X.env)).any (·.1) = false := by rfl) :
    PI X (.Tuple elts kk tpos) (.Call (.Name "zip" p) [e, e2] [] pos) (iZipM X.K ta) := by
  refine ⟨fun pins s σ H R I h => ?_⟩
  refine Call_ (ld_blt I hg hm PyProof.Rows.boot_zip (PyProof.Rows.callWith_type1 (thn (ha.run pos pins s σ H _ I h) fun us s1 ⟨vs, H1, I1, r1, q1⟩ => ?_) hs hpl))
  obtain ⟨a, b, xs, ys, ex, hqx, hqy, q⟩ := q1
  subst ex
  cases r1 with
  | cons r rr =>
    cases rr with
    | cons r' rr =>
      cases rr
      cases r
      cases r'
      have fresh5 : ∀ c, c ∈ [s1.heap.objs.size + 4, s1.heap.objs.size + 2, s1.heap.objs.size + 3, s1.heap.objs.size, s1.heap.objs.size + 1] → FpOk X pins H1 c := fun c hcm => by
        have e' : c = s1.heap.objs.size + 4 ∨ c = s1.heap.objs.size + 2 ∨ c = s1.heap.objs.size + 3 ∨ c = s1.heap.objs.size ∨ c = s1.heap.objs.size + 1 := by simpa using hcm
        have hle : s1.heap.objs.size ≤ c := by
          rcases e' with z | z | z | z | z
          · rw [z]; exact Nat.le_add_right _ _
          · rw [z]; exact Nat.le_add_right _ _
          · rw [z]; exact Nat.le_add_right _ _
          · rw [z]; exact Nat.le_refl _
          · rw [z]; exact Nat.le_add_right _ _
        exact I1.fpOk hle (I1.hok.fresh hle)
      obtain ⟨its, rv, p1, _⟩ := I1.list hqx
      obtain ⟨its2, rv2, p2, _⟩ := I1.tuple hqy
      obtain ⟨o2, ho2, _⟩ := id p2
      refine zip_begins2 (begins_list a its.toArray) (begins_tuple b its2.toArray) p1.isList p2 fun h' hz hTI hTO h1 h2 hsz hk => wpAny_pyIter_zip hz ?_
      have I2 : Inv X pins σ H1 { s1 with heap := h' } := I1.kept (t' := s1.toks) hk
      exact ⟨s1.heap.objs.size + 4, [s1.heap.objs.size + 4, s1.heap.objs.size + 2, s1.heap.objs.size + 3, s1.heap.objs.size, s1.heap.objs.size + 1], _, _, H1, rfl, I2, turn_zipM (zapart p1.lt (Heap.lt_size ho2)), ⟨hz, hTI, ⟨_, _, hTO⟩, ⟨_, h1, rfl, rfl⟩, ⟨_, h2, rfl, rfl⟩⟩, fresh5, q⟩
end L2.K13
set_option Elab.async false
set_option linter.all false
set_option maxRecDepth 100000
set_option maxHeartbeats 4000000
namespace L2.K13
open PySem PySem.Spec PyProof.Rows L2 PySem.W
theorem reads_ints {h : Heap} : ∀ {us : List Value} {ks : List Int} {as : List Addr}, ReadsAll h us (ks.map PyData.int) as → as = []
  | _, [], _, .nil => rfl
  | _, k :: ks, _, .cons (.int _ _) t => reads_ints t
theorem alike2 (x y x' y' : Int) : alike (.tuple [.int x, .int y]) (.tuple [.int x', .int y']) = true := by simp [alike, alikeAll]
section
variable {X : Cx}
/-- sorted(s), s a set of pairs of ints: some of them, in a list -/
def rSortedTW (K : PySem.W.Frag) (P : Program) (w : World) : List V → Hp → VK → Prop := fun vs H Q => ∃ (a : Addr) (L : List (Addr × List Int)), vs = [V.ref a] ∧ H a = some (SetTO P w a L) ∧ (∀ p ∈ L, SqT K H p.1 (p.2.map V.int)) ∧ (∀ p ∈ L, ∃ x y, p.2 = [x, y]) ∧
  ∀ (L' : List (Addr × List Int)) (p : Addr), (∀ q ∈ L', q ∈ L) → L'.length < 64 → H p = none → Q (.ref p) (upd H p (.lst (L'.map fun q => V.ref q.1)))
theorem cr_sortedTW (hc : X.calm = true) (hu : X.A.units + 64 < cLine) : CallR X (.builtin "sorted") (rSortedTW X.K X.prog X.w) := by
  intro pins s σ H vs us Q I r h
  obtain ⟨a, L, rfl, ha, hk, h2, q⟩ := h
  have R0 : SetT0 X.prog X.w s.heap a L := (I.hok a _ ha).1
  obtain ⟨es, ep, t, R⟩ := R0.full fun p hp => I.isT (hk p hp)
  rw [Vals.ref1 r]
  obtain ⟨o, ho, hex, hd⟩ := R.ob
  have hfew := R.few
  refine Calls.call_function_entry kind_sorted plain_sorted entry_sorted (args_sorted1 _) ?_
  unfold Builtin.«sorted»
  refine wpAny_bind (m := checkCount "sorted" 1 1 _) (wpAny_pure ?_)
  refine wpAny_bind (collect_set (A := X.A.in1) (I.ok.hd hc) ⟨o, ho, hex.1, hd⟩ R.fits (by have := R.size; unfold scanBound; omega) R.tab.ris R.led fun s1 vs k1 hz g1 o1 pm => ?_)
  have hes : es.toList.map (·.2) = L.map fun q => Value.ref q.1 := by
    rw [R.rows]
    unfold rowsOf
    rw [List.map_map] <;> rfl
  rw [hes] at pm
  have ord : ∀ vs : List Value, (∀ v ∈ vs, ∃ q ∈ L, v = Value.ref q.1) → ∃ L1 : List (Addr × List Int), vs = L1.map (fun q => Value.ref q.1) ∧ ∀ q ∈ L1, q ∈ L := by
    intro vs
    induction vs with
    | nil => intro _; exact ⟨[], rfl, fun q hq => (by cases hq)⟩
    | cons v vs ih =>
      intro hv
      obtain ⟨q, hq, e⟩ := hv v List.mem_cons_self
      obtain ⟨L1, e1, hs⟩ := ih fun u hu => hv u (List.mem_cons_of_mem _ hu)
      refine ⟨q :: L1, by rw [List.map_cons, e, e1], fun r hr => ?_⟩
      rcases List.mem_cons.mp hr with z | z
      · rw [z]; exact hq
      · exact hs r z
  have hvl : vs.length < 64 := by rw [pm.length_eq, List.length_map]; exact hfew
  obtain ⟨L1, e1, hL1⟩ := ord vs fun v hv => by
    obtain ⟨q, hq, e⟩ := List.mem_map.mp (pm.mem_iff.mp hv)
    exact ⟨q, hq, e.symm⟩
  refine wpAny_bind (wpAny_newList ?_ (by rw [sizeLine_eq]; omega))
  have hoL : (s1.heap.push (seqObj "list" vs.toArray 0)).get? s1.heap.objs.size = some (seqObj "list" vs.toArray 0) := Heap.get?_push_size _ rfl
  have rd : ∀ q ∈ L1, ∃ as, Reads (s1.heap.push (seqObj "list" vs.toArray 0)) (.ref q.1) (.tuple (q.2.map PyData.int)) as ∧ s1.heap.objs.size ∉ as := fun q hq => by
    have dp : Dp X.K H (.ref q.1) (.tuple (q.2.map PyData.int)) := by
      refine .tup (hk q (hL1 q hq)) ?_
      generalize q.2 = ks
      induction ks with
      | nil => exact .nil
      | cons k ks ih => exact .cons (.int k) ih
    obtain ⟨as, hr⟩ := Dp.reads I _ _ (.ref q.1) dp rfl
    cases hr with
    | tuple c1 c2 c3 c4 =>
      have e0 := reads_ints c4
      subst e0
      exact ⟨[], PyProof.Rows.Reads.keeps (fun b u e => Heap.get?_push_of_some _ (k1 b u e)) (.tuple c1 c2 c3 c4), by simp⟩
  have eR : ∀ L2 : List (Addr × List Int), EachIs (fun (v : Value) (b : Addr × List Int) => v = .ref b.1) (L2.map fun q => Value.ref q.1) L2 := fun L2 => by
    induction L2 with
    | nil => exact .nil
    | cons q L2 ih => exact .cons rfl ih
  have outR : ∀ {out : List Value} {L2 : List (Addr × List Int)}, EachIs (fun (v : Value) (b : Addr × List Int) => v = .ref b.1) out L2 → out = L2.map fun q => Value.ref q.1 := fun {out L2} h => by
    induction h with
    | nil => rfl
    | cons h _ ih => rw [h, ih]; rfl
  have er : ∀ L2 : List (Addr × List Int), (∀ q ∈ L2, q ∈ L1) → EachIs (fun (v : Value) (b : Addr × List Int) => ∃ as, Reads (s1.heap.push (seqObj "list" vs.toArray 0)) v (.tuple (b.2.map PyData.int)) as ∧ s1.heap.objs.size ∉ as) (L2.map fun q => Value.ref q.1) L2 := fun L2 => by
    induction L2 with
    | nil => intro _; exact .nil
    | cons q L2 ih => intro hq; exact .cons (rd q (hq q List.mem_cons_self)) (ih fun r hr => hq r (List.mem_cons_of_mem _ hr))
  have hlen1 : L1.length = vs.length := by rw [e1, List.length_map]
  refine wpAny_bind (wpAny_holding (list_sort_data (s := { s1 with heap := s1.heap.push (seqObj "list" vs.toArray 0) }) (R := fun (v : Value) (b : Addr × List Int) => v = .ref b.1) (enc := fun b : Addr × List Int => .tuple (b.2.map PyData.int)) (bs := L1) hoL (by rw [e1]; exact eR L1) (by
    have z := er L1 fun q hq => hq
    rw [e1]
    rw [e1] at z
    exact z) (fun d hd d' hd' => ?_) (.inl fun d hd => ?_) (by rw [hlen1, sizeLine_eq]; omega) (fun b hb => ?_) fun out hol ho' => ?_))
  · obtain ⟨p, hp, rfl⟩ := List.mem_map.mp hd
    obtain ⟨p', hp', rfl⟩ := List.mem_map.mp hd'
    obtain ⟨x, y, e⟩ := h2 p (hL1 p hp)
    obtain ⟨x', y', e'⟩ := h2 p' (hL1 p' hp')
    rw [e, e']
    exact alike2 x y x' y'
  · obtain ⟨p, hp, rfl⟩ := List.mem_map.mp hd
    obtain ⟨x, y, e⟩ := h2 p (hL1 p hp)
    rw [e]
    exact ⟨_, _, rfl⟩
  · obtain ⟨x, y, e⟩ := h2 b (hL1 b hb)
    show X.A.units + 1 + 1 + PyData.depth (.tuple (b.2.map PyData.int)) < cLine
    rw [e]
    have : PyData.depth (.tuple ([x, y].map PyData.int)) ≤ 3 := by simp [PyData.depth, PyData.depthAll]
    omega
  · have eo := outR ho'
    have hL' : ∀ q ∈ L1.mergeSort (dataLe false fun b : Addr × List Int => .tuple (b.2.map PyData.int)), q ∈ L := fun q hq => hL1 q ((List.mergeSort_perm _ _).mem_iff.mp hq)
    have hlL : (L1.mergeSort (dataLe false fun b : Addr × List Int => .tuple (b.2.map PyData.int))).length < 64 := by
      rw [(List.mergeSort_perm _ _).length_eq, hlen1]
      exact hvl
    obtain ⟨c, hg⟩ := sortedHeap_at (vs := vs) (out := out.toArray) hoL
    have k : ∀ b u, s.heap.get? b = some u → (sortedHeap (s1.heap.push (seqObj "list" vs.toArray 0)) s1.heap.objs.size vs out.toArray).get? b = some u := fun b u e => by
      have q := k1 b u e
      have hlt := Heap.lt_size q
      rw [sortedHeap_old (Nat.ne_of_lt hlt) (by rw [size_push']; exact Nat.lt_succ_of_lt hlt)]
      exact Heap.get?_push_of_some _ q
    have hp : s.heap.objs.size ≤ s1.heap.objs.size := hz
    have hn : H s1.heap.objs.size = none := I.hok.fresh hp
    have hlen : ((L1.mergeSort (dataLe false fun b : Addr × List Int => .tuple (b.2.map PyData.int))).map fun q => V.ref q.1).length ≤ sizeLine := by rw [List.length_map, sizeLine_eq]; omega
    have hv : Vals ((L1.mergeSort (dataLe false fun b : Addr × List Int => .tuple (b.2.map PyData.int))).map fun q => V.ref q.1) out := by rw [eo]; exact vals_of_refs _
    refine wpAny_pure ⟨_, rfl, ?_⟩
    have J : Inv X pins σ (upd H s1.heap.objs.size (.lst ((L1.mergeSort (dataLe false fun b : Addr × List Int => .tuple (b.2.map PyData.int))).map fun q => V.ref q.1))) { s with heap := sortedHeap (s1.heap.push (seqObj "list" vs.toArray 0)) s1.heap.objs.size vs out.toArray, gens := s1.gens, drawn := s1.drawn, toks := s1.toks } :=
      I.call (ch := []) (Un.laid k hp hn) (I.hok.laid k hp ⟨hlen, out, c, hv, hg⟩) (by rw [g1]; exact I.bare) (fun _ z => nomatch z)
    have e : ({ s1 with heap := sortedHeap (s1.heap.push (seqObj "list" vs.toArray 0)) s1.heap.objs.size vs out.toArray } : Shared) = { s with heap := sortedHeap (s1.heap.push (seqObj "list" vs.toArray 0)) s1.heap.objs.size vs out.toArray, gens := s1.gens, drawn := s1.drawn, toks := s1.toks } := by
      cases s1
      cases s
      cases o1
      rfl
    show EP X pins σ Q _ { s1 with heap := sortedHeap (s1.heap.push (seqObj "list" vs.toArray 0)) s1.heap.objs.size vs out.toArray }
    rw [e]
    exact ⟨.ref s1.heap.objs.size, _, J, rfl, q _ _ hL' hlL hn⟩
end
end L2.K13
set_option Elab.async false
set_option linter.all false
set_option maxRecDepth 100000
set_option maxHeartbeats 4000000
namespace L2.K13
open PySem PySem.Spec PyProof.Rows L2
open C8 (Cal Met Mak pe_c pe_mt pe_mt0 pe_mk)

def top (i : Nat) : Stmt := PySem.Challenge.pw_shownlater_k13_whole_one_behind_another.main.body.getD i (.Pass ⟨0, 0, 0, 0⟩)
abbrev s_span_of : Stmt := top 4
abbrev s_as_tuples : Stmt := top 11
abbrev s_count_of : Stmt := top 12
abbrev sSpot_init : Stmt := inClass (top 13) 0
abbrev sSpot_row : Stmt := inClass (top 13) 1
abbrev sSpot_waits : Stmt := inClass (top 13) 2
abbrev sShelf_init : Stmt := inClass (top 14) 0
abbrev sShelf_on : Stmt := inClass (top 14) 1
abbrev sShelf_least : Stmt := inClass (top 14) 2
abbrev sShelf_waiting : Stmt := inClass (top 14) 3
abbrev sShelf_show : Stmt := inClass (top 14) 4
abbrev sShelf_presses : Stmt := inClass (top 14) 5
abbrev sShelf_show_all : Stmt := inClass (top 14) 6
abbrev sShelf_over : Stmt := inClass (top 14) 7
abbrev sShelf_long_named : Stmt := inClass (top 14) 8
abbrev sShelf_short_named : Stmt := inClass (top 14) 9
abbrev sShelf_mark_by : Stmt := inClass (top 14) 10
abbrev sShelf_clear : Stmt := inClass (top 14) 11
abbrev sShelf_make_room : Stmt := inClass (top 14) 12
abbrev sShelf_put : Stmt := inClass (top 14) 13
abbrev sShelf_is_left_out : Stmt := inClass (top 14) 14
abbrev sShelf_take : Stmt := inClass (top 14) 15
abbrev s_look_for_entry : Stmt := top 16
abbrev s_run : Stmt := top 17
abbrev s_cell_at : Stmt := top 19
abbrev s_box : Stmt := top 20
abbrev s_take : Stmt := top 21
abbrev s_of : Stmt := top 22
abbrev s_same : Stmt := top 23
abbrev s_span : Stmt := top 24
abbrev s_near : Stmt := top 25
abbrev s_kernel : Stmt := top 26
abbrev s_presses : Stmt := top 27
abbrev s_show : Stmt := top 28
abbrev s_first : Stmt := top 29
abbrev s_waiting : Stmt := top 30
abbrev s_named : Stmt := top 31
abbrev s_marked : Stmt := top 32
abbrev s_cleared : Stmt := top 33
abbrev s_roomed : Stmt := top 34
abbrev s_took : Stmt := top 35
abbrev s_some_setup : Stmt := top 36
abbrev s_some_names : Stmt := top 37
abbrev s_some_picture : Stmt := top 38
abbrev s_some_stream : Stmt := top 39
abbrev s_may_name : Stmt := top 40
abbrev s_may_use : Stmt := top 41
abbrev s_chosen : Stmt := top 42
abbrev s_added : Stmt := top 43
abbrev s_group : Stmt := top 44
abbrev s_parts : Stmt := top 45
abbrev s_least : Stmt := top 46
abbrev s_sound : Stmt := top 47
abbrev s_second : Stmt := top 48
abbrev s_right : Stmt := top 49
abbrev s_law : Stmt := top 50
theorem sc_span_of : FnScope ["setup", "span", "step"] ["setup"] (defScope s_span_of) := ⟨rfl, rfl, rfl, by decide +kernel, rfl, by decide +kernel, by decide +kernel⟩
theorem sc_as_tuples : FnScope ["thing", "part"] ["thing"] (defScope s_as_tuples) := ⟨rfl, rfl, rfl, by decide +kernel, rfl, by decide +kernel, by decide +kernel⟩
theorem sc_count_of : FnScope ["span", "low", "base", "found"] ["span", "low", "base"] (defScope s_count_of) := ⟨rfl, rfl, rfl, by decide +kernel, rfl, by decide +kernel, by decide +kernel⟩
theorem scSpot_init : FnScope ["self", "count", "place", "mark", "waited"] ["self", "count", "place", "mark", "waited"] (defScope sSpot_init) := ⟨rfl, rfl, rfl, by decide +kernel, rfl, by decide +kernel, by decide +kernel⟩
theorem scSpot_waits : FnScope ["self"] ["self"] (defScope sSpot_waits) := ⟨rfl, rfl, rfl, by decide +kernel, rfl, by decide +kernel, by decide +kernel⟩
theorem scShelf_init : FnScope ["self", "setup", "top"] ["self", "setup", "top"] (defScope sShelf_init) := ⟨rfl, rfl, rfl, by decide +kernel, rfl, by decide +kernel, by decide +kernel⟩
theorem scShelf_least : FnScope ["self", "spots"] ["self", "spots"] (defScope sShelf_least) := ⟨rfl, rfl, rfl, by decide +kernel, rfl, by decide +kernel, by decide +kernel⟩
theorem scShelf_waiting : FnScope ["self", "spot"] ["self"] (defScope sShelf_waiting) := ⟨rfl, rfl, rfl, by decide +kernel, rfl, by decide +kernel, by decide +kernel⟩
theorem scShelf_show : FnScope ["self", "spot"] ["self", "spot"] (defScope sShelf_show) := ⟨rfl, rfl, rfl, by decide +kernel, rfl, by decide +kernel, by decide +kernel⟩
theorem scShelf_presses : FnScope ["self", "found", "spot"] ["self"] (defScope sShelf_presses) := ⟨rfl, rfl, rfl, by decide +kernel, rfl, by decide +kernel, by decide +kernel⟩
theorem scShelf_show_all : FnScope ["self", "found"] ["self"] (defScope sShelf_show_all) := ⟨rfl, rfl, rfl, by decide +kernel, rfl, by decide +kernel, by decide +kernel⟩
theorem scShelf_over : FnScope ["self", "found"] ["self"] (defScope sShelf_over) := ⟨rfl, rfl, rfl, by decide +kernel, rfl, by decide +kernel, by decide +kernel⟩
theorem scShelf_long_named : FnScope ["self", "name", "count", "low", "rounds", "found", "due", "spot"] ["self", "name", "count"] (defScope sShelf_long_named) := ⟨rfl, rfl, rfl, by decide +kernel, rfl, by decide +kernel, by decide +kernel⟩
theorem scShelf_short_named : FnScope ["self", "name", "count", "taken", "found", "spot"] ["self", "name", "count", "taken"] (defScope sShelf_short_named) := ⟨rfl, rfl, rfl, by decide +kernel, rfl, by decide +kernel, by decide +kernel⟩
theorem scShelf_mark_by : FnScope ["self", "picture", "count", "longs", "shorts", "spot", "used", "name"] ["self", "picture", "count"] (defScope sShelf_mark_by) := ⟨rfl, rfl, rfl, by decide +kernel, rfl, by decide +kernel, by decide +kernel⟩
theorem scShelf_clear : FnScope ["self", "hush", "found"] ["self", "hush"] (defScope sShelf_clear) := ⟨rfl, rfl, rfl, by decide +kernel, rfl, by decide +kernel, by decide +kernel⟩
theorem scShelf_make_room : FnScope ["self", "found", "spot"] ["self"] (defScope sShelf_make_room) := ⟨rfl, rfl, rfl, by decide +kernel, rfl, by decide +kernel, by decide +kernel⟩
theorem scShelf_put : FnScope ["self", "place", "count", "shown", "spot", "found"] ["self", "place", "count", "shown"] (defScope sShelf_put) := ⟨rfl, rfl, rfl, by decide +kernel, rfl, by decide +kernel, by decide +kernel⟩
theorem scShelf_is_left_out : FnScope ["self", "picture"] ["self", "picture"] (defScope sShelf_is_left_out) := ⟨rfl, rfl, rfl, by decide +kernel, rfl, by decide +kernel, by decide +kernel⟩
theorem scShelf_take : FnScope ["self", "place", "thing", "kind", "layer", "low", "kept", "shown", "count", "refs", "found"] ["self", "place", "thing"] (defScope sShelf_take) := ⟨rfl, rfl, rfl, by decide +kernel, rfl, by decide +kernel, by decide +kernel⟩
theorem sc_look_for_entry : FnScope ["stream", "start"] ["stream", "start"] (defScope s_look_for_entry) := ⟨rfl, rfl, rfl, by decide +kernel, rfl, by decide +kernel, by decide +kernel⟩
theorem sc_run : FnScope ["setup", "stream", "top", "start", "lost", "shelf", "rows", "place", "row"] ["setup", "stream", "top", "start", "lost"] (defScope s_run) := ⟨rfl, rfl, rfl, by decide +kernel, rfl, by decide +kernel, by decide +kernel⟩
theorem sc_cell_at : FnScope ["_law_script", "_law_k"] ["_law_script", "_law_k"] (defScope s_cell_at) := ⟨rfl, rfl, rfl, by decide +kernel, rfl, by decide +kernel, by decide +kernel⟩
theorem sc_box : FnScope ["_law_script", "_law_k", "_law_core"] ["_law_script", "_law_k"] (defScope s_box) := ⟨rfl, rfl, rfl, by decide +kernel, rfl, by decide +kernel, by decide +kernel⟩
theorem sc_take : FnScope ["_law_box_here", "_law_below", "_law_found", "_law_once", "_law_core", "_law_twice"] ["_law_box_here", "_law_below"] (defScope s_take) := ⟨rfl, rfl, rfl, by decide +kernel, rfl, by decide +kernel, by decide +kernel⟩
theorem sc_of : FnScope ["_law_box_here", "_law_some"] ["_law_box_here", "_law_some"] (defScope s_of) := ⟨rfl, rfl, rfl, by decide +kernel, rfl, by decide +kernel, by decide +kernel⟩
theorem sc_same : FnScope ["_law_found", "_law_due", "_law_a", "_law_b"] ["_law_found", "_law_due"] (defScope s_same) := ⟨rfl, rfl, rfl, by decide +kernel, rfl, by decide +kernel, by decide +kernel⟩
theorem sc_span : FnScope ["_law_setup_so"] ["_law_setup_so"] (defScope s_span) := ⟨rfl, rfl, rfl, by decide +kernel, rfl, by decide +kernel, by decide +kernel⟩
theorem sc_near : FnScope ["_law_span_so", "_law_low_so", "_law_base_so", "_law_some", "_law_k", "_law_own"] ["_law_span_so", "_law_low_so", "_law_base_so"] (defScope s_near) := ⟨rfl, rfl, rfl, by decide +kernel, rfl, by decide +kernel, by decide +kernel⟩
theorem sc_kernel : FnScope ["_law_setup_so", "_law_top_so"] ["_law_setup_so", "_law_top_so"] (defScope s_kernel) := ⟨rfl, rfl, rfl, by decide +kernel, rfl, by decide +kernel, by decide +kernel⟩
theorem sc_presses : FnScope ["_law_kernel_here", "_law_size_so", "_law_most_so", "_law_wait_so", "_law_some", "_law_old", "_law_row"] ["_law_kernel_here"] (defScope s_presses) := ⟨rfl, rfl, rfl, by decide +kernel, rfl, by decide +kernel, by decide +kernel⟩
theorem sc_show : FnScope ["_law_kernel_here", "_law_row", "_law_other"] ["_law_kernel_here", "_law_row"] (defScope s_show) := ⟨rfl, rfl, rfl, by decide +kernel, rfl, by decide +kernel, by decide +kernel⟩
theorem sc_first : FnScope ["_law_rows_so"] ["_law_rows_so"] (defScope s_first) := ⟨rfl, rfl, rfl, by decide +kernel, rfl, by decide +kernel, by decide +kernel⟩
theorem sc_waiting : FnScope ["_law_kernel_here", "_law_row"] ["_law_kernel_here"] (defScope s_waiting) := ⟨rfl, rfl, rfl, by decide +kernel, rfl, by decide +kernel, by decide +kernel⟩
theorem sc_named : FnScope ["_law_kernel_here", "_law_thing_so", "_law_count_so", "_law_span_so", "_law_rows_so", "_law_longs", "_law_shorts", "_law_low_so", "_law_rounds_so", "_law_used_so", "_law_some", "_law_due", "_law_delta_so", "_law_row"] ["_law_kernel_here", "_law_thing_so", "_law_count_so"] (defScope s_named) := ⟨rfl, rfl, rfl, by decide +kernel, rfl, by decide +kernel, by decide +kernel⟩
theorem sc_marked : FnScope ["_law_kernel_here", "_law_thing_so", "_law_count_so", "_law_longs", "_law_shorts", "_law_row", "_law_pairs_so", "_law_place_so", "_law_name_so"] ["_law_kernel_here", "_law_thing_so", "_law_count_so"] (defScope s_marked) := ⟨rfl, rfl, rfl, by decide +kernel, rfl, by decide +kernel, by decide +kernel⟩
theorem sc_cleared : FnScope ["_law_kernel_here", "_law_hush_so", "_law_found"] ["_law_kernel_here", "_law_hush_so"] (defScope s_cleared) := ⟨rfl, rfl, rfl, by decide +kernel, rfl, by decide +kernel, by decide +kernel⟩
theorem sc_roomed : FnScope ["_law_kernel_here", "_law_found", "_law_some", "_law_last_so", "_law_row"] ["_law_kernel_here"] (defScope s_roomed) := ⟨rfl, rfl, rfl, by decide +kernel, rfl, by decide +kernel, by decide +kernel⟩
theorem sc_took : FnScope ["_law_kernel_here", "_law_place_so", "_law_thing_so", "_law_sort", "_law_is_entry", "_law_is_out", "_law_count_so", "_law_refs_so", "_law_found", "_law_row"] ["_law_kernel_here", "_law_place_so", "_law_thing_so"] (defScope s_took) := ⟨rfl, rfl, rfl, by decide +kernel, rfl, by decide +kernel, by decide +kernel⟩
theorem sc_some_setup : FnScope ["_law_box_here", "_law_sizes_so", "_law_k", "_law_size_so"] ["_law_box_here"] (defScope s_some_setup) := ⟨rfl, rfl, rfl, by decide +kernel, rfl, by decide +kernel, by decide +kernel⟩
theorem sc_some_names : FnScope ["_law_box_here", "_law_span_so", "_law_short_so", "_law_long_so", "_law_first_here", "_law_lap", "_law_delta_so", "_law_pair"] ["_law_box_here", "_law_span_so"] (defScope s_some_names) := ⟨rfl, rfl, rfl, by decide +kernel, rfl, by decide +kernel, by decide +kernel⟩
theorem sc_some_picture : FnScope ["_law_box_here", "_law_setup_so", "_law_is_entry", "_law_sort", "_law_span_so", "_law_layer_so", "_law_names_so", "_law_flags"] ["_law_box_here", "_law_setup_so", "_law_is_entry"] (defScope s_some_picture) := ⟨rfl, rfl, rfl, by decide +kernel, rfl, by decide +kernel, by decide +kernel⟩
theorem sc_some_stream : FnScope ["_law_box_here", "_law_setup_so", "_law_many", "_law_found", "_law_must_so", "_law_lap"] ["_law_box_here", "_law_setup_so", "_law_many"] (defScope s_some_stream) := ⟨rfl, rfl, rfl, by decide +kernel, rfl, by decide +kernel, by decide +kernel⟩
theorem sc_may_name : FnScope ["_law_state", "_law_sort", "_law_mark", "_law_is_lead"] ["_law_state", "_law_sort", "_law_mark"] (defScope s_may_name) := ⟨rfl, rfl, rfl, by decide +kernel, rfl, by decide +kernel, by decide +kernel⟩
theorem sc_may_use : FnScope ["_law_state", "_law_sort", "_law_layer_so", "_law_mark", "_law_is_own"] ["_law_state", "_law_sort", "_law_layer_so", "_law_mark"] (defScope s_may_use) := ⟨rfl, rfl, rfl, by decide +kernel, rfl, by decide +kernel, by decide +kernel⟩
theorem sc_chosen : FnScope ["_law_box_here", "_law_state", "_law_sort", "_law_layer_so", "_law_count_so", "_law_span_so", "_law_short_so", "_law_long_so", "_law_left", "_law_mark", "_law_used_so", "_law_rounds_so"] ["_law_box_here", "_law_state", "_law_sort", "_law_layer_so", "_law_count_so"] (defScope s_chosen) := ⟨rfl, rfl, rfl, by decide +kernel, rfl, by decide +kernel, by decide +kernel⟩
theorem sc_added : FnScope ["_law_box_here", "_law_state", "_law_sort", "_law_layer_so", "_law_count_so", "_law_is_anchor", "_law_stream_so", "_law_kept", "_law_place_so", "_law_names_so", "_law_is_entry", "_law_is_new", "_law_hush_so", "_law_low_so"] ["_law_box_here", "_law_state", "_law_sort", "_law_layer_so", "_law_count_so", "_law_is_anchor"] (defScope s_added) := ⟨rfl, rfl, rfl, by decide +kernel, rfl, by decide +kernel, by decide +kernel⟩
theorem sc_group : FnScope ["_law_box_here", "_law_state", "_law_order_so", "_law_way", "_law_sort", "_law_start_so", "_law_far", "_law_lead_so"] ["_law_box_here", "_law_state"] (defScope s_group) := ⟨rfl, rfl, rfl, by decide +kernel, rfl, by decide +kernel, by decide +kernel⟩
theorem sc_parts : FnScope ["_law_setup_so", "_law_stream_so", "_law_top_so", "_law_start_so", "_law_kernel_here", "_law_found", "_law_part", "_law_place_so", "_law_thing_so", "_law_is_new", "_law_row", "_law_marked_so", "_law_own"] ["_law_setup_so", "_law_stream_so", "_law_top_so", "_law_start_so"] (defScope s_parts) := ⟨rfl, rfl, rfl, by decide +kernel, rfl, by decide +kernel, by decide +kernel⟩
theorem sc_least : FnScope ["_law_parts_so", "_law_size_so", "_law_most_so", "_law_wait_so", "_law_at", "_law_part", "_law_place_so", "_law_count_so", "_law_is_shown", "_law_marked_so", "_law_ahead", "_law_to_come", "_law_late", "_law_held", "_law_lesser", "_law_own"] ["_law_parts_so"] (defScope s_least) := ⟨rfl, rfl, rfl, by decide +kernel, rfl, by decide +kernel, by decide +kernel⟩
theorem sc_sound : FnScope ["_law_box_here", "_law_groups", "_law_hush", "_law_layers_so", "_law_bits_so", "_law_state", "_law_lap", "_law_stream_so", "_law_sizes_so", "_law_bare", "_law_top_so", "_law_size_so", "_law_most_so", "_law_wait_so"] ["_law_box_here", "_law_groups", "_law_hush"] (defScope s_sound) := ⟨rfl, rfl, rfl, by decide +kernel, rfl, by decide +kernel, by decide +kernel⟩
theorem sc_second : FnScope ["_law_box_here", "_law_setup_so", "_law_stream_so"] ["_law_box_here", "_law_setup_so"] (defScope s_second) := ⟨rfl, rfl, rfl, by decide +kernel, rfl, by decide +kernel, by decide +kernel⟩
theorem sc_right : FnScope ["_law_box_here", "_law_setup_so", "_law_first_here", "_law_second_here", "_law_top_so", "_law_both", "_law_far", "_law_rows_so", "_law_last_so", "_law_later", "_law_end_so", "_law_due", "_law_at", "_law_place_so", "_law_count_so", "_law_refs_so", "_law_told_so", "_law_ref_so", "_law_own"] ["_law_box_here"] (defScope s_right) := ⟨rfl, rfl, rfl, by decide +kernel, rfl, by decide +kernel, by decide +kernel⟩
theorem sc_law : FnScope ["_law_script", "_law_k", "_law_box_here", "_law_lap"] ["_law_script"] (defScope s_law) := ⟨rfl, rfl, rfl, by decide +kernel, rfl, by decide +kernel, by decide +kernel⟩

def GV (mg : Str → Option Value) (x : Str) (v : V) : Prop := ∃ u, mg x = some u ∧ RelV v u
/-- what the top has: the names -/
structure Fx (K : PySem.W.Frag) (mg : Str → Option Value) : Prop where
  n_range : mg "range" = none
  n_isinstance : mg "isinstance" = none
  n_tuple : mg "tuple" = none
  n_len : mg "len" = none
  n_min : mg "min" = none
  n_max : mg "max" = none
  n_sorted : mg "sorted" = none
  n_any : mg "any" = none
  n_all : mg "all" = none
  n_zip : mg "zip" = none
  n_enumerate : mg "enumerate" = none
  n_abs : mg "abs" = none
  n_int : mg "int" = none
  n_set : mg "set" = none
  n_list : mg "list" = none
  n_str : mg "str" = none
  n_bool : mg "bool" = none
  g_SHORT : GV mg "SHORT" (.str "short")
  g_LONG : GV mg "LONG" (.str "long")
  g_BARE : GV mg "BARE" (.str "")
  g_ENTRIES : GV mg "ENTRIES" (.ref (He.ga K "ENTRIES"))
  q_ENTRIES : ∀ H : Hp, SqT K H (He.ga K "ENTRIES") [.str "clean", .str "open"]
  g_LEADING : GV mg "LEADING" (.ref (He.ga K "LEADING"))
  q_LEADING : ∀ H : Hp, SqT K H (He.ga K "LEADING") [.str "skip", .str "lead"]
  g_END : GV mg "END" (.ref (He.ga K "END"))
  q_END : ∀ H : Hp, SqT K H (He.ga K "END") [.str "end"]
  cSpot : Cls K (He.ga K "Spot")
  kSpot : mg "Spot" = some (.ref (He.ga K "Spot"))
  aSpot_count : NoAttr K (He.ga K "Spot") "count"
  aSpot_place : NoAttr K (He.ga K "Spot") "place"
  aSpot_mark : NoAttr K (He.ga K "Spot") "mark"
  aSpot_waited : NoAttr K (He.ga K "Spot") "waited"
  cShelf : Cls K (He.ga K "Shelf")
  kShelf : mg "Shelf" = some (.ref (He.ga K "Shelf"))
  aShelf_top : NoAttr K (He.ga K "Shelf") "top"
  aShelf_span : NoAttr K (He.ga K "Shelf") "span"
  aShelf_size : NoAttr K (He.ga K "Shelf") "size"
  aShelf_reorder : NoAttr K (He.ga K "Shelf") "reorder"
  aShelf_wait : NoAttr K (He.ga K "Shelf") "wait"
  aShelf_spots : NoAttr K (He.ga K "Shelf") "spots"
  aShelf_base : NoAttr K (He.ga K "Shelf") "base"
  aShelf_is_anew : NoAttr K (He.ga K "Shelf") "is_anew"
  aShelf_must_enter : NoAttr K (He.ga K "Shelf") "must_enter"
  eqS : EqId K (He.ga K "Spot")

theorem pe_gs {X : Cx} {x : Str} {v : V} {pos : Pos} (h : GV X.mg x v) (hg : Gl X x) (hd : (x == ("__debug__" : Str)) = false := by decide) : PE X (.Name x pos) (tC v) := by
  obtain ⟨u, h, r⟩ := h
  exact pe_glob hg h r hd
/-- a def of the module; a method; an __init__ -/
def DF (K : PySem.W.Frag) (mg : Str → Option Value) (x : Str) (st : Stmt) (ps : List Str) : Prop := ∃ f fd, Fun K x x st f fd ∧ mg x = some (.ref f) ∧ PySem.W.keepIn K (.ref f) = true ∧ Binds K fd ps []
def MF (K : PySem.W.Frag) (C : Addr) (m qual : Str) (st : Stmt) (ps : List Str) : Prop := ∃ f fd, Meth K C m f ∧ Fun K m qual st f fd ∧ Binds K fd ps []
def MT (K : PySem.W.Frag) (C : Addr) (m qual : Str) (st : Stmt) (ps : List Str) (c : Addr) : Prop := ∃ (f : Addr) (oc : Value) (od : Option Addr) (kV doc pm : Value) (an : Option Addr) (ct : Value) (osl : Array (Option Value)), Meth K C m f ∧
  K.lookup f = some ⟨oc, od, .func (PySem.W.fnOf m qual (defArgs st) (defBody st) (defScope st) .none kV doc pm an (.ref c) ct), osl⟩ ∧ PySem.W.codeIn K (.ref c) qual = true ∧ Binds K (PySem.W.fnOf m qual (defArgs st) (defBody st) (defScope st) .none kV doc pm an (.ref c) ct) ps []
def IF (K : PySem.W.Frag) (C : Addr) (qual : Str) (st : Stmt) (ps : List Str) (dvs : List V) : Prop := ∃ f fd ds dfl, Mk K C f ∧ FunD K "__init__" qual (defArgs st) (defBody st) (defScope st) dfl [] f fd ∧ Binds K fd ps ds ∧ Vals dvs ds
section
variable {P : Program} {w : World} {K : PySem.W.Frag} {mg : Str → Option Value} {base : Heap}
theorem DF.cal {x : Str} {st : Stmt} {N ps : List Str} {k : Nat} {sp : Sp} (F : DF K mg x st ps) (S : FnScope N ps (defScope st)) (len : ∀ vs H Q E, sp vs H Q E → vs.length = ps.length)
    (hbody : ∀ (f : Addr) (cdv : Value) (A : Around) (outer : List Env) (s : Shared) (H : Hp) (vs : List V) (Q : VK) (E : XK), Room k (A.deeper (envOfC x (defScope st) s.heap.objs.size f cdv)) → sp vs H Q E →
      ∃ t, PSs (cxOf CX0 P w K mg base N x (defScope st) f cdv A outer s H E).nox (defBody st) t ∧ t { nx := fun _ H' => Q .non H', rt := Q } (start N vs) H) : Cal P w K mg base (k + 1) x sp [] := by
  obtain ⟨f, fd, F, hm, kp, b⟩ := F
  exact ⟨f, fd, ps, [], F.ok S len fun cdv A outer s H vs Q E hr h => hbody f cdv A outer s H vs Q E hr h, hm, kp, b, .nil⟩
theorem MF.met {m qual : Str} {C : Addr} {st : Stmt} {N ps : List Str} {k : Nat} {sp : Sp} (c : Cls K C) (F : MF K C m qual st ps) (S : FnScope N ps (defScope st)) (len : ∀ vs H Q E, sp vs H Q E → vs.length = ps.length)
    (hbody : ∀ (f : Addr) (cdv : Value) (A : Around) (outer : List Env) (s : Shared) (H : Hp) (vs : List V) (Q : VK) (E : XK), Room k (A.deeper (envOfC qual (defScope st) s.heap.objs.size f cdv)) → sp vs H Q E →
      ∃ t, PSs (cxOf CX0 P w K mg base N qual (defScope st) f cdv A outer s H E).nox (defBody st) t ∧ t { nx := fun _ H' => Q .non H', rt := Q } (start N vs) H) : Met P w K mg base (k + 1) C m sp [] := by
  obtain ⟨f, fd, me, F, b⟩ := F
  exact ⟨f, fd, ps, [], c, me, F.ok S len fun cdv A outer s H vs Q E hr h => hbody f cdv A outer s H vs Q E hr h, b, .nil⟩
theorem MT.met {m qual : Str} {C c : Addr} {st : Stmt} {N ps : List Str} {k : Nat} {sp : Sp} (cC : Cls K C) (F : MT K C m qual st ps c) (S : FnScope N ps (defScope st)) (len : ∀ vs H Q E, sp vs H Q E → vs.length = ps.length)
    (hbody : ∀ (f : Addr) (A : Around) (outer : List Env) (s : Shared) (H : Hp) (vs : List V) (Q : VK) (E : XK), Room k (A.deeper (envOfC qual (defScope st) s.heap.objs.size f (.ref c))) → sp vs H Q E →
      ∃ t, PSs (cxOf CX0 P w K mg base N qual (defScope st) f (.ref c) A outer s H E).nox (defBody st) t ∧ t { nx := fun _ H' => Q .non H', rt := Q } (start N vs) H) : Met P w K mg base (k + 1) C m sp [] := by
  obtain ⟨f, oc, od, kV, doc, pm, an, ct, osl, me, lk, hcd, b⟩ := F
  exact ⟨f, _, ps, [], cC, me, fn_of lk hcd S len fun A outer s H vs Q E hr h => let ⟨t, ht, q⟩ := hbody f A outer s H vs Q E hr h; ⟨t, ht.nox, q⟩, b, .nil⟩
theorem IF.mak {x qual : Str} {C : Addr} {st : Stmt} {N ps : List Str} {dvs : List V} {k : Nat} {sp : Sp} (hm : mg x = some (.ref C)) (F : IF K C qual st ps dvs) (S : FnScope N ps (defScope st)) (len : ∀ vs H Q E, sp vs H Q E → vs.length = ps.length)
    (hbody : ∀ (f : Addr) (cdv : Value) (A : Around) (outer : List Env) (s : Shared) (H : Hp) (vs : List V) (Q : VK) (E : XK), Room k (A.deeper (envOfC qual (defScope st) s.heap.objs.size f cdv)) → sp vs H Q E →
      ∃ t, PSs (cxOf CX0 P w K mg base N qual (defScope st) f cdv A outer s H E).nox (defBody st) t ∧ t { nx := fun _ H' => Q .non H', rt := Q } (start N vs) H) : Mak P w K mg base (k + 1) x C sp dvs := by
  obtain ⟨f, fd, ds, _, M, F, b, d⟩ := F
  exact ⟨f, fd, ps, ds, M, F.ok S len fun cdv A outer s H vs Q E hr h => let ⟨t, ht, q⟩ := hbody f cdv A outer s H vs Q E hr h; ⟨t, ht.nox, q⟩, hm, b, d⟩
theorem Cal.none {x : Str} {st : Stmt} {N ps : List Str} (F : DF K mg x st ps) (S : FnScope N ps (defScope st)) : Cal P w K mg base 1 x (fun _ _ _ _ => False) [] :=
  F.cal S (fun _ _ _ _ h => h.elim) fun _ _ _ _ _ _ _ _ _ _ h => h.elim
theorem hu64_of {A : Around} {k : Nat} (hr : Room k A) : A.units + 64 < cLine := by have := hr.un; omega
theorem hu65_of {A : Around} {k : Nat} (hr : Room k A) : A.units + 65 < cLine := by have := hr.un; omega
end
/-! ### frames: what stays -/
/-- never changed by anything -/
def imm : HO → Bool
  | .tup _ | .frz _ _ | .own _ | .ext _ | .met _ _ | .rng _ _ => true
  | _ => false
/-- what stands outside S stays, and what never changes -/
def Fr (S : Addr → Prop) (H H' : Hp) : Prop := ∀ b o, H b = some o → (imm o = true ∨ ¬ S b) → H' b = some o
theorem Fr.refl (S : Addr → Prop) (H : Hp) : Fr S H H := fun _ _ h _ => h
theorem Same.fr {H H' : Hp} (s : Same H H') (S : Addr → Prop) : Fr S H H' := fun b o h _ => s b o h
theorem Fr.tup {S : Addr → Prop} {H H' : Hp} (f : Fr S H H') {b : Addr} {xs : List V} (h : H b = some (.tup xs)) : H' b = some (.tup xs) := f b _ h (.inl rfl)
theorem Fr.out {S : Addr → Prop} {H H' : Hp} (f : Fr S H H') {b : Addr} {o : HO} (h : H b = some o) (n : ¬ S b) : H' b = some o := f b o h (.inr n)
theorem Fr.trans {S S' : Addr → Prop} {H H1 H2 : Hp} (f : Fr S H H1) (g : Fr S' H1 H2) (e : ∀ b, S' b → S b ∨ H b = none) : Fr S H H2 := fun b o h k => by
  refine g b o (f b o h k) (k.imp id fun n z => ?_)
  rcases e b z with z | z
  · exact n z
  · rw [h] at z
    cases z
theorem Fr.tr {S : Addr → Prop} {H H1 H2 : Hp} (f : Fr S H H1) (g : Fr S H1 H2) : Fr S H H2 := f.trans g fun _ z => .inl z
theorem Fr.mono {S S' : Addr → Prop} {H H' : Hp} (f : Fr S H H') (e : ∀ b, S b → S' b ∨ H b = none) : Fr S' H H' := fun b o h k => f b o h (k.imp id fun n z => (e b z).elim n fun z => by
  rw [h] at z
  cases z)
theorem Fr.new {S : Addr → Prop} {H H' : Hp} {p : Addr} {o : HO} (f : Fr S H H') (hp : H' p = none) : Fr S H (upd H' p o) := fun b o' h k => by
  have := f b o' h k
  rw [upd_ne (ne_of_none this hp)]
  exact this
/-- a store at p, new against H, or of S -/
theorem Fr.put {S : Addr → Prop} {H H' : Hp} {p : Addr} {o o' : HO} (f : Fr S H H') (hp : H' p = some o') (hi : imm o' = false) (hs : S p ∨ H p = none) : Fr S H (upd H' p o) := fun b o2 h k => by
  have e := f b o2 h k
  by_cases q : b = p
  · subst q
    rcases k with k | k
    · rw [e] at hp
      cases hp
      rw [k] at hi
      cases hi
    · rcases hs with z | z
      · exact absurd z k
      · rw [h] at z
        cases z
  · rw [upd_ne q]
    exact e
theorem Fr.free {S : Addr → Prop} {H H' : Hp} (f : Fr S H H') {b : Addr} (h : H' b = none) (n : ¬ S b) : H b = none := by
  cases e : H b with
  | none => rfl
  | some o =>
    rw [f b o e (.inr n)] at h
    cases h
theorem upd_keep {H : Hp} {b p : Addr} {o o' : HO} (h : H b = some o) (n : H p = none) : upd H p o' b = some o := (upd_ne (ne_of_none h n)).trans h
theorem upd_off {H : Hp} {b p : Addr} {o o' o2 : HO} (h : H b = some o) (n : H p = some o2) (d : o ≠ o2) : upd H p o' b = some o := (upd_ne (ne_of h n d)).trans h
theorem upd_no {H : Hp} {b p : Addr} {o : HO} (h : upd H p o b = none) : H b = none := by
  by_cases q : b = p
  · rw [q, upd_same] at h
    cases h
  · rwa [upd_ne q] at h
end L2.K13
set_option Elab.async false
set_option linter.all false
set_option maxRecDepth 100000
set_option maxHeartbeats 4000000
set_option pp.maxSteps 150
namespace L2.K13
open PySem PySem.Spec PyProof.Rows L2
open C8 (Cal Met Mak pe_c pe_mt pe_mt0 pe_mk)
local macro_rules | `(tactic| walk_at "hp") => `(tactic| first | assumption | exact upd_same | (refine upd_keep ?_ (by assumption); walk_at "hp") | (refine upd_off ?_ (by assumption) (by intro z; cases z); walk_at "hp"))
local macro_rules | `(tactic| walk_at "seq") => `(tactic| first | assumption | exact SqT.of (by walk_at "hp") | exact SqL.of (by walk_at "hp"))
section
variable {P : Program} {w : World} {K : PySem.W.Frag} {mg : Str → Option Value} {base : Heap}
/-! ### span_of, count_of -/
def countOf (span low base : Int) : Int :=
  if 2 * (base - base % span + low - base) > span then base - base % span + low - span
  else if 2 * (base - base % span + low - base) ≤ -span then base - base % span + low + span else base - base % span + low
def spCountOf : Sp := fun vs H Q _ => ∃ span low base : Int, vs = [.int span, .int low, .int base] ∧ 0 < span ∧ Q (.int (countOf span low base)) H
theorem ok_count_of (T : Fx K mg) (F : DF K mg "count_of" s_count_of ["span", "low", "base"]) : Cal P w K mg base 1 "count_of" spCountOf [] := by
  refine F.cal sc_count_of (fun vs H Q E h => ?_) (fun f cdv A outer s H vs Q E hr h => ?_)
  · obtain ⟨_, _, _, rfl, _⟩ := h
    rfl
  obtain ⟨span, low, b, rfl, hp, k⟩ := h
  have nd := sc_count_of.nd
  have hu := hu_of hr
  refine ⟨_, (pss_cons (ps_set (i := 3) nd rfl (Or.inl rfl) (pe_op op_add (pe_op op_sub (pv 2) (pe_op op_mod (pv 2) (pv 0))) (pv 1)))
  (pss_cons (ps_if (pt_cmpR op_gt (pe_op op_mul pe_int (pe_op op_sub (pv 3) (pv 2))) (pv 0) (nomark _)) (pss_one (ps_ret (pe_op op_sub (pv 3) (pv 0)))) pss_nil)
  (pss_one (ps_ret (pe_ifExp (pt_cmpR op_le (pe_op op_mul pe_int (pe_op op_sub (pv 3) (pv 2))) (pe_un un_neg (pv 0)) (nomark _)) (pe_op op_add (pv 3) (pv 0)) (pv 3)))))), ?_⟩
  refine ⟨_, rfl, _, rfl, _, rfl, _, _, rfl, rfl, hp, _, _, rfl, rfl, _, rfl, _, _, rfl, rfl, ?_⟩
  refine ⟨_, rfl, _, rfl, _, _, rfl, rfl, _, _, rfl, rfl, .inl ⟨by decide, by decide⟩, _, rfl, _, _, rfl, rfl, _, rfl, ?_⟩
  unfold countOf at k
  refine ite2 (fun h => ?_) (fun h => ?_)
  · rw [if_pos (of_decide_eq_true h)] at k
    exact ⟨_, rfl, _, rfl, _, _, rfl, rfl, k⟩
  · rw [if_neg (by simpa using h)] at k
    refine ⟨_, rfl, _, rfl, _, _, rfl, rfl, _, _, rfl, rfl, .inl ⟨by decide, by decide⟩, _, rfl, _, rfl, _, _, rfl, rfl, _, rfl, ?_⟩
    refine ite2 (fun h => ?_) (fun h => ?_)
    · rw [if_pos (of_decide_eq_true h)] at k
      exact ⟨_, rfl, _, rfl, _, _, rfl, rfl, k⟩
    · rw [if_neg (by simpa using h)] at k
      exact ⟨_, rfl, k⟩
def spSpanOf (K : PySem.W.Frag) : Sp := fun vs H Q _ => ∃ (p : Addr) (n : Nat) (v : V), vs = [.ref p] ∧ SqT K H p [.int n, v] ∧ n ≤ 40 ∧ Q (.int (2 ^ n : Nat)) H
theorem ok_span_of (T : Fx K mg) (F : DF K mg "span_of" s_span_of ["setup"]) : Cal P w K mg base 1 "span_of" (spSpanOf K) [] := by
  refine F.cal sc_span_of (fun vs H Q E h => ?_) (fun f cdv A outer s H vs Q E hr h => ?_)
  · obtain ⟨_, _, _, rfl, _⟩ := h
    rfl
  obtain ⟨p, n, v, rfl, hs, hn, k⟩ := h
  have nd := sc_span_of.nd
  have hu := hu_of hr
  refine ⟨_, (pss_cons (ps_set (i := 1) nd rfl (Or.inl rfl) pe_int)
  (pss_cons (ps_for PassesOwn.never rfl (pi_range1 (by rfl) T.n_range (pa_cons (pe_ix ix_tup (pv 0) pe_int (fun _ _ => rfl)) pa_nil)) (pg_name (i := 2) nd rfl (by first | exact .inl rfl | exact .inr rfl)) (pss_one (ps_set (i := 1) nd rfl (Or.inl rfl) (pe_op op_mul (pv 1) pe_int))))
  (pss_one (ps_ret (pv 1))))), ?_⟩
  refine ⟨_, rfl, p, _, 0, _, rfl, rfl, hs, rfl, n, rfl, by omega, by omega, ?_⟩
  refine for_range (n := n) (fun i σ H' => ∃ v, σ = [some (.ref p), some (.int (2 ^ i : Nat)), v] ∧ H' = H ∧ i ≤ n) ⟨_, rfl, rfl, Nat.zero_le _⟩ ?_ ?_
  · rintro i σ H' hi ⟨v, rfl, rfl, _⟩
    refine ⟨_, rfl, _, _, rfl, rfl, .inr ⟨by decide, by decide⟩, some (.int (0 + (i : Nat))), ?_, rfl, hi⟩
    show ([some (.ref p), some (.int (((2 ^ i : Nat) : Int) * 2)), some (.int (0 + (i : Nat)))] : L2.St) = _
    rw [Nat.pow_succ]
    simp
  · rintro σ H' ⟨v, rfl, rfl, _⟩
    exact ⟨_, rfl, k⟩
/-! ### Spot -/
def sfs (c p : Int) (m : Str) (wt : V) : List (Str × V) := [("count", .int c), ("place", .int p), ("mark", .str m), ("waited", wt)]
theorem upd2 {H : Hp} {x : Addr} {o o' : HO} : upd (upd H x o) x o' = upd H x o' := by
  funext b
  by_cases q : b = x
  · rw [q, upd_same, upd_same]
  · rw [upd_ne q, upd_ne q, upd_ne q]
theorem len_put {f : Str} {v : V} {fs : List (Str × V)} {n : Nat} (h : fs.length ≤ n) : (putF f v fs).length ≤ n + 1 := by
  induction fs generalizing n with
  | nil => exact Nat.succ_le_succ (Nat.zero_le _)
  | cons a r ih =>
    unfold putF
    split
    · exact Nat.le_succ_of_le h
    · cases n with
      | zero => cases h
      | succ n => exact Nat.succ_le_succ (ih (Nat.le_of_succ_le_succ h))
def spSpotInit (K : PySem.W.Frag) : Sp := fun vs H Q _ => ∃ (x dx : Addr) (c p : Int) (m : Str) (wt : V), vs = [.ref x, .int c, .int p, .str m, wt] ∧ H x = some (.ins (He.ga K "Spot") dx []) ∧
  Q .non (upd H x (.ins (He.ga K "Spot") dx (sfs c p m wt)))
theorem sput (c p : Int) (m : Str) (wt : V) : putF "waited" wt (putF "mark" (.str m) (putF "place" (.int p) (putF "count" (.int c) []))) = sfs c p m wt := by kernel_rfl
theorem ok_spot_init (T : Fx K mg) (F : IF K (He.ga K "Spot") "Spot.__init__" sSpot_init ["self", "count", "place", "mark", "waited"] []) : Mak P w K mg base 1 "Spot" (He.ga K "Spot") (spSpotInit K) [] := by
  refine F.mak T.kSpot scSpot_init (fun vs H Q E h => ?_) (fun f cdv A outer s H vs Q E hr h => ?_)
  · obtain ⟨_, _, _, _, _, _, rfl, _⟩ := h
    rfl
  obtain ⟨x, dx, c, p, m, wt, rfl, h1, k⟩ := h
  have nd := scSpot_init.nd
  have hu := hu_of hr
  refine ⟨_, (pss_cons (ps_fld (pv 0) (pv 1) rfl)
  (pss_cons (ps_fld (pv 0) (pv 2) rfl)
  (pss_cons (ps_fld (pv 0) (pv 3) rfl)
  (pss_one (ps_fld (pv 0) (pv 4) rfl))))), ?_⟩
  have l : ∀ {n : Nat}, n ≤ 5 → n < 1000 := fun h => Nat.lt_of_le_of_lt h (by decide)
  refine ⟨_, rfl, _, rfl, x, _, dx, _, rfl, h1, T.cSpot, T.aSpot_count, by decide, ?_⟩
  refine ⟨_, rfl, _, rfl, x, _, dx, _, rfl, upd_same, T.cSpot, T.aSpot_place, l (len_put (Nat.zero_le 4)), ?_⟩
  refine ⟨_, rfl, _, rfl, x, _, dx, _, rfl, upd_same, T.cSpot, T.aSpot_mark, l (len_put (len_put (Nat.zero_le 3))), ?_⟩
  refine ⟨_, rfl, _, rfl, x, _, dx, _, rfl, upd_same, T.cSpot, T.aSpot_waited, l (len_put (len_put (len_put (Nat.zero_le 2)))), ?_⟩
  rw [upd2, upd2, upd2, sput]
  exact k
def spWaits (K : PySem.W.Frag) : Sp := fun vs H Q _ => ∃ (x dx : Addr) (c p : Int) (m : Str) (wt : V), vs = [.ref x] ∧ H x = some (.ins (He.ga K "Spot") dx (sfs c p m wt)) ∧ Q (.bl (!decide (wt = .non))) H
theorem ok_waits (T : Fx K mg) (F : MF K (He.ga K "Spot") "waits" "Spot.waits" sSpot_waits ["self"]) : Met P w K mg base 1 (He.ga K "Spot") "waits" (spWaits K) [] := by
  refine F.met T.cSpot scSpot_waits (fun vs H Q E h => ?_) (fun f cdv A outer s H vs Q E hr h => ?_)
  · obtain ⟨_, _, _, _, _, _, rfl, _⟩ := h
    rfl
  obtain ⟨x, dx, c, p, m, wt, rfl, h1, k⟩ := h
  have nd := scSpot_waits.nd
  have hu := hu_of hr
  refine ⟨_, (pss_one (ps_ret (pe_cmp (pc_notN (pe_fld (pv 0) rfl))))), ?_⟩
  exact ⟨_, rfl, x, _, dx, _, _, rfl, h1, T.cSpot, T.aSpot_waited, rfl, k⟩
end

end L2.K13
set_option Elab.async false
set_option linter.all false
set_option maxRecDepth 100000
set_option maxHeartbeats 4000000
set_option pp.maxSteps 150
namespace L2.K13
open PySem PySem.Spec PyProof.Rows L2
open C8 (Cal Met Mak pe_c pe_mt pe_mt0 pe_mk)
local macro_rules | `(tactic| walk_at "hp") => `(tactic| first | assumption | exact upd_same | (refine upd_keep ?_ (by assumption); walk_at "hp") | (refine upd_off ?_ (by assumption) (by intro z; cases z); walk_at "hp"))
local macro_rules | `(tactic| walk_at "seq") => `(tactic| first | assumption | exact SqT.of (by walk_at "hp") | exact SqL.of (by walk_at "hp"))
/-! ### the mirror of the shelf -/
structure Spt where
  c : Int
  p : Int
  m : Str
  w : Option Int
structure Cfg where
  top : Int
  span : Int
  size : Int
  reorder : Int
  wait : Option Int
structure Stt where
  spots : List Spt
  base : Option Int
  anew : Bool
  enter : Bool
/-- a picture -/
structure Pic where
  kind : Str
  layer : Int
  low : Int
  kept : Bool
  shown : Bool
  shorts : List (Int × Bool)
  longs : List (Int × Int × Bool)
  hush : Bool
abbrev Rw := Int × Int × List (Option Int) × List Int
def wv : Option Int → V
  | none => .non
  | some i => .int i
def Spt.key (s : Spt) : Int × Int := (s.c, s.p)
def best (mx : Bool) (l : List Spt) : Option Spt := l[argBest (kBt mx (l.map Spt.key)) (l.length - 1)]?
def waiting (sp : List Spt) : List Spt := sp.filter fun t => t.w.isSome
def showS (t : Spt) (sp : List Spt) : List Spt :=
  let sp1 := sp.map fun u => if u.p = t.p then { u with w := none } else u
  if t.m = ("" : Str) then sp1.filter fun u => decide (u.p ≠ t.p) else sp1
def presses (c : Cfg) (sp : List Spt) : Bool := decide ((((waiting sp).length : Nat) : Int) > c.reorder) || (match c.wait with
  | none => false
  | some b => (waiting sp).any fun t => decide (t.w.getD 0 ≥ b))
def showAll : Nat → List Spt → List Int × List Spt
  | 0, sp => ([], sp)
  | n + 1, sp => match best false (waiting sp) with
    | none => ([], sp)
    | some t => let r := showAll n (showS t sp); (t.p :: r.1, r.2)
def pressAll (c : Cfg) : Nat → List Spt → List Int × List Spt
  | 0, sp => ([], sp)
  | n + 1, sp => if presses c sp then match best false (waiting sp) with
      | none => ([], sp)
      | some t => let r := pressAll c n (showS t sp); (t.p :: r.1, r.2)
    else ([], sp)
def makeRoom (c : Cfg) : Nat → List Spt → List Int × List Spt
  | 0, sp => ([], sp)
  | n + 1, sp => if presses c sp || decide (((sp.length : Nat) : Int) ≥ c.size) then match best false (waiting sp) with
      | some t => let r := makeRoom c n (showS t sp); (t.p :: r.1, r.2)
      | none => match best false sp with
        | some t => makeRoom c n (sp.filter fun u => decide (u.p ≠ t.p))
        | none => ([], sp)
    else ([], sp)
def longN (c : Cfg) (sp : List Spt) (count : Int) (n : Int × Int × Bool) : Option Spt :=
  let f := sp.filter fun t => decide (t.m ≠ ("" : Str)) && decide (t.c % c.span = n.1)
  let f2 := if n.2.1 ≥ 0 then f.filter fun t => decide (t.c = count - count % c.span - n.2.1 * c.span + n.1) else f
  best true f2
def shortN (sp : List Spt) (count : Int) (taken : List (Option Int)) (n : Int × Bool) : Option Spt :=
  ((sp.filter fun t => decide (t.m = ("short" : Str)) && decide (t.c = count + n.1)).filter fun t => !decide (some t.p ∈ taken)).getLast?
/-- the marks, the places named and used -/
def markBy (c : Cfg) (sp : List Spt) (pic : Pic) (count : Int) : List (Option Int) × List Spt :=
  let longs := pic.longs.map fun n => (longN c sp count n).map Spt.p
  let shorts := pic.shorts.map fun n => (shortN sp count longs n).map Spt.p
  ((((shorts ++ longs).zip (pic.shorts.map (·.2) ++ pic.longs.map (·.2.2))).filter (·.2)).map (·.1),
   sp.map fun t => { t with m := if some t.p ∈ longs then "long" else if some t.p ∈ shorts then "short" else "" })
def sizeOf (sp : List Spt) : Nat := (waiting sp).length + sp.length
def roomF (c : Cfg) (sp : List Spt) : List Int × List Spt := let sp1 := sp.filter fun t => decide (t.m ≠ ("" : Str)) || t.w.isSome; makeRoom c (sizeOf sp1) sp1
def showF (sp : List Spt) : List Int × List Spt := showAll (waiting sp).length sp
def putF' (c : Cfg) (sp : List Spt) (place count : Int) (shown : Bool) : List Int × List Spt :=
  let sp1 := if shown then sp.map fun t => match t.w with
    | some i => if t.c > count then { t with w := some (i + 1) } else t
    | none => t
    else sp
  let sp2 := sp1 ++ [⟨count, place, "short", if shown then some 0 else none⟩]
  pressAll c (waiting sp2).length sp2
def isEntry (k : Str) : Bool := decide (k = "clean") || decide (k = "open")
def leftOut (c : Cfg) (st : Stt) (pic : Pic) : Bool := decide (pic.layer > c.top) || (!isEntry pic.kind && (st.enter || (decide (pic.kind = "skip") && st.anew)))
def clearF (sp : List Spt) (hush : Bool) : List Int := if hush then [] else (showF sp).1
def takeF (c : Cfg) (st : Stt) (place : Int) : Option Pic → Option Rw × Stt
  | none => (none, { st with enter := true })
  | some pic => if leftOut c st pic then (none, st) else
    let anew := if isEntry pic.kind then decide (pic.kind = "clean") || st.enter else st.anew
    let enter := if isEntry pic.kind then false else st.enter
    let r : Int × List (Option Int) × List Int × List Spt := if isEntry pic.kind && anew then (pic.low, [], clearF st.spots pic.hush, [])
      else
        let count := countOf c.span pic.low (st.base.getD 0)
        let m := markBy c st.spots pic count
        let q := roomF c m.2
        (count, m.1, q.1, q.2)
    let q := putF' c r.2.2.2 place r.1 pic.shown
    (some (place, r.1, r.2.1, r.2.2.1 ++ q.1), ⟨q.2, if pic.layer = 0 && pic.kept && !(decide (pic.kind = "skip") || decide (pic.kind = "lead")) then some r.1 else st.base, anew, enter⟩)
def runF (c : Cfg) : Stt → Int → List (Option Pic) → List Rw × Stt
  | st, _, [] => ([], st)
  | st, i, t :: r => let a := takeF c st i t; let b := runF c a.2 (i + 1) r; (a.1.toList ++ b.1, b.2)
def st0 : Stt := ⟨[], none, false, true⟩
def runAll (c : Cfg) (ts : List (Option Pic)) : List Rw × List Int := let r := runF c st0 0 ts; (r.1, (showF r.2.spots).1)

end L2.K13
set_option Elab.async false
set_option linter.all false
set_option maxRecDepth 100000
set_option maxHeartbeats 4000000
set_option pp.maxSteps 150
namespace L2.K13
open PySem PySem.Spec PyProof.Rows L2
open C8 (Cal Met Mak pe_c pe_mt pe_mt0 pe_mk)
local macro_rules | `(tactic| walk_at "hp") => `(tactic| first | assumption | exact upd_same | (refine upd_keep ?_ (by assumption); walk_at "hp") | (refine upd_off ?_ (by assumption) (by intro z; cases z); walk_at "hp"))
local macro_rules | `(tactic| walk_at "seq") => `(tactic| first | assumption | exact SqT.of (by walk_at "hp") | exact SqL.of (by walk_at "hp"))
theorem ifT {c : Bool} {A B : Prop} (h : c = true) (k : A) : if c = true then A else B := by rw [if_pos h]; exact k
theorem ifF {c : Bool} {A B : Prop} (h : c = false) (k : B) : if c = true then A else B := by rw [if_neg (by rw [h]; decide)]; exact k
theorem tt_cut {t : TT} {σ : L2.St} {H : Hp} {Q : Bool → Hp → Prop} (M : Bool → Hp → Prop) (hQ : ∀ b H1, M b H1 → Q b H1) (h : (∀ b H1, M b H1 → Q b H1) → t σ H Q) : t σ H Q := h hQ
theorem te_cut {t : TE} {σ : L2.St} {H : Hp} {Q : VK} (M : VK) (hQ : ∀ b H1, M b H1 → Q b H1) (h : (∀ b H1, M b H1 → Q b H1) → t σ H Q) : t σ H Q := h hQ
theorem ts_cut {t : TS} {D : Ends} {σ : L2.St} {H : Hp} (M : L2.St → Hp → Prop) (hM : ∀ σ' H', M σ' H' → D.nx σ' H') (h : (∀ σ' H', M σ' H' → D.nx σ' H') → t D σ H) : t D σ H := h hM
theorem seq_cut {t u : TS} {D : Ends} {σ : L2.St} {H : Hp} (M : L2.St → Hp → Prop) (hM : ∀ σ' H', M σ' H' → u D σ' H') (h : (∀ σ' H', M σ' H' → u D σ' H') → t { D with nx := u D } σ H) : tSeq t u D σ H := h hM
theorem gn_cut {i : Nat} {v : V} {σ : L2.St} {H : Hp} {Q : L2.St → Hp → Prop} (h : Q (σ.set i (some v)) H) : gName i v σ H Q := h
/-! ### the shelf in the heap -/
abbrev cSp (K : PySem.W.Frag) : Addr := He.ga K "Spot"
abbrev cSh (K : PySem.W.Frag) : Addr := He.ga K "Shelf"
def rf (ad : Int → Addr) (sp : List Spt) : List V := sp.map fun t => .ref (ad t.p)
def fh (c : Cfg) (l : Addr) (st : Stt) : List (Str × V) := [("top", .int c.top), ("span", .int c.span), ("size", .int c.size), ("reorder", .int c.reorder), ("wait", wv c.wait), ("spots", .ref l), ("base", wv st.base), ("is_anew", .bl st.anew), ("must_enter", .bl st.enter)]
abbrev fs (t : Spt) : List (Str × V) := sfs t.c t.p t.m (wv t.w)
structure SpR (K : PySem.W.Frag) (ad : Int → Addr) (sp : List Spt) (H : Hp) : Prop where
  at_ : ∀ t ∈ sp, ∃ dx, H (ad t.p) = some (.ins (cSp K) dx (fs t))
  inj : ∀ t ∈ sp, ∀ u ∈ sp, ad t.p = ad u.p → t.p = u.p
  nd : (sp.map (·.p)).Nodup
structure Sh (K : PySem.W.Frag) (T : List (Addr × Str)) (c : Cfg) (x dx l : Addr) (ad : Int → Addr) (st : Stt) (H : Hp) : Prop where
  obj : H x = some (.ins (cSh K) dx (fh c l st))
  lst : H l = some (.lst (rf ad st.spots))
  spo : SpR K ad st.spots H
  tabs : LamX.Tabs T H
  len : st.spots.length < sizeLine
/-- what belongs to the shelf -/
def Ow (x l : Addr) (ad : Int → Addr) (sp : List Spt) (H : Hp) (b : Addr) : Prop := b = x ∨ b = l ∨ (∃ t ∈ sp, b = ad t.p) ∨ ∃ ps, H b = some (.tbl ps)
/-- a step of the shelf: all else stays -/
structure Stp (x l : Addr) (ad : Int → Addr) (sp : List Spt) (H : Hp) (l' : Addr) (ad' : Int → Addr) (sp' : List Spt) (H' : Hp) : Prop where
  fr : Fr (Ow x l ad sp H) H H'
  ow : ∀ b, Ow x l' ad' sp' H' b → Ow x l ad sp H b ∨ H b = none
theorem Stp.refl {x l : Addr} {ad : Int → Addr} {sp : List Spt} {H : Hp} : Stp x l ad sp H l ad sp H := ⟨Fr.refl _ _, fun _ z => .inl z⟩
theorem Stp.trans {x l l1 l2 : Addr} {ad ad1 ad2 : Int → Addr} {sp sp1 sp2 : List Spt} {H H1 H2 : Hp} (a : Stp x l ad sp H l1 ad1 sp1 H1) (b : Stp x l1 ad1 sp1 H1 l2 ad2 sp2 H2) : Stp x l ad sp H l2 ad2 sp2 H2 := by
  refine ⟨a.fr.trans b.fr a.ow, fun y z => ?_⟩
  rcases b.ow y z with z | z
  · exact a.ow y z
  · cases e : H y with
    | none => exact .inr rfl
    | some o =>
      refine .inl (Classical.byContradiction fun n => ?_)
      rw [a.fr y o e (.inr n)] at z
      cases z
theorem Stp.gone {x l l1 : Addr} {ad ad1 : Int → Addr} {sp sp1 : List Spt} {H H1 : Hp} (a : Stp x l ad sp H l1 ad1 sp1 H1) {b : Addr} (h : H1 b = none) : Ow x l ad sp H b ∨ H b = none := by
  cases e : H b with
  | none => exact .inr rfl
  | some o =>
    refine .inl (Classical.byContradiction fun n => ?_)
    rw [a.fr b o e (.inr n)] at h
    cases h
/-- a thing outside -/
theorem Stp.out {x l l1 : Addr} {ad ad1 : Int → Addr} {sp sp1 : List Spt} {H H1 : Hp} (a : Stp x l ad sp H l1 ad1 sp1 H1) {b : Addr} {o : HO} (h : H b = some o) (n : ¬ Ow x l ad sp H b) : H1 b = some o ∧ ¬ Ow x l1 ad1 sp1 H1 b := by
  refine ⟨a.fr b o h (.inr n), fun z => ?_⟩
  rcases a.ow b z with z | z
  · exact n z
  · rw [h] at z
    cases z
theorem ExtN.stp {x l : Addr} {ad : Int → Addr} {sp : List Spt} {H H1 : Hp} (e : LamX.ExtN H H1) : Stp x l ad sp H l ad sp H1 := by
  refine ⟨fun b o h k => e b o h fun ps z => ?_, fun b z => ?_⟩
  · subst z
    rcases k with k | k
    · cases k
    · exact k (.inr (.inr (.inr ⟨ps, h⟩)))
  · rcases z with z | z | z | ⟨ps, z⟩
    · exact .inl (.inl z)
    · exact .inl (.inr (.inl z))
    · exact .inl (.inr (.inr (.inl z)))
    · cases q : H b with
      | none => exact .inr rfl
      | some o =>
        refine .inl (.inr (.inr (.inr ?_)))
        rw [q]
        cases o with
        | tbl ps' => exact ⟨ps', rfl⟩
        | _ =>
          rw [e b _ q fun ps z => by cases z] at z
          cases z
theorem ext_new {H : Hp} {p : Addr} {o : HO} (hp : H p = none) : LamX.ExtN H (upd H p o) := fun b o' h _ => upd_keep h hp
theorem SpR.ext {K : PySem.W.Frag} {ad : Int → Addr} {sp : List Spt} {H H1 : Hp} (s : SpR K ad sp H) (e : LamX.ExtN H H1) : SpR K ad sp H1 :=
  ⟨fun t ht => let ⟨dx, h⟩ := s.at_ t ht; ⟨dx, e _ _ h fun _ z => by cases z⟩, s.inj, s.nd⟩
theorem Sh.ext {K : PySem.W.Frag} {T : List (Addr × Str)} {c : Cfg} {x dx l : Addr} {ad : Int → Addr} {st : Stt} {H H1 : Hp} (s : Sh K T c x dx l ad st H) (e : LamX.ExtN H H1) (t : LamX.Tabs T H1) : Sh K T c x dx l ad st H1 :=
  ⟨e _ _ s.obj (fun _ z => by cases z), e _ _ s.lst (fun _ z => by cases z), s.spo.ext e, t, s.len⟩
theorem Sh.new {K : PySem.W.Frag} {T : List (Addr × Str)} {c : Cfg} {x dx l : Addr} {ad : Int → Addr} {st : Stt} {H : Hp} {p : Addr} {o : HO} (s : Sh K T c x dx l ad st H) (hp : H p = none) : Sh K T c x dx l ad st (upd H p o) :=
  s.ext (ext_new hp) (s.tabs.ext fun b o h => upd_keep h hp)
theorem Sh.notOw {K : PySem.W.Frag} {T : List (Addr × Str)} {c : Cfg} {x dx l : Addr} {ad : Int → Addr} {st : Stt} {H : Hp} (s : Sh K T c x dx l ad st H) {b : Addr} {o : HO} (h : H b = some o) (n1 : ∀ C d f, o ≠ .ins C d f) (n2 : b ≠ l) (n3 : ∀ ps, o ≠ .tbl ps) : ¬ Ow x l ad st.spots H b := by
  rintro (z | z | ⟨t, ht, z⟩ | ⟨ps, z⟩)
  · rw [z, s.obj] at h
    exact n1 _ _ _ (Option.some.inj h).symm
  · exact n2 z
  · obtain ⟨d, e⟩ := s.spo.at_ t ht
    rw [z, e] at h
    exact n1 _ _ _ (Option.some.inj h).symm
  · rw [z] at h
    exact n3 _ (Option.some.inj h).symm
theorem Sh.noOwN {K : PySem.W.Frag} {T : List (Addr × Str)} {c : Cfg} {x dx l : Addr} {ad : Int → Addr} {st : Stt} {H : Hp} (s : Sh K T c x dx l ad st H) {b : Addr} (h : H b = none) : ¬ Ow x l ad st.spots H b := by
  rintro (z | z | ⟨t, ht, z⟩ | ⟨ps, z⟩)
  · rw [z, s.obj] at h
    cases h
  · rw [z, s.lst] at h
    cases h
  · obtain ⟨d, e⟩ := s.spo.at_ t ht
    rw [z, e] at h
    cases h
  · rw [z] at h
    cases h
theorem Stp.loc {x l l1 : Addr} {ad ad1 : Int → Addr} {sp sp1 : List Spt} {H H1 : Hp} {q : Addr} {xs ys : List V} (s : Stp x l ad sp H l1 ad1 sp1 H1) (hq : Ow x l ad sp H q ∨ H q = none) (h : H1 q = some (.lst xs)) : Stp x l ad sp H l1 ad1 sp1 (upd H1 q (.lst ys)) := by
  refine ⟨s.fr.put h rfl hq, fun b z => s.ow b ?_⟩
  rcases z with z | z | z | ⟨ps, z⟩
  · exact .inl z
  · exact .inr (.inl z)
  · exact .inr (.inr (.inl z))
  · refine .inr (.inr (.inr ⟨ps, ?_⟩))
    rwa [upd_ne fun y => by rw [y, upd_same] at z; cases z] at z
theorem Tabs.put {T : List (Addr × Str)} {H : Hp} {a : Addr} {o o' : HO} (t : LamX.Tabs T H) (h : H a = some o') (n1 : ∀ ps, o' ≠ .tbl ps) (n2 : ∀ f, o' ≠ .ext f) : LamX.Tabs T (upd H a o) := fun p hp => by
  obtain ⟨ps, h1, h2, h3⟩ := t p hp
  refine ⟨ps, by rw [upd_ne fun z => n1 ps (Option.some.inj (h.symm.trans (by rw [← z]; exact h1)))]; exact h1, h2, fun pos cv hc => ?_⟩
  obtain ⟨c, e, z⟩ := h3 pos cv hc
  exact ⟨c, e, by rw [upd_ne fun y => n2 _ (Option.some.inj (h.symm.trans (by rw [← y]; exact z)))]; exact z⟩
/-- a list that is not the shelf's is written -/
theorem Sh.off {K : PySem.W.Frag} {T : List (Addr × Str)} {c : Cfg} {x dx l : Addr} {ad : Int → Addr} {st : Stt} {H : Hp} {q : Addr} {xs : List V} {o : HO} (s : Sh K T c x dx l ad st H) (h : H q = some (.lst xs)) (n : q ≠ l) : Sh K T c x dx l ad st (upd H q o) :=
  ⟨upd_off s.obj h (by intro z; cases z), by rw [upd_ne n.symm]; exact s.lst, ⟨fun t ht => let ⟨d, e⟩ := s.spo.at_ t ht; ⟨d, upd_off e h (by intro z; cases z)⟩, s.spo.inj, s.spo.nd⟩,
    Tabs.put s.tabs h (by intro ps z; cases z) (by intro f z; cases z), s.len⟩
theorem rf_get {ad : Int → Addr} {sp : List Spt} {i : Nat} {x : V} (h : (rf ad sp)[i]? = some x) : ∃ t, sp[i]? = some t ∧ x = .ref (ad t.p) := by
  unfold rf at h
  rw [List.getElem?_map] at h
  cases e : sp[i]? with
  | none =>
    rw [e] at h
    cases h
  | some t =>
    rw [e] at h
    exact ⟨t, rfl, (Option.some.inj h).symm⟩
/-! ### [e for x in xs if t], the heap untouched by the turns -/
theorem lc_fm {α : Type} {K : PySem.W.Frag} {a : Addr} {zs : List α} {r : α → V} {F : α → Option V} {g : TG} {tt : TT} {te : TE} {vs : List Nat} {σ : St} {H1 : Hp} {D : Addr} {Qd : Hp → Prop} (hD : H1 D = none) (hl : H1 a = some (.lst (zs.map r))) (hz : zs.length < sizeLine)
    (hs : ∀ (i : Nat) (z : α) (acc : List V) (R : Hp → Prop), zs[i]? = some z → (∀ y, F z = some y → R (upd H1 D (.lst (acc ++ [y])))) → (F z = none → R (upd H1 D (.lst acc))) → acc.length < sizeLine →
      g (r z) (wipe σ vs) (upd H1 D (.lst acc)) fun σ2 H2 => wipe σ2 vs = wipe σ vs ∧ tt σ2 H2 fun b H3 => if b = true then te σ2 H3 fun y H4 => ∃ acc, H4 D = some (.lst acc) ∧ acc.length < sizeLine ∧ R (upd H4 D (.lst (acc ++ [y]))) else R H3)
    (hd : Qd (upd H1 D (.lst (zs.filterMap F)))) :
    ∃ W : Nat → Nat → Hp → Prop, (∃ m, W 0 m (upd H1 D (.lst []))) ∧ ∀ i m H, W i m H →
      ((Itl K a).stop i H ∧ Qd H) ∨ ((Itl K a).go i H ∧ ∃ Nx : Hp → Prop, (∀ H', Nx H' → ∃ m', m' < m ∧ W (i + 1) m' H') ∧ ∀ x H', (Itl K a).yld i H x H' → g x (wipe σ vs) H' fun σ2 H2 => wipe σ2 vs = wipe σ vs ∧ tt σ2 H2 fun b H3 =>
        if b = true then te σ2 H3 fun y H4 => ∃ acc, H4 D = some (.lst acc) ∧ acc.length < sizeLine ∧ Nx (upd H4 D (.lst (acc ++ [y]))) else Nx H3) := by
  have lenF : ∀ i, ((zs.take i).filterMap F).length ≤ zs.length := fun i => Nat.le_trans (List.length_filterMap_le ..) (by rw [List.length_take]; exact Nat.min_le_right ..)
  refine lc_list (xs := zs.map r) (fun i H => H = upd H1 D (.lst ((zs.take i).filterMap F))) (by simp) (fun i H _ e => ?_) (fun i x H hx e => ?_) fun H e => ?_
  · rw [e]
    exact SqL.of (upd_keep hl hD)
  · subst e
    rw [List.getElem?_map] at hx
    cases ez : zs[i]? with
    | none =>
      rw [ez] at hx
      cases hx
    | some z =>
      rw [ez] at hx
      cases hx
      have et : zs.take (i + 1) = zs.take i ++ [z] := by
        rw [List.take_add_one, ez]
        rfl
      refine hs i z _ _ ez (fun y hy => ?_) (fun hy => ?_) (Nat.lt_of_le_of_lt (lenF i) hz)
      · rw [et, List.filterMap_append, List.filterMap_cons, hy]
        rfl
      · rw [et, List.filterMap_append, List.filterMap_cons, hy]
        simp
  · rw [List.length_map, List.take_length] at e
    rw [e]
    exact hd
section
variable {P : Program} {w : World} {K : PySem.W.Frag} {mg : Str → Option Value} {base : Heap}
theorem fm_filter {ad : Int → Addr} (q : Spt → Bool) (sp : List Spt) : sp.filterMap (fun t => if q t then some (V.ref (ad t.p)) else none) = rf ad (sp.filter q) := by
  unfold rf
  rw [← List.filterMap_eq_map, List.filterMap_filter]
  rfl
theorem mem_at {α : Type} {l : List α} {i : Nat} {z : α} (h : l[i]? = some z) : z ∈ l := List.mem_of_getElem? h
/-! ### waiting -/
def spWaiting (K : PySem.W.Frag) (T : List (Addr × Str)) : Sp := fun vs H Q _ => ∃ (c : Cfg) (x dx l : Addr) (ad : Int → Addr) (st : Stt), vs = [.ref x] ∧ Sh K T c x dx l ad st H ∧ ∀ p, H p = none → Q (.ref p) (upd H p (.lst (rf ad (waiting st.spots))))
theorem ok_waiting {T0 : List (Addr × Str)} (T : Fx K mg) (F : MF K (cSh K) "waiting" "Shelf.waiting" sShelf_waiting ["self"]) (m_waits : Met P w K mg base 1 (cSp K) "waits" (spWaits K) []) : Met P w K mg base 2 (cSh K) "waiting" (spWaiting K T0) [] := by
  refine F.met T.cShelf scShelf_waiting (fun vs H Q E h => ?_) (fun f cdv A outer s H vs Q E hr h => ?_)
  · obtain ⟨_, _, _, _, _, _, rfl, _⟩ := h
    rfl
  obtain ⟨c, x, dx, l, ad, st, rfl, S, k⟩ := h
  have nd := scShelf_waiting.nd
  have hu := hu_of hr
  refine ⟨_, (pss_one (ps_ret (pe_lc (own := [("spot", 1)]) (g := (gName 1)) (tt := (tB (tMeth _ "waits" _ _ E0 (tVar 1) tNil))) (te := (tVar 1)) rfl nd (pi_list (pe_fld (pv 0) rfl)) (blkOk_by (N := ["self", "spot"]) (sc := defScope sShelf_waiting) (by decide +kernel)) (fun _ _ _ _ _ => (pg_name (i := 1) nd rfl (by first | exact .inl rfl | exact .inr rfl))) (fun _ _ _ _ _ => (pts_one (pt_val (pe_mt0 m_waits hr (by first | decide | omega) (pv 1))))) (fun _ _ _ _ _ => (pv 1))))), ?_⟩
  refine ⟨_, rfl, x, _, dx, _, _, rfl, S.obj, T.cShelf, T.aShelf_spots, rfl, l, rfl, ⟨_, SqL.of S.lst⟩, fun D hD => ?_⟩
  refine lc_fm (F := fun t => if t.w.isSome then some (V.ref (ad t.p)) else none) hD S.lst S.len (fun i t acc R ht h1 h2 hz => ?_) ?_
  · obtain ⟨dt, h3⟩ := S.spo.at_ t (mem_at ht)
    have h3' : upd H D (.lst acc) (ad t.p) = some (.ins (cSp K) dt (fs t)) := upd_keep h3 hD
    refine ⟨rfl, _, rfl, _, _, _, rfl, h3', rfl, _, dt, t.c, t.p, t.m, wv t.w, rfl, h3', _, rfl, ?_⟩
    cases e : t.w with
    | none => exact ifF rfl (h2 (by rw [e]; rfl))
    | some j =>
      refine ifT rfl ⟨_, rfl, acc, upd_same, hz, ?_⟩
      rw [upd2]
      exact h1 _ (by rw [e]; rfl)
  · rw [fm_filter]
    exact k D hD
end

end L2.K13
set_option Elab.async false
set_option linter.all false
set_option maxRecDepth 100000
set_option maxHeartbeats 4000000
set_option pp.maxSteps 150
namespace L2.K13
open PySem PySem.Spec PyProof.Rows L2
open C8 (Cal Met Mak pe_c pe_mt pe_mt0 pe_mk)
local macro_rules | `(tactic| walk_at "hp") => `(tactic| first | assumption | exact upd_same | (refine upd_keep ?_ (by assumption); walk_at "hp") | (refine upd_off ?_ (by assumption) (by intro z; cases z); walk_at "hp"))
local macro_rules | `(tactic| walk_at "seq") => `(tactic| first | assumption | exact SqT.of (by walk_at "hp") | exact SqL.of (by walk_at "hp"))
section
theorem sput_w (c p : Int) (m : Str) (w w' : V) : putF "waited" w' (sfs c p m w) = sfs c p m w' := by kernel_rfl
theorem sput_m (c p : Int) (m m' : Str) (w : V) : putF "mark" (.str m') (sfs c p m w) = sfs c p m' w := by kernel_rfl
theorem hput_spots (c : Cfg) (l l' : Addr) (st : Stt) (sp : List Spt) : putF "spots" (.ref l') (fh c l st) = fh c l' { st with spots := sp } := by kernel_rfl
theorem len5 {n : Nat} (h : n ≤ 20) : n < 1000 := Nat.lt_of_le_of_lt h (by decide)
theorem spt_eq {sp : List Spt} (nd : (sp.map (·.p)).Nodup) {t u : Spt} (ht : t ∈ sp) (hu : u ∈ sp) (e : u.p = t.p) : u = t := by
  induction sp with
  | nil => cases ht
  | cons a r ih =>
    rw [List.map_cons, List.nodup_cons] at nd
    rcases List.mem_cons.mp ht with h1 | h1
    · rcases List.mem_cons.mp hu with h2 | h2
      · rw [h1, h2]
      · exact absurd (by rw [← h1, ← e]; exact List.mem_map.mpr ⟨u, h2, rfl⟩) nd.1
    · rcases List.mem_cons.mp hu with h2 | h2
      · exact absurd (by rw [← h2, e]; exact List.mem_map.mpr ⟨t, h1, rfl⟩) nd.1
      · exact ih nd.2 h1 h2
/-- one spot's fields are changed -/
def chg (p : Int) (f : Spt → Spt) (sp : List Spt) : List Spt := sp.map fun u => if u.p = p then f u else u
theorem chg_p {p : Int} {f : Spt → Spt} (hf : ∀ u, (f u).p = u.p) (u : Spt) : (if u.p = p then f u else u).p = u.p := by
  by_cases h : u.p = p
  · rw [if_pos h, hf]
  · rw [if_neg h]
theorem chg_ps {p : Int} {f : Spt → Spt} (hf : ∀ u, (f u).p = u.p) (sp : List Spt) : (chg p f sp).map (·.p) = sp.map (·.p) := by
  unfold chg
  rw [List.map_map]
  exact List.map_congr_left fun u _ => chg_p hf u
theorem rf_eq {ad : Int → Addr} {sp sp' : List Spt} (h : sp'.map (·.p) = sp.map (·.p)) : rf ad sp' = rf ad sp := by
  have e : ∀ l : List Spt, rf ad l = (l.map (·.p)).map fun p => V.ref (ad p) := fun l => by
    unfold rf
    rw [List.map_map]
    rfl
  rw [e, e, h]
theorem SpR.chg {K : PySem.W.Frag} {ad : Int → Addr} {sp : List Spt} {H : Hp} (s : SpR K ad sp H) {t : Spt} (ht : t ∈ sp) {f : Spt → Spt} (hf : ∀ u, (f u).p = u.p) (dt : Addr) : SpR K ad (chg t.p f sp) (upd H (ad t.p) (.ins (cSp K) dt (fs (f t)))) := by
  refine ⟨fun v hv => ?_, fun v hv u hu e => ?_, by rw [chg_ps hf]; exact s.nd⟩
  · obtain ⟨u, hu, rfl⟩ := List.mem_map.mp hv
    by_cases h : u.p = t.p
    · have := spt_eq s.nd ht hu h
      subst this
      rw [if_pos rfl, hf]
      exact ⟨dt, upd_same⟩
    · rw [if_neg h]
      obtain ⟨d, e⟩ := s.at_ u hu
      exact ⟨d, by rw [upd_ne fun z => h (s.inj _ hu _ ht z)]; exact e⟩
  · obtain ⟨u1, hu1, rfl⟩ := List.mem_map.mp hv
    obtain ⟨u2, hu2, rfl⟩ := List.mem_map.mp hu
    rw [chg_p hf, chg_p hf] at e ⊢
    exact s.inj _ hu1 _ hu2 e
theorem SpR.sub {K : PySem.W.Frag} {ad : Int → Addr} {sp sp' : List Spt} {H : Hp} (s : SpR K ad sp H) (h : sp'.Sublist sp) : SpR K ad sp' H :=
  ⟨fun t ht => s.at_ t (h.subset ht), fun t ht u hu => s.inj t (h.subset ht) u (h.subset hu), s.nd.sublist (h.map _)⟩
theorem rf_erase {ad : Int → Addr} {p0 : Int} : ∀ {sp : List Spt}, (∀ u ∈ sp, ad u.p = ad p0 → u.p = p0) → (sp.map (·.p)).Nodup → (rf ad sp).erase (.ref (ad p0)) = rf ad (sp.filter fun u => decide (u.p ≠ p0))
  | [], _, _ => rfl
  | u :: r, h, nd => by
    rw [List.map_cons, List.nodup_cons] at nd
    show ((V.ref (ad u.p)) :: rf ad r).erase (.ref (ad p0)) = _
    by_cases e : u.p = p0
    · subst e
      rw [List.erase_cons_head, List.filter_cons_of_neg (by simp)]
      refine congrArg (rf ad) (List.filter_eq_self.mpr fun a ha => ?_).symm
      refine decide_eq_true fun z => nd.1 ?_
      rw [← z]
      exact List.mem_map.mpr ⟨a, ha, rfl⟩
    · have ne : (V.ref (ad u.p) == V.ref (ad p0)) = false := by
        rw [beq_eq_false_iff_ne]
        intro z
        exact e (h u (List.mem_cons_self ..) (V.ref.inj z))
      rw [List.erase_cons_tail (by rw [ne]; decide), List.filter_cons_of_pos (by simpa using e), rf_erase (fun v hv => h v (List.mem_cons_of_mem _ hv)) nd.2]
      rfl
theorem hf_ne {c : Cfg} {l : Addr} {st : Stt} {dx dt C C' : Addr} {t : Spt} : HO.ins C dx (fh c l st) ≠ HO.ins C' dt (fs t) := fun z => by
  have z2 := (HO.ins.inj z).2.2
  have z3 := congrArg List.length z2
  exact absurd (show (9 : Nat) = 4 from z3) (by decide)
def unw (u : Spt) : Spt := { u with w := none }
theorem unw_p (u : Spt) : (unw u).p = u.p := rfl
theorem showS_chg (t : Spt) (sp : List Spt) : showS t sp = if t.m = ("" : Str) then (chg t.p unw sp).filter fun u => decide (u.p ≠ t.p) else chg t.p unw sp := rfl
end
section
variable {P : Program} {w : World} {K : PySem.W.Frag} {mg : Str → Option Value} {base : Heap}
/-! ### least -/
def qLeast : Str := (envOfC "Shelf.least" (defScope sShelf_least) 0 0 .none).qual ++ "<lambda>"
def spLeast (K : PySem.W.Frag) (T : List (Addr × Str)) : Sp := fun vs H Q _ => ∃ (v : V) (q : Addr) (ad : Int → Addr) (sp : List Spt) (t : Spt), vs = [v, .ref q] ∧ H q = some (.lst (rf ad sp)) ∧ SpR K ad sp H ∧ best false sp = some t ∧ LamX.Tabs T H ∧
  ∀ H', LamX.ExtN H H' → LamX.Tabs T H' → Q (.ref (ad t.p)) H'
theorem best_rf {mx : Bool} {ad : Int → Addr} {sp : List Spt} {t : Spt} {v : V} (h : best mx sp = some t) (hv : (rf ad sp)[argBest (kBt mx (sp.map Spt.key)) ((rf ad sp).length - 1)]? = some v) : v = .ref (ad t.p) := by
  obtain ⟨u, hu, rfl⟩ := rf_get hv
  have e : (rf ad sp).length = sp.length := List.length_map ..
  rw [e] at hu
  have := hu.symm.trans h
  cases this
  rfl
theorem best_ne {mx : Bool} {sp : List Spt} {t : Spt} (h : best mx sp = some t) : sp ≠ [] := fun z => by
  subst z
  cases h
theorem best_mem {mx : Bool} {sp : List Spt} {t : Spt} (h : best mx sp = some t) : t ∈ sp := mem_at h
theorem ok_least {tb : List (Addr × Str)} {cc Pt : Addr} (T : Fx K mg) (F : MT K (cSh K) "least" "Shelf.least" sShelf_least ["self", "spots"] cc) (TB : LamX.TabB base mg cc Pt) (hmT : (Pt, qLeast) ∈ tb) (huT : ∀ p ∈ tb, p.1 = Pt → p.2 = qLeast) : Met P w K mg base 2 (cSh K) "least" (spLeast K tb) [] := by
  refine F.met T.cShelf scShelf_least (fun vs H Q E h => ?_) (fun f A outer s H vs Q E hr h => ?_)
  · obtain ⟨_, _, _, _, _, rfl, _⟩ := h
    rfl
  obtain ⟨v, q, ad, sp, t, rfl, hq, S, ht, hT, k⟩ := h
  have nd := scShelf_least.nd
  refine ⟨_, (pss_one (ps_ret (pe_best (T := tb) (mx := false) rfl (pv 1) (by rfl) T.n_min TB rfl hmT huT hr rfl rfl rfl rfl rfl rfl (fun _ _ _ _ _ => rfl)))), ?_⟩
  refine ⟨_, rfl, q, cSp K, _, sp.map Spt.key, rfl, hT, hq, ?_, ?_, T.cSpot, T.aSpot_count, T.aSpot_place, fun i v k' hv hk => ?_, fun H2 e t2 v hv => ?_⟩
  · intro z
    exact best_ne ht (List.map_eq_nil_iff.mp z)
  · rw [List.length_map]
    exact List.length_map ..
  · obtain ⟨u, hu, rfl⟩ := rf_get hv
    rw [List.getElem?_map, hu] at hk
    cases hk
    obtain ⟨d, hd⟩ := S.at_ u (mem_at hu)
    exact ⟨_, d, _, rfl, hd, rfl, rfl⟩
  · rw [best_rf ht hv]
    exact k H2 e t2
/-! ### show -/
def spShow (K : PySem.W.Frag) (T : List (Addr × Str)) : Sp := fun vs H Q _ => ∃ (c : Cfg) (x dx l : Addr) (ad : Int → Addr) (st : Stt) (t : Spt), vs = [.ref x, .ref (ad t.p)] ∧ Sh K T c x dx l ad st H ∧ t ∈ st.spots ∧
  ∀ H', Sh K T c x dx l ad { st with spots := showS t st.spots } H' → Stp x l ad st.spots H l ad (showS t st.spots) H' → Q (.int t.p) H'
theorem wv_none : wv none = .non := rfl
theorem ok_show {T0 : List (Addr × Str)} (T : Fx K mg) (F : MF K (cSh K) "show" "Shelf.show" sShelf_show ["self", "spot"]) : Met P w K mg base 1 (cSh K) "show" (spShow K T0) [] := by
  refine F.met T.cShelf scShelf_show (fun vs H Q E h => ?_) (fun f cdv A outer s H vs Q E hr h => ?_)
  · obtain ⟨_, _, _, _, _, _, _, rfl, _⟩ := h
    rfl
  obtain ⟨c, x, dx, l, ad, st, t, rfl, S, ht, k⟩ := h
  have nd := scShelf_show.nd
  have hu := hu_of hr
  have hu64 := hu64_of hr
  obtain ⟨dt, hat⟩ := S.spo.at_ t ht
  have nxt : x ≠ ad t.p := ne_of S.obj hat hf_ne
  have nlt : l ≠ ad t.p := ne_of S.lst hat (by intro z; cases z)
  refine ⟨_, (pss_cons (ps_fld (pv 1) pe_non rfl)
  (pss_cons (ps_if (pt_cmpR op_eq (pe_fld (pv 1) rfl) (pe_gs T.g_BARE (by rfl)) (nomark _)) (pss_one (ps_expr (pe_bm PySem.F.plainAttrs_list PySem.F.slot_list_remove PySem.F.type_list_remove (mt_remR hu64) (pe_fld (pv 0) rfl) (pa_cons (pv 1) pa_nil)))) pss_nil)
  (pss_one (ps_ret (pe_fld (pv 1) rfl))))), ?_⟩
  refine ⟨_, rfl, _, _, dt, _, rfl, hat, T.cSpot, T.aSpot_waited, len5 (by show 4 ≤ 20; decide), ?_⟩
  rw [sput_w]
  have S1 : SpR K ad (chg t.p unw st.spots) (upd H (ad t.p) (.ins (cSp K) dt (fs (unw t)))) := S.spo.chg (f := unw) ht unw_p dt
  have T1 : LamX.Tabs T0 (upd H (ad t.p) (.ins (cSp K) dt (fs (unw t)))) := Tabs.put S.tabs hat (by intro ps z; cases z) (by intro f z; cases z)
  have O1 : upd H (ad t.p) (.ins (cSp K) dt (fs (unw t))) x = some (.ins (cSh K) dx (fh c l st)) := by rw [upd_ne nxt]; exact S.obj
  have L1 : upd H (ad t.p) (.ins (cSp K) dt (fs (unw t))) l = some (.lst (rf ad st.spots)) := by rw [upd_ne nlt]; exact S.lst
  have ow1 : Ow x l ad st.spots H (ad t.p) := .inr (.inr (.inl ⟨t, ht, rfl⟩))
  refine ⟨_, rfl, _, _, dt, _, _, rfl, upd_same, T.cSpot, T.aSpot_mark, rfl, rfl, _, rfl, ?_⟩
  have st1 : Stp x l ad st.spots H l ad (chg t.p unw st.spots) (upd H (ad t.p) (.ins (cSp K) dt (fs (unw t)))) := by
    refine ⟨(Fr.refl _ _).put hat rfl (.inl ow1), fun b z => ?_⟩
    rcases z with z | z | ⟨u, hu, z⟩ | ⟨ps, z⟩
    · exact .inl (.inl z)
    · exact .inl (.inr (.inl z))
    · obtain ⟨v, hv, rfl⟩ := List.mem_map.mp hu
      rw [chg_p unw_p] at z
      exact .inl (.inr (.inr (.inl ⟨v, hv, z⟩)))
    · refine .inl (.inr (.inr (.inr ⟨ps, ?_⟩)))
      rwa [upd_ne fun y => by rw [y, upd_same] at z; cases z] at z
  refine ite2 (fun he => ?_) (fun he => ?_)
  · have em : t.m = ("" : Str) := V.str.inj (of_decide_eq_true he)
    have hni : ∀ z ∈ rf ad st.spots, NI (cSp K) (upd H (ad t.p) (.ins (cSp K) dt (fs (unw t)))) z := fun z hz => by
      obtain ⟨u, hu, rfl⟩ := List.mem_map.mp hz
      have hu2 : (if u.p = t.p then unw u else u) ∈ chg t.p unw st.spots := List.mem_map.mpr ⟨u, hu, rfl⟩
      obtain ⟨d, e⟩ := S1.at_ _ hu2
      rw [chg_p unw_p] at e
      exact .inr ⟨_, d, _, rfl, e⟩
    refine ⟨_, rfl, x, _, dx, _, _, rfl, O1, T.cShelf, T.aShelf_spots, rfl, .inl ⟨rfl, _, SqL.of L1⟩, _, rfl, cSp K, l, ad t.p, dt, _, _, rfl, rfl, L1, upd_same, hni, T.eqS, List.mem_map.mpr ⟨t, ht, rfl⟩, ?_⟩
    rw [rf_erase (fun u hu e => S.spo.inj u hu t ht e) S.spo.nd]
    have nlx : x ≠ l := ne_of S.obj S.lst (by intro z; cases z)
    have ntl : ad t.p ≠ l := nlt.symm
    have eS : showS t st.spots = (chg t.p unw st.spots).filter fun u => decide (u.p ≠ t.p) := by rw [showS_chg, if_pos em]
    have eR : rf ad (st.spots.filter fun u => decide (u.p ≠ t.p)) = rf ad (showS t st.spots) := by
      rw [eS]
      refine rf_eq ?_
      have q : ∀ l : List Spt, (l.filter fun u => decide (u.p ≠ t.p)).map (·.p) = (l.map (·.p)).filter fun p => decide (p ≠ t.p) := fun l => by
        rw [List.filter_map]
        rfl
      rw [q, q, chg_ps unw_p]
    rw [eR]
    refine ⟨_, rfl, _, _, dt, _, _, rfl, (by rw [upd_ne ntl]; exact upd_same), T.cSpot, T.aSpot_place, rfl, k _ ⟨?_, upd_same, ?_, Tabs.put T1 L1 (by intro ps z; cases z) (by intro f z; cases z), ?_⟩ (st1.trans ⟨(Fr.refl _ _).put L1 rfl (.inl (.inr (.inl rfl))), fun b z => ?_⟩)⟩
    · rw [upd_ne nlx]
      exact O1
    · have S2 : SpR K ad (showS t st.spots) (upd H (ad t.p) (.ins (cSp K) dt (fs (unw t)))) := by
        rw [eS]
        exact S1.sub List.filter_sublist
      refine ⟨fun u hu => ?_, S2.inj, S2.nd⟩
      obtain ⟨d, e⟩ := S2.at_ u hu
      exact ⟨d, upd_off e L1 (by intro z; cases z)⟩
    · show (showS t st.spots).length < sizeLine
      rw [eS]
      refine Nat.lt_of_le_of_lt (List.length_filter_le ..) ?_
      unfold chg
      rw [List.length_map]
      exact S.len
    · rcases z with z | z | ⟨u, hu, z⟩ | ⟨ps, z⟩
      · exact .inl (.inl z)
      · exact .inl (.inr (.inl z))
      · rw [eS] at hu
        exact .inl (.inr (.inr (.inl ⟨u, (List.mem_filter.mp hu).1, z⟩)))
      · refine .inl (.inr (.inr (.inr ⟨ps, ?_⟩)))
        rwa [upd_ne fun y => by rw [y, upd_same] at z; cases z] at z
  · have em : ¬ t.m = ("" : Str) := fun z => by rw [z] at he; exact absurd he (by decide)
    have eS : showS t st.spots = chg t.p unw st.spots := by rw [showS_chg, if_neg em]
    refine ⟨_, rfl, _, _, dt, _, _, rfl, upd_same, T.cSpot, T.aSpot_place, rfl, k _ ⟨O1, ?_, ?_, T1, ?_⟩ ?_⟩
    · show _ = some (HO.lst (rf ad (showS t st.spots)))
      rw [eS, rf_eq (chg_ps unw_p _)]
      exact L1
    · show SpR K ad (showS t st.spots) _
      rw [eS]
      exact S1
    · show (showS t st.spots).length < sizeLine
      rw [eS]
      unfold chg
      rw [List.length_map]
      exact S.len
    · rw [eS]
      exact st1
end

end L2.K13
set_option Elab.async false
set_option linter.all false
set_option maxRecDepth 100000
set_option maxHeartbeats 4000000
set_option pp.maxSteps 150
namespace L2.K13
open PySem PySem.Spec PyProof.Rows L2
open C8 (Cal Met Mak pe_c pe_mt pe_mt0 pe_mk)
local macro_rules | `(tactic| walk_at "hp") => `(tactic| first | assumption | exact upd_same | (refine upd_keep ?_ (by assumption); walk_at "hp") | (refine upd_off ?_ (by assumption) (by intro z; cases z); walk_at "hp"))
local macro_rules | `(tactic| walk_at "seq") => `(tactic| first | assumption | exact SqT.of (by walk_at "hp") | exact SqL.of (by walk_at "hp"))
section
theorem argBest_le (bt : Nat → Nat → Bool) : ∀ k, argBest bt k ≤ k
  | 0 => Nat.le_refl _
  | k + 1 => by
    show (if bt (k + 1) (argBest bt k) then k + 1 else argBest bt k) ≤ k + 1
    split
    · exact Nat.le_refl _
    · exact Nat.le_succ_of_le (argBest_le bt k)
theorem best_some {mx : Bool} {l : List Spt} (h : l ≠ []) : ∃ t, best mx l = some t := by
  have hp := List.length_pos_iff.mpr h
  have hlt : argBest (kBt mx (l.map Spt.key)) (l.length - 1) < l.length := Nat.lt_of_le_of_lt (argBest_le _ _) (by omega)
  exact ⟨l[argBest (kBt mx (l.map Spt.key)) (l.length - 1)], List.getElem?_eq_getElem hlt⟩
theorem best_nil {mx : Bool} {l : List Spt} (h : best mx l = none) : l = [] := by
  cases l with
  | nil => rfl
  | cons a r =>
    obtain ⟨t, e⟩ := best_some (mx := mx) (l := a :: r) (by simp)
    rw [e] at h
    cases h
theorem waiting_chg (p : Int) (sp : List Spt) : waiting (chg p unw sp) = (waiting sp).filter fun u => decide (u.p ≠ p) := by
  unfold waiting chg
  induction sp with
  | nil => rfl
  | cons a r ih =>
    rw [List.map_cons]
    by_cases h : a.p = p
    · rw [if_pos h, List.filter_cons_of_neg (by simp [unw]), ih, List.filter_cons]
      split
      · rw [List.filter_cons_of_neg (by simpa using h)]
      · rfl
    · rw [if_neg h, List.filter_cons, List.filter_cons]
      split
      · rw [List.filter_cons_of_pos (by simpa using h), ih]
      · exact ih
theorem waiting_show (t : Spt) (sp : List Spt) : waiting (showS t sp) = (waiting sp).filter fun u => decide (u.p ≠ t.p) := by
  rw [showS_chg]
  split
  · have e : waiting ((chg t.p unw sp).filter fun u => decide (u.p ≠ t.p)) = (waiting (chg t.p unw sp)).filter fun u => decide (u.p ≠ t.p) := by
      unfold waiting
      rw [List.filter_filter, List.filter_filter]
      exact List.filter_congr fun u _ => Bool.and_comm _ _
    rw [e, waiting_chg, List.filter_filter]
    exact List.filter_congr fun u _ => Bool.and_self _
  · exact waiting_chg _ _
theorem filter_lt {α : Type} {l : List α} {q : α → Bool} {t : α} (ht : t ∈ l) (hq : q t = false) : (l.filter q).length < l.length := by
  induction l with
  | nil => cases ht
  | cons a r ih =>
    rcases List.mem_cons.mp ht with h | h
    · subst h
      rw [List.filter_cons_of_neg (by rw [hq]; decide)]
      exact Nat.lt_succ_of_le (List.length_filter_le ..)
    · by_cases ha : q a = true
      · rw [List.filter_cons_of_pos ha]
        exact Nat.succ_lt_succ (ih h)
      · rw [List.filter_cons_of_neg ha]
        exact Nat.lt_succ_of_lt (ih h)
theorem wait_lt {t : Spt} {sp : List Spt} (h : t ∈ waiting sp) : (waiting (showS t sp)).length < (waiting sp).length := by
  rw [waiting_show]
  exact filter_lt h (by simp)
theorem showS_len (t : Spt) (sp : List Spt) : (showS t sp).length ≤ sp.length := by
  rw [showS_chg]
  split
  · refine Nat.le_trans (List.length_filter_le ..) ?_
    unfold chg
    rw [List.length_map]
    exact Nat.le_refl _
  · unfold chg
    rw [List.length_map]
    exact Nat.le_refl _
theorem wait_mem {t : Spt} {sp : List Spt} (h : t ∈ waiting sp) : t ∈ sp := (List.mem_filter.mp h).1
end
section
variable {P : Program} {w : World} {K : PySem.W.Frag} {mg : Str → Option Value} {base : Heap}
/-! ### presses -/
def spPresses (K : PySem.W.Frag) (T : List (Addr × Str)) : Sp := fun vs H Q _ => ∃ (c : Cfg) (x dx l : Addr) (ad : Int → Addr) (st : Stt), vs = [.ref x] ∧ Sh K T c x dx l ad st H ∧ ∀ H', Same H H' → Q (.bl (presses c st.spots)) H'
theorem ok_presses {T0 : List (Addr × Str)} (T : Fx K mg) (F : MF K (cSh K) "presses" "Shelf.presses" sShelf_presses ["self"]) (m_waiting : Met P w K mg base 2 (cSh K) "waiting" (spWaiting K T0) []) : Met P w K mg base 3 (cSh K) "presses" (spPresses K T0) [] := by
  refine F.met T.cShelf scShelf_presses (fun vs H Q E h => ?_) (fun f cdv A outer s H vs Q E hr h => ?_)
  · obtain ⟨_, _, _, _, _, _, rfl, _⟩ := h
    rfl
  obtain ⟨c, x, dx, l, ad, st, rfl, S, k⟩ := h
  have nd := scShelf_presses.nd
  have hu := hu_of hr
  refine ⟨_, (pss_cons (ps_set (i := 1) nd rfl (Or.inl rfl) (pe_mt0 m_waiting hr (by first | decide | omega) (pv 0)))
  (pss_one (ps_ret (pe_or (pe_cmpR op_gt (pe_callB call_len_seq (by rfl) T.n_len PySem.boot_len (pa_cons (pv 1) pa_nil)) (pe_fld (pv 0) rfl) (nomark _)) (pe_one (pe_and (pe_cmp (pc_notN (pe_fld (pv 0) rfl))) (pe_one (pe_callB (cr_any rfl) (by rfl) T.n_any boot_any (pa_cons (pe_lc (own := [("spot", 2)]) (g := (gName 2)) (tt := tYes) (te := (tOp _ (tFld K (tVar 2) "waited") (tFld K (tVar 0) "wait"))) rfl nd (pi_list (pv 1)) (blkOk_by (N := ["self", "found", "spot"]) (sc := defScope sShelf_presses) (by decide +kernel)) (fun _ _ _ _ _ => (pg_name (i := 2) nd rfl (by first | exact .inl rfl | exact .inr rfl))) (fun _ _ _ _ _ => pts_nil) (fun _ _ _ _ _ => (pe_cmpR op_ge (pe_fld (pv 2) rfl) (pe_fld (pv 0) rfl) (nomark _)))) pa_nil))))))))), ?_⟩
  refine ⟨_, rfl, x, dx, _, rfl, S.obj, rfl, c, x, dx, l, ad, st, rfl, S, fun D hD => ?_⟩
  have S1 := S.new (o := .lst (rf ad (waiting st.spots))) hD
  have s1 : Same H (upd H D (.lst (rf ad (waiting st.spots)))) := fun b o h => upd_keep h hD
  have len : (rf ad (waiting st.spots)).length = (waiting st.spots).length := List.length_map ..
  refine ⟨_, rfl, _, _, rfl, .inl (SqL.of upd_same), _, rfl, _, _, dx, _, _, rfl, S1.obj, T.cShelf, T.aShelf_reorder, rfl, _, _, rfl, rfl, _, rfl, ?_⟩
  rw [len]
  have fin : ∀ H', Same H H' → ∀ b, b = presses c st.spots → Q (.bl b) H' := fun H' e b eb => by rw [eb]; exact k H' e
  refine ite2 (fun hc => ?_) (fun hc => ?_)
  · refine fin _ s1 _ ?_
    unfold presses
    rw [hc]
    rfl
  · refine ⟨_, rfl, _, _, dx, _, _, rfl, S1.obj, T.cShelf, T.aShelf_wait, rfl, _, rfl, ?_⟩
    have hc' : decide ((((waiting st.spots).length : Nat) : Int) > c.reorder) = false := by simpa using hc
    cases hw : c.wait with
    | none =>
      refine ifF rfl (fin _ s1 _ ?_)
      unfold presses
      rw [hc', hw]
      rfl
    | some b =>
      refine ifT rfl ⟨_, rfl, D, rfl, ⟨_, SqL.of upd_same⟩, fun D2 hD2 => ?_⟩
      refine lc_fm (zs := waiting st.spots) (r := fun t => V.ref (ad t.p)) (F := fun t => some (.bl (decide (t.w.getD 0 ≥ b)))) hD2 upd_same (Nat.lt_of_le_of_lt (List.length_filter_le ..) S.len) (fun i t acc R ht h1 h2 hz => ?_) ?_
      · have htw := mem_at ht
        obtain ⟨j, ej⟩ := Option.isSome_iff_exists.mp (List.mem_filter.mp htw).2
        obtain ⟨dt, h3⟩ := S1.spo.at_ t (wait_mem htw)
        refine ⟨rfl, _, rfl, _, _, dt, _, _, rfl, upd_keep h3 hD2, T.cSpot, T.aSpot_waited, rfl, _, rfl, _, _, dx, _, _, rfl, upd_keep S1.obj hD2, T.cShelf, T.aShelf_wait, rfl, j, b, by rw [ej]; rfl, by rw [hw]; rfl, acc, upd_same, hz, ?_⟩
        rw [upd2]
        refine h1 _ ?_
        rw [ej]
        rfl
      · refine ⟨D2, (waiting st.spots).map fun t => decide (t.w.getD 0 ≥ b), rfl, SqL.of ?_, ?_⟩
        · rw [upd_same, List.map_map, ← List.filterMap_eq_map]
          rfl
        · refine fin _ (fun y o h => upd_keep (s1 y o h) hD2) _ ?_
          unfold presses
          rw [hc', hw, List.any_map]
          rfl
/-! ### show_all -/
theorem vi_len {l : List Int} : (l.map V.int).length = l.length := List.length_map ..
def spShowAll (K : PySem.W.Frag) (T : List (Addr × Str)) : Sp := fun vs H Q _ => ∃ (c : Cfg) (x dx l : Addr) (ad : Int → Addr) (st : Stt), vs = [.ref x] ∧ Sh K T c x dx l ad st H ∧
  ∀ H' q, Sh K T c x dx l ad { st with spots := (showF st.spots).2 } H' → Stp x l ad st.spots H l ad (showF st.spots).2 H' → H q = none → q ≠ l → H' q = some (.lst ((showF st.spots).1.map V.int)) → (showF st.spots).1.length ≤ st.spots.length → Q (.ref q) H'
theorem showAll_none {n : Nat} {sp : List Spt} (h : waiting sp = []) : showAll n sp = ([], sp) := by
  cases n with
  | zero => rfl
  | succ n =>
    unfold showAll
    rw [h]
    rfl
theorem ok_show_all {T0 : List (Addr × Str)} (T : Fx K mg) (F : MF K (cSh K) "show_all" "Shelf.show_all" sShelf_show_all ["self"]) (m_waiting : Met P w K mg base 2 (cSh K) "waiting" (spWaiting K T0) []) (m_show : Met P w K mg base 1 (cSh K) "show" (spShow K T0) [])
    (m_least : Met P w K mg base 2 (cSh K) "least" (spLeast K T0) []) : Met P w K mg base 3 (cSh K) "show_all" (spShowAll K T0) [] := by
  refine F.met T.cShelf scShelf_show_all (fun vs H Q E h => ?_) (fun f cdv A outer s H vs Q E hr h => ?_)
  · obtain ⟨_, _, _, _, _, _, rfl, _⟩ := h
    rfl
  obtain ⟨c, x, dx, l, ad, st, rfl, S, k⟩ := h
  have nd := scShelf_show_all.nd
  have hu := hu_of hr
  refine ⟨_, (pss_cons (ps_set (i := 1) nd rfl (Or.inl rfl) (pe_lst pa_nil))
  (pss_cons (ps_while PassesOwn.never (pt_cmpR op_gt (pe_callB call_len_seq (by rfl) T.n_len PySem.boot_len (pa_cons (pe_mt0 m_waiting hr (by first | decide | omega) (pv 0)) pa_nil)) pe_int (nomark _)) (pss_one (ps_expr (pe_bm PySem.F.plainAttrs_list PySem.F.slot_list_append PySem.F.type_list_append mt_append (pv 1) (pa_cons (pe_mt m_show hr (by first | decide | omega) (pv 0) (pa_cons (pe_mt m_least hr (by first | decide | omega) (pv 0) (pa_cons (pe_mt0 m_waiting hr (by first | decide | omega) (pv 0)) pa_nil)) pa_nil)) pa_nil)))))
  (pss_one (ps_ret (pv 1))))), ?_⟩
  refine ⟨Nat.zero_le _, fun q hq => ?_⟩
  have S0 := S.new (o := .lst []) hq
  have nql : q ≠ l := (ne_of_none S.lst hq).symm
  refine ⟨fun n σ H' => σ = [some (.ref x), some (.ref q)] ∧ ∃ (sp : List Spt) (acc : List Int), Sh K T0 c x dx l ad { st with spots := sp } H' ∧ Stp x l ad st.spots H l ad sp H' ∧ H' q = some (.lst (acc.map V.int)) ∧ (waiting sp).length ≤ n ∧ acc.length + (waiting sp).length ≤ st.spots.length ∧
    acc ++ (showAll n sp).1 = (showF st.spots).1 ∧ (showAll n sp).2 = (showF st.spots).2, ⟨(waiting st.spots).length, rfl, st.spots, [], S0, (ExtN.stp (ext_new hq)), upd_same, Nat.le_refl _, by
      show 0 + _ ≤ _
      rw [Nat.zero_add]
      exact List.length_filter_le .., rfl, rfl⟩, ?_⟩
  rintro n σ H1 ⟨rfl, sp, acc, S1, s1, h1, hn, hL, e1, e2⟩
  refine ⟨_, rfl, x, dx, _, rfl, S1.obj, rfl, c, x, dx, l, ad, _, rfl, S1, fun D hD => ?_⟩
  have nqD : q ≠ D := ne_of_none h1 hD
  have len : (rf ad (waiting sp)).length = (waiting sp).length := List.length_map ..
  have S2 := S1.new (o := .lst (rf ad (waiting sp))) hD
  have s2 := s1.trans (ExtN.stp (sp := sp) (ext_new (o := .lst (rf ad (waiting sp))) hD))
  have h2 : upd H1 D (.lst (rf ad (waiting sp))) q = some (.lst (acc.map V.int)) := by rw [upd_ne nqD]; exact h1
  refine ⟨D, _, rfl, .inl (SqL.of upd_same), _, _, rfl, rfl, _, rfl, ?_⟩
  rw [len]
  refine ite2 (fun hc => ?_) (fun hc => ?_)
  · have hne : waiting sp ≠ [] := fun z => by rw [z] at hc; exact absurd hc (by decide)
    obtain ⟨t, ht⟩ := best_some (mx := false) hne
    have htw := best_mem ht
    have hpos : 0 < (waiting sp).length := List.length_pos_iff.mpr hne
    obtain ⟨m, rfl⟩ : ∃ m, n = m + 1 := ⟨n - 1, by omega⟩
    refine ⟨_, fun _ _ z => z, ?_⟩
    refine ⟨_, rfl, .inl ⟨rfl, _, SqL.of h2⟩, _, rfl, x, dx, _, rfl, S2.obj, rfl, _, rfl, x, dx, _, rfl, S2.obj, rfl, _, rfl, x, dx, _, rfl, S2.obj, rfl, c, x, dx, l, ad, _, rfl, S2, fun D2 hD2 => ?_⟩
    have S3 := S2.new (o := .lst (rf ad (waiting sp))) hD2
    have s3 := s2.trans (ExtN.stp (sp := sp) (ext_new (o := .lst (rf ad (waiting sp))) hD2))
    refine ⟨_, D2, ad, waiting sp, t, rfl, upd_same, S3.spo.sub List.filter_sublist, ht, S3.tabs, fun H4 x4 t4 => ?_⟩
    have S4 := S3.ext x4 t4
    have s4 := s3.trans (ExtN.stp (sp := sp) x4)
    refine ⟨c, x, dx, l, ad, _, t, rfl, S4, wait_mem htw, fun H5 S5 s5' => ?_⟩
    have s5 := s4.trans s5'
    have h4 : H4 q = some (.lst (acc.map V.int)) := x4 _ _ (upd_keep h2 hD2) fun ps z => by cases z
    have h5 := (s5'.out h4 (S4.notOw h4 (by intro _ _ _ z; cases z) nql (by intro _ z; cases z))).1
    have lt := wait_lt htw
    refine ⟨q, _, _, rfl, rfl, h5, ?_, m, Nat.lt_succ_self _, rfl, showS t sp, acc ++ [t.p], ?_, ?_, ?_, by omega, ?_, ?_, ?_⟩
    · rw [vi_len]
      exact Nat.lt_of_le_of_lt (by omega) S.len
    · exact S5.off h5 nql
    · exact s5.loc (.inr hq) h5
    · rw [upd_same, List.map_append]
      rfl
    · rw [List.length_append]
      show acc.length + 1 + _ ≤ _
      omega
    · rw [← e1]
      show acc ++ [t.p] ++ _ = acc ++ (match best false (waiting sp) with | none => ([], sp) | some t => (t.p :: (showAll m (showS t sp)).1, (showAll m (showS t sp)).2)).1
      rw [ht, List.append_assoc]
      rfl
    · rw [← e2]
      show _ = (match best false (waiting sp) with | none => ([], sp) | some t => (t.p :: (showAll m (showS t sp)).1, (showAll m (showS t sp)).2)).2
      rw [ht]
  · have hnil : waiting sp = [] := by
      cases h : waiting sp with
      | nil => rfl
      | cons a r =>
        rw [h] at hc
        exact absurd (decide_eq_true (show (0 : Int) < (((a :: r).length : Nat) : Int) by rw [List.length_cons]; omega)) hc
    rw [showAll_none hnil] at e1 e2
    rw [List.append_nil] at e1
    refine ⟨_, rfl, ?_⟩
    refine k _ q (by rw [← e2]; exact S2) (by rw [← e2]; exact s2) hq nql (by rw [← e1]; exact h2) (by rw [← e1]; omega)
end

end L2.K13
set_option Elab.async false
set_option linter.all false
set_option maxRecDepth 100000
set_option maxHeartbeats 4000000
set_option pp.maxSteps 150
namespace L2.K13
open PySem PySem.Spec PyProof.Rows L2
open C8 (Cal Met Mak pe_c pe_mt pe_mt0 pe_mk)
local macro_rules | `(tactic| walk_at "hp") => `(tactic| first | assumption | exact upd_same | (refine upd_keep ?_ (by assumption); walk_at "hp") | (refine upd_off ?_ (by assumption) (by intro z; cases z); walk_at "hp"))
local macro_rules | `(tactic| walk_at "seq") => `(tactic| first | assumption | exact SqT.of (by walk_at "hp") | exact SqL.of (by walk_at "hp"))
section
theorem Sh.setl {K : PySem.W.Frag} {T : List (Addr × Str)} {c : Cfg} {x dx l l' : Addr} {ad : Int → Addr} {st st' : Stt} {H : Hp} (s : Sh K T c x dx l ad st H) (hl : H l' = some (.lst (rf ad st'.spots))) (hs : SpR K ad st'.spots H) (hn : st'.spots.length < sizeLine) :
    Sh K T c x dx l' ad st' (upd H x (.ins (cSh K) dx (fh c l' st'))) := by
  refine ⟨upd_same, by rw [upd_ne (ne_of hl s.obj (by intro z; cases z))]; exact hl, ⟨fun t ht => ?_, hs.inj, hs.nd⟩, Tabs.put s.tabs s.obj (by intro ps z; cases z) (by intro f z; cases z), hn⟩
  obtain ⟨d, e⟩ := hs.at_ t ht
  exact ⟨d, by rw [upd_ne (ne_of e s.obj hf_ne.symm)]; exact e⟩
theorem Stp.setl {x l0 l l' dx : Addr} {ad0 ad ad' : Int → Addr} {sp0 sp sp' : List Spt} {H0 H : Hp} {C C' d' : Addr} {f f' : List (Str × V)} (s : Stp x l0 ad0 sp0 H0 l ad sp H) (hx : H x = some (.ins C dx f)) (hl : l' = l ∨ (Ow x l0 ad0 sp0 H0 l' ∨ H0 l' = none)) (sub : ∀ t ∈ sp', (∃ u ∈ sp, ad' t.p = ad u.p) ∨ (Ow x l0 ad0 sp0 H0 (ad' t.p) ∨ H0 (ad' t.p) = none)) :
    Stp x l0 ad0 sp0 H0 l' ad' sp' (upd H x (.ins C' d' f')) := by
  refine ⟨s.fr.put hx rfl (.inl (.inl rfl)), fun b z => ?_⟩
  rcases z with z | z | ⟨t, ht, z⟩ | ⟨ps, z⟩
  · exact .inl (.inl z)
  · rcases hl with e | e
    · exact s.ow b (.inr (.inl (z.trans e)))
    · rw [z]; exact e
  · rcases sub t ht with ⟨u, hu, e⟩ | e
    · exact s.ow b (.inr (.inr (.inl ⟨u, hu, z.trans e⟩)))
    · rw [z]; exact e
  · refine s.ow b (.inr (.inr (.inr ⟨ps, ?_⟩)))
    rwa [upd_ne fun y => by rw [y, upd_same] at z; cases z] at z
theorem SpR.nil {K : PySem.W.Frag} {ad : Int → Addr} {H : Hp} : SpR K ad [] H := ⟨fun t ht => absurd ht (List.not_mem_nil), fun t ht => absurd ht (List.not_mem_nil), List.nodup_nil⟩
end
section
variable {P : Program} {w : World} {K : PySem.W.Frag} {mg : Str → Option Value} {base : Heap}
/-! ### over, clear -/
def spOver (K : PySem.W.Frag) (T : List (Addr × Str)) : Sp := fun vs H Q _ => ∃ (c : Cfg) (x dx l : Addr) (ad : Int → Addr) (st : Stt), vs = [.ref x] ∧ Sh K T c x dx l ad st H ∧
  ∀ H' q l', Sh K T c x dx l' ad { st with spots := [] } H' → Stp x l ad st.spots H l' ad [] H' → H q = none → q ≠ l' → H' q = some (.lst ((showF st.spots).1.map V.int)) → (showF st.spots).1.length ≤ st.spots.length → Q (.ref q) H'
theorem ok_over {T0 : List (Addr × Str)} (T : Fx K mg) (F : MF K (cSh K) "over" "Shelf.over" sShelf_over ["self"]) (m_show_all : Met P w K mg base 3 (cSh K) "show_all" (spShowAll K T0) []) : Met P w K mg base 4 (cSh K) "over" (spOver K T0) [] := by
  refine F.met T.cShelf scShelf_over (fun vs H Q E h => ?_) (fun f cdv A outer s H vs Q E hr h => ?_)
  · obtain ⟨_, _, _, _, _, _, rfl, _⟩ := h
    rfl
  obtain ⟨c, x, dx, l, ad, st, rfl, S, k⟩ := h
  have nd := scShelf_over.nd
  have hu := hu_of hr
  refine ⟨_, (pss_cons (ps_set (i := 1) nd rfl (Or.inl rfl) (pe_mt0 m_show_all hr (by first | decide | omega) (pv 0)))
  (pss_cons (ps_fld (pv 0) (pe_lst pa_nil) rfl)
  (pss_one (ps_ret (pv 1))))), ?_⟩
  refine ⟨_, rfl, x, dx, _, rfl, S.obj, rfl, c, x, dx, l, ad, st, rfl, S, fun H1 q S1 s1 hq nql h1 hlen => ?_⟩
  refine ⟨Nat.zero_le _, fun l' hl' => ?_⟩
  have S2 := S1.new (o := .lst []) hl'
  have s2 := s1.trans (ExtN.stp (sp := (showF st.spots).2) (ext_new (o := .lst []) hl'))
  have h2 : upd H1 l' (.lst []) q = _ := upd_keep h1 hl'
  refine ⟨_, rfl, x, _, dx, _, rfl, S2.obj, T.cShelf, T.aShelf_spots, len5 (by show 9 ≤ 20; decide), ?_⟩
  rw [hput_spots c l l' _ []]
  have hl0 := s1.gone hl'
  refine ⟨_, rfl, k _ q l' (S2.setl (st' := { st with spots := [] }) upd_same SpR.nil (by show 0 < sizeLine; decide)) (s2.setl S2.obj (.inr hl0) fun t ht => absurd ht List.not_mem_nil) hq (ne_of_none h1 hl') ?_ hlen⟩
  rw [upd_ne (ne_of h2 S2.obj (by intro z; cases z))]
  exact h2
def spClear (K : PySem.W.Frag) (T : List (Addr × Str)) : Sp := fun vs H Q _ => ∃ (c : Cfg) (x dx l : Addr) (ad : Int → Addr) (st : Stt) (hush : Bool), vs = [.ref x, .bl hush] ∧ Sh K T c x dx l ad st H ∧
  ∀ H' q l', Sh K T c x dx l' ad { st with spots := [] } H' → Stp x l ad st.spots H l' ad [] H' → H q = none → q ≠ l' → H' q = some (.lst ((clearF st.spots hush).map V.int)) → (clearF st.spots hush).length ≤ st.spots.length → Q (.ref q) H'
theorem ok_clear {T0 : List (Addr × Str)} (T : Fx K mg) (F : MF K (cSh K) "clear" "Shelf.clear" sShelf_clear ["self", "hush"]) (m_show_all : Met P w K mg base 3 (cSh K) "show_all" (spShowAll K T0) []) : Met P w K mg base 4 (cSh K) "clear" (spClear K T0) [] := by
  refine F.met T.cShelf scShelf_clear (fun vs H Q E h => ?_) (fun f cdv A outer s H vs Q E hr h => ?_)
  · obtain ⟨_, _, _, _, _, _, _, rfl, _⟩ := h
    rfl
  obtain ⟨c, x, dx, l, ad, st, hush, rfl, S, k⟩ := h
  have nd := scShelf_clear.nd
  have hu := hu_of hr
  refine ⟨_, (pss_cons (ps_set (i := 2) nd rfl (Or.inl rfl) (pe_ifExp (pt_val (pv 1)) (pe_lst pa_nil) (pe_mt0 m_show_all hr (by first | decide | omega) (pv 0))))
  (pss_cons (ps_fld (pv 0) (pe_lst pa_nil) rfl)
  (pss_one (ps_ret (pv 2))))), ?_⟩
  have fin : ∀ (H1 : Hp) (q : Addr) (sp1 : List Spt) (st1 : Stt), Sh K T0 c x dx l ad st1 H1 → st1.spots = sp1 → (∀ z, { st1 with spots := z } = { st with spots := z }) → Stp x l ad st.spots H l ad sp1 H1 → H q = none → q ≠ l → H1 q = some (.lst ((clearF st.spots hush).map V.int)) → (clearF st.spots hush).length ≤ st.spots.length →
      ∀ l', H1 l' = none → upd (upd H1 l' (.lst [])) x (.ins (cSh K) dx (fh c l' { st with spots := [] })) = upd (upd H1 l' (.lst [])) x (.ins (cSh K) dx (fh c l' { st1 with spots := [] })) ∧
      Q (.ref q) (upd (upd H1 l' (.lst [])) x (.ins (cSh K) dx (fh c l' { st with spots := [] }))) := by
    intro H1 q sp1 st1 S1 esp est s1 hq nql h1 hlen l' hl'
    refine ⟨by rw [est], ?_⟩
    subst esp
    have S2 := S1.new (o := .lst []) hl'
    have s2 := s1.trans (ExtN.stp (sp := st1.spots) (ext_new (o := .lst []) hl'))
    have h2 : upd H1 l' (.lst []) q = _ := upd_keep h1 hl'
    refine k _ q l' (S2.setl (st' := { st with spots := [] }) upd_same SpR.nil (by show 0 < sizeLine; decide)) (s2.setl S2.obj (.inr (s1.gone hl')) fun t ht => absurd ht List.not_mem_nil) hq (ne_of_none h1 hl') ?_ hlen
    rw [upd_ne (ne_of h2 S2.obj (by intro z; cases z))]
    exact h2
  refine ⟨_, rfl, hush, rfl, ?_⟩
  cases hush with
  | true =>
    refine ⟨Nat.zero_le _, fun q hq => ⟨Nat.zero_le _, fun l' hl' => ?_⟩⟩
    have S1 := S.new (o := .lst []) hq
    obtain ⟨e, z⟩ := fin _ q st.spots st S1 rfl (fun _ => rfl) (ExtN.stp (ext_new hq)) hq (ne_of_none S.lst hq).symm upd_same (Nat.zero_le _) l' hl'
    refine ⟨_, rfl, x, _, dx, _, rfl, upd_keep S1.obj hl', T.cShelf, T.aShelf_spots, len5 (by show 9 ≤ 20; decide), ?_⟩
    rw [hput_spots c l l' _ []]
    exact ⟨_, rfl, z⟩
  | false =>
    refine ⟨_, rfl, x, dx, _, rfl, S.obj, rfl, c, x, dx, l, ad, st, rfl, S, fun H1 q S1 s1 hq nql h1 hlen => ⟨Nat.zero_le _, fun l' hl' => ?_⟩⟩
    obtain ⟨e, z⟩ := fin _ q _ _ S1 rfl (fun _ => rfl) s1 hq nql h1 hlen l' hl'
    refine ⟨_, rfl, x, _, dx, _, rfl, upd_keep S1.obj hl', T.cShelf, T.aShelf_spots, len5 (by show 9 ≤ 20; decide), ?_⟩
    rw [hput_spots c l l' _ []]
    exact ⟨_, rfl, z⟩
end

end L2.K13
set_option Elab.async false
set_option linter.all false
set_option maxRecDepth 100000
set_option maxHeartbeats 4000000
set_option pp.maxSteps 150
namespace L2.K13
open PySem PySem.Spec PyProof.Rows L2
open C8 (Cal Met Mak pe_c pe_mt pe_mt0 pe_mk)
local macro_rules | `(tactic| walk_at "hp") => `(tactic| first | assumption | exact upd_same | (refine upd_keep ?_ (by assumption); walk_at "hp") | (refine upd_off ?_ (by assumption) (by intro z; cases z); walk_at "hp"))
local macro_rules | `(tactic| walk_at "seq") => `(tactic| first | assumption | exact SqT.of (by walk_at "hp") | exact SqL.of (by walk_at "hp"))
section
def bmp (u : Spt) : Spt := match u.w with
  | some i => { u with w := some (i + 1) }
  | none => u
theorem bmp_p (u : Spt) : (bmp u).p = u.p := by
  unfold bmp
  cases u.w <;> rfl
theorem bmp_c (u : Spt) : (bmp u).c = u.c := by
  unfold bmp
  cases u.w <;> rfl
/-- those of ps that lie above count are bumped -/
def bumped (count : Int) (ps : List Int) (sp : List Spt) : List Spt := sp.map fun t => if t.p ∈ ps ∧ t.c > count then bmp t else t
theorem bumped_ps (count : Int) (ps : List Int) (sp : List Spt) : (bumped count ps sp).map (·.p) = sp.map (·.p) := by
  unfold bumped
  rw [List.map_map]
  refine List.map_congr_left fun u _ => ?_
  show Spt.p (if u.p ∈ ps ∧ u.c > count then bmp u else u) = u.p
  split
  · exact bmp_p u
  · rfl
theorem bumped_nil (count : Int) (sp : List Spt) : bumped count [] sp = sp := by
  unfold bumped
  refine (List.map_congr_left fun u _ => ?_).trans (List.map_id sp)
  rw [if_neg (by simp)]
  rfl
theorem bumped_len (count : Int) (ps : List Int) (sp : List Spt) : (bumped count ps sp).length = sp.length := List.length_map ..
theorem bumped_mem {count : Int} {ps : List Int} {sp : List Spt} {u : Spt} (hu : u ∈ sp) (hn : u.p ∉ ps) : u ∈ bumped count ps sp :=
  List.mem_map.mpr ⟨u, hu, if_neg fun h => hn h.1⟩
theorem bumped_step {count : Int} {ps : List Int} {sp : List Spt} {u : Spt} (nd : (sp.map (·.p)).Nodup) (hu : u ∈ sp) (hn : u.p ∉ ps) (hc : u.c > count) : chg u.p bmp (bumped count ps sp) = bumped count (ps ++ [u.p]) sp := by
  unfold bumped chg
  rw [List.map_map]
  refine List.map_congr_left fun t ht => ?_
  show (if Spt.p (if t.p ∈ ps ∧ t.c > count then bmp t else t) = u.p then bmp (if t.p ∈ ps ∧ t.c > count then bmp t else t) else (if t.p ∈ ps ∧ t.c > count then bmp t else t)) = _
  by_cases h : t.p = u.p
  · have e := spt_eq nd hu ht h
    subst e
    have n1 : ¬ (t.p ∈ ps ∧ t.c > count) := fun z => hn z.1
    rw [if_neg n1, if_pos rfl, if_pos ⟨by simp, hc⟩]
  · have e1 : Spt.p (if t.p ∈ ps ∧ t.c > count then bmp t else t) = t.p := by
      split
      · exact bmp_p t
      · rfl
    rw [e1, if_neg h]
    have e2 : (t.p ∈ ps ++ [u.p] ∧ t.c > count) ↔ (t.p ∈ ps ∧ t.c > count) := by
      rw [List.mem_append, List.mem_singleton]
      exact ⟨fun z => ⟨z.1.resolve_right h, z.2⟩, fun z => ⟨.inl z.1, z.2⟩⟩
    by_cases q : t.p ∈ ps ∧ t.c > count
    · rw [if_pos q, if_pos (e2.mpr q)]
    · rw [if_neg q, if_neg fun z => q (e2.mp z)]
theorem bumped_skip {count : Int} {ps : List Int} {sp : List Spt} {u : Spt} (nd : (sp.map (·.p)).Nodup) (hu : u ∈ sp) (hc : ¬ u.c > count) : bumped count ps sp = bumped count (ps ++ [u.p]) sp := by
  unfold bumped
  refine List.map_congr_left fun t ht => ?_
  by_cases h : t.p = u.p
  · have e := spt_eq nd hu ht h
    subst e
    rw [if_neg fun z => hc z.2, if_neg fun z => hc z.2]
  · have e2 : (t.p ∈ ps ++ [u.p] ∧ t.c > count) ↔ (t.p ∈ ps ∧ t.c > count) := by
      rw [List.mem_append, List.mem_singleton]
      exact ⟨fun z => ⟨z.1.resolve_right h, z.2⟩, fun z => ⟨.inl z.1, z.2⟩⟩
    by_cases q : t.p ∈ ps ∧ t.c > count
    · rw [if_pos q, if_pos (e2.mpr q)]
    · rw [if_neg q, if_neg fun z => q (e2.mp z)]
theorem bumped_all {count : Int} {sp : List Spt} : bumped count ((waiting sp).map (·.p)) sp = sp.map fun t => match t.w with
    | some i => if t.c > count then { t with w := some (i + 1) } else t
    | none => t := by
  unfold bumped
  refine List.map_congr_left fun t ht => ?_
  cases e : t.w with
  | none =>
    have eb : bmp t = t := by unfold bmp; rw [e]
    rw [eb]
    split <;> rfl
  | some i =>
    have eb : bmp t = { t with w := some (i + 1) } := by unfold bmp; rw [e]
    have hm : t.p ∈ (waiting sp).map (·.p) := List.mem_map.mpr ⟨t, List.mem_filter.mpr ⟨ht, by rw [e]; rfl⟩, rfl⟩
    by_cases h : t.c > count
    · rw [if_pos ⟨hm, h⟩, eb]
      exact (if_pos h).symm
    · rw [if_neg fun z => h z.2]
      exact (if_neg h).symm
theorem press_wait {c : Cfg} {sp : List Spt} (h0 : 0 ≤ c.reorder) (h : presses c sp = true) : waiting sp ≠ [] := fun z => by
  unfold presses at h
  rw [z] at h
  cases hw : c.wait with
  | none =>
    rw [hw] at h
    simp at h
    omega
  | some b =>
    rw [hw] at h
    simp at h
    omega
theorem pressAll_no {c : Cfg} {n : Nat} {sp : List Spt} (h : presses c sp = false) : pressAll c n sp = ([], sp) := by
  cases n with
  | zero => rfl
  | succ n =>
    unfold pressAll
    rw [if_neg (by rw [h]; decide)]
theorem pressAll_yes {c : Cfg} {n : Nat} {sp : List Spt} {t : Spt} (h : presses c sp = true) (ht : best false (waiting sp) = some t) : pressAll c (n + 1) sp = (t.p :: (pressAll c n (showS t sp)).1, (pressAll c n (showS t sp)).2) := by
  show (if presses c sp then _ else _) = _
  rw [if_pos h, ht]
end
section
variable {P : Program} {w : World} {K : PySem.W.Frag} {mg : Str → Option Value} {base : Heap}
theorem Stp.spo {x l0 l : Addr} {ad0 ad : Int → Addr} {sp0 sp sp' : List Spt} {H0 H : Hp} {t : Spt} {C C' d d' : Addr} {f f' : List (Str × V)} (s : Stp x l0 ad0 sp0 H0 l ad sp H) (ht : t ∈ sp) (h : H (ad t.p) = some (.ins C d f)) (e : sp'.map (·.p) = sp.map (·.p)) : Stp x l0 ad0 sp0 H0 l ad sp' (upd H (ad t.p) (.ins C' d' f')) := by
  refine ⟨s.fr.put h rfl (s.ow _ (.inr (.inr (.inl ⟨t, ht, rfl⟩)))), fun b z => s.ow b ?_⟩
  rcases z with z | z | ⟨u, hu, z⟩ | ⟨ps, z⟩
  · exact .inl z
  · exact .inr (.inl z)
  · have hm : u.p ∈ sp'.map (·.p) := List.mem_map.mpr ⟨u, hu, rfl⟩
    rw [e] at hm
    obtain ⟨v, hv, ev⟩ := List.mem_map.mp hm
    exact .inr (.inr (.inl ⟨v, hv, by rw [z, ev]⟩))
  · refine .inr (.inr (.inr ⟨ps, ?_⟩))
    rwa [upd_ne fun y => by rw [y, upd_same] at z; cases z] at z
/-- one spot of the shelf is written -/
theorem Sh.spot {T : List (Addr × Str)} {c : Cfg} {x dx l : Addr} {ad : Int → Addr} {st : Stt} {H : Hp} {t : Spt} {dt : Addr} {f : Spt → Spt} (s : Sh K T c x dx l ad st H) (ht : t ∈ st.spots) (h : H (ad t.p) = some (.ins (cSp K) dt (fs t))) (hf : ∀ u, (f u).p = u.p) :
    Sh K T c x dx l ad { st with spots := chg t.p f st.spots } (upd H (ad t.p) (.ins (cSp K) dt (fs (f t)))) := by
  refine ⟨?_, ?_, s.spo.chg ht hf dt, Tabs.put s.tabs h (by intro ps z; cases z) (by intro f z; cases z), ?_⟩
  · rw [upd_ne (ne_of s.obj h hf_ne)]
    exact s.obj
  · rw [upd_ne (ne_of s.lst h (by intro z; cases z))]
    show H l = some (.lst (rf ad (chg t.p f st.spots)))
    rw [rf_eq (chg_ps hf _)]
    exact s.lst
  · show (chg t.p f st.spots).length < sizeLine
    unfold chg
    rw [List.length_map]
    exact s.len
def spPut (K : PySem.W.Frag) (T : List (Addr × Str)) : Sp := fun vs H Q _ => ∃ (c : Cfg) (x dx l : Addr) (ad : Int → Addr) (st : Stt) (place count : Int) (shown : Bool), vs = [.ref x, .int place, .int count, .bl shown] ∧ Sh K T c x dx l ad st H ∧ 0 ≤ c.reorder ∧ (∀ t ∈ st.spots, t.p ≠ place) ∧ st.spots.length + 1 < sizeLine ∧
  ∀ H' q ad', Sh K T c x dx l ad' { st with spots := (putF' c st.spots place count shown).2 } H' → Stp x l ad st.spots H l ad' (putF' c st.spots place count shown).2 H' → q ≠ l → H' q = some (.lst ((putF' c st.spots place count shown).1.map V.int)) → (putF' c st.spots place count shown).1.length ≤ st.spots.length + 1 → Q (.ref q) H'
theorem ok_put {T0 : List (Addr × Str)} (T : Fx K mg) (F : MF K (cSh K) "put" "Shelf.put" sShelf_put ["self", "place", "count", "shown"]) (c_Spot : Mak P w K mg base 1 "Spot" (cSp K) (spSpotInit K) []) (m_waiting : Met P w K mg base 2 (cSh K) "waiting" (spWaiting K T0) []) (m_show : Met P w K mg base 1 (cSh K) "show" (spShow K T0) [])
    (m_least : Met P w K mg base 2 (cSh K) "least" (spLeast K T0) []) (m_presses : Met P w K mg base 3 (cSh K) "presses" (spPresses K T0) []) : Met P w K mg base 4 (cSh K) "put" (spPut K T0) [] := by
  refine F.met T.cShelf scShelf_put (fun vs H Q E h => ?_) (fun f cdv A outer s H vs Q E hr h => ?_)
  · obtain ⟨_, _, _, _, _, _, _, _, _, rfl, _⟩ := h
    rfl
  obtain ⟨c, x, dx, l, ad, st, place, count, shown, rfl, S, hre, hpl, hlen, k⟩ := h
  have nd := scShelf_put.nd
  have hu := hu_of hr
  have eSV : ∀ v4 v5 : Option V, True := fun _ _ => trivial
  -- the presses
  obtain ⟨tR2, R2, hR2⟩ : ∃ tR, PSs (cxOf CX0 P w K mg base ["self", "place", "count", "shown", "spot", "found"] "Shelf.put" (defScope sShelf_put) f cdv A outer s H E).nox ((defBody sShelf_put).drop 2) tR ∧ ∀ (σ' : L2.St) (H1 : Hp), (∃ (v4 v5 : Option V) (sp2 : List Spt) (ad' : Int → Addr), σ' = [some (.ref x), some (.int place), some (.int count), some (.bl shown), v4, v5] ∧ Sh K T0 c x dx l ad' { st with spots := sp2 } H1 ∧ Stp x l ad st.spots H l ad' sp2 H1 ∧
      sp2.length = st.spots.length + 1 ∧ pressAll c (waiting sp2).length sp2 = putF' c st.spots place count shown) → tR { nx := fun _ H' => Q .non H', rt := Q } σ' H1 := by
    refine ⟨_, (pss_cons (ps_set (i := 5) nd rfl (Or.inl rfl) (pe_lst pa_nil))
  (pss_cons (ps_while PassesOwn.never (pt_val (pe_mt0 m_presses hr (by first | decide | omega) (pv 0))) (pss_one (ps_expr (pe_bm PySem.F.plainAttrs_list PySem.F.slot_list_append PySem.F.type_list_append mt_append (pv 5) (pa_cons (pe_mt m_show hr (by first | decide | omega) (pv 0) (pa_cons (pe_mt m_least hr (by first | decide | omega) (pv 0) (pa_cons (pe_mt0 m_waiting hr (by first | decide | omega) (pv 0)) pa_nil)) pa_nil)) pa_nil)))))
  (pss_one (ps_ret (pv 5))))), ?_⟩
    rintro σ' H1 ⟨v4, v5, sp2, ad', rfl, S1, s1, e1, eP⟩
    refine ⟨Nat.zero_le _, fun q hq => ?_⟩
    have S0 := S1.new (o := .lst []) hq
    have nql : q ≠ l := (ne_of_none S1.lst hq).symm
    have gq := s1.gone hq
    refine ⟨fun n σ H' => σ = [some (.ref x), some (.int place), some (.int count), some (.bl shown), v4, some (.ref q)] ∧ ∃ (sp : List Spt) (acc : List Int), Sh K T0 c x dx l ad' { st with spots := sp } H' ∧ Stp x l ad st.spots H l ad' sp H' ∧ H' q = some (.lst (acc.map V.int)) ∧ (waiting sp).length ≤ n ∧ acc.length + (waiting sp).length ≤ st.spots.length + 1 ∧
      acc ++ (pressAll c n sp).1 = (putF' c st.spots place count shown).1 ∧ (pressAll c n sp).2 = (putF' c st.spots place count shown).2, ⟨(waiting sp2).length, rfl, sp2, [], S0, s1.trans (ExtN.stp (ext_new hq)), upd_same, Nat.le_refl _, by
        rw [← e1]
        show 0 + _ ≤ _
        rw [Nat.zero_add]
        exact List.length_filter_le .., by rw [eP]; rfl, by rw [eP]⟩, ?_⟩
    rintro n σ H2 ⟨rfl, sp, acc, S2, s2, h2, hn, hL, f1, f2⟩
    refine ⟨_, rfl, x, dx, _, rfl, S2.obj, rfl, c, x, dx, l, ad', _, rfl, S2, fun H3 x3 => ⟨_, rfl, ?_⟩⟩
    have xn3 := LamX.ExtN.of x3
    have S3 := S2.ext xn3 (S2.tabs.ext x3)
    have s3 := s2.trans (ExtN.stp (sp := sp) xn3)
    have h3 := x3 _ _ h2
    refine ite2 (fun hc => ?_) (fun hc => ?_)
    · have hne := press_wait hre hc
      obtain ⟨t, ht⟩ := best_some (mx := false) hne
      have htw := best_mem ht
      have hpos : 0 < (waiting sp).length := List.length_pos_iff.mpr hne
      obtain ⟨m, rfl⟩ : ∃ m, n = m + 1 := ⟨n - 1, by omega⟩
      refine ⟨_, fun _ _ z => z, ?_⟩
      refine ⟨_, rfl, .inl ⟨rfl, _, SqL.of h3⟩, _, rfl, x, dx, _, rfl, S3.obj, rfl, _, rfl, x, dx, _, rfl, S3.obj, rfl, _, rfl, x, dx, _, rfl, S3.obj, rfl, c, x, dx, l, ad', _, rfl, S3, fun D2 hD2 => ?_⟩
      have S4 := S3.new (o := .lst (rf ad' (waiting sp))) hD2
      have s4 := s3.trans (ExtN.stp (sp := sp) (ext_new (o := .lst (rf ad' (waiting sp))) hD2))
      refine ⟨_, D2, ad', waiting sp, t, rfl, upd_same, S4.spo.sub List.filter_sublist, ht, S4.tabs, fun H5 x5 t5 => ?_⟩
      have S5 := S4.ext x5 t5
      have s5 := s4.trans (ExtN.stp (sp := sp) x5)
      refine ⟨c, x, dx, l, ad', _, t, rfl, S5, wait_mem htw, fun H6 S6 s6' => ?_⟩
      have s6 := s5.trans s6'
      have h5 : H5 q = some (.lst (acc.map V.int)) := x5 _ _ (upd_keep h3 hD2) fun ps z => by cases z
      have h6 := (s6'.out h5 (S5.notOw h5 (by intro _ _ _ z; cases z) nql (by intro _ z; cases z))).1
      have lt : (waiting (showS t sp)).length < (waiting sp).length := wait_lt htw
      rw [pressAll_yes hc ht] at f1 f2
      refine ⟨q, _, _, rfl, rfl, h6, ?_, m, Nat.lt_succ_self _, rfl, showS t sp, acc ++ [t.p], S6.off h6 nql, s6.loc gq h6, ?_, by omega, ?_, ?_, f2⟩
      · rw [vi_len]
        exact Nat.lt_of_le_of_lt (by omega) hlen
      · rw [upd_same, List.map_append]
        rfl
      · rw [List.length_append]
        show acc.length + 1 + _ ≤ _
        omega
      · rw [List.append_assoc]
        exact f1
    · have hc' : presses c sp = false := by simpa using hc
      rw [pressAll_no hc'] at f1 f2
      rw [List.append_nil] at f1
      refine ⟨_, rfl, ?_⟩
      exact k _ q ad' (by rw [← f2]; exact S3) (by rw [← f2]; exact s3) nql (by rw [← f1]; exact h3) (by rw [← f1]; omega)
  -- the new spot
  obtain ⟨tR, R, hR⟩ : ∃ tR, PSs (cxOf CX0 P w K mg base ["self", "place", "count", "shown", "spot", "found"] "Shelf.put" (defScope sShelf_put) f cdv A outer s H E).nox ((defBody sShelf_put).drop 1) tR ∧ ∀ (σ' : L2.St) (H1 : Hp), (∃ (v4 v5 : Option V) (sp1 : List Spt), σ' = [some (.ref x), some (.int place), some (.int count), some (.bl shown), v4, v5] ∧ Sh K T0 c x dx l ad { st with spots := sp1 } H1 ∧ Stp x l ad st.spots H l ad sp1 H1 ∧
      sp1.map (·.p) = st.spots.map (·.p) ∧ pressAll c (waiting (sp1 ++ [⟨count, place, "short", if shown then some 0 else none⟩])).length (sp1 ++ [⟨count, place, "short", if shown then some 0 else none⟩]) = putF' c st.spots place count shown) → tR { nx := fun _ H' => Q .non H', rt := Q } σ' H1 := by
    refine ⟨_, pss_cons (ps_expr (pe_bm PySem.F.plainAttrs_list PySem.F.slot_list_append PySem.F.type_list_append mt_append (pe_fld (pv 0) rfl) (pa_cons (pe_mk c_Spot hr (by first | decide | omega) (by rfl) (pa_cons (pv 2) (pa_cons (pv 1) (pa_cons (pe_gs T.g_SHORT (by rfl)) (pa_cons (pe_ifExp (pt_val (pv 3)) pe_int pe_non) pa_nil))))) pa_nil))) R2, ?_⟩
    rintro σ' H1 ⟨v4, v5, sp1, rfl, S1, s1, e1, eP⟩
    have len1 : sp1.length = st.spots.length := by
      have := congrArg List.length e1
      rwa [List.length_map, List.length_map] at this
    have hpl1 : ∀ t ∈ sp1, t.p ≠ place := fun t ht => by
      have hm : t.p ∈ sp1.map (·.p) := List.mem_map.mpr ⟨t, ht, rfl⟩
      rw [e1] at hm
      obtain ⟨u, hu, e⟩ := List.mem_map.mp hm
      rw [← e]
      exact hpl u hu
    have nw : ∀ (wt : Option Int) (y dy : Addr), H1 y = none → H1 dy = none → dy ≠ y → Sh K T0 c x dx l (fun p => if p = place then y else ad p) { st with spots := sp1 ++ [⟨count, place, "short", wt⟩] } (upd (upd (upd (upd H1 dy (.own y)) y (.ins (cSp K) dy [])) y (.ins (cSp K) dy (sfs count place "short" (wv wt)))) l (.lst (rf ad sp1 ++ [.ref y]))) ∧
        Stp x l ad st.spots H l (fun p => if p = place then y else ad p) (sp1 ++ [⟨count, place, "short", wt⟩]) (upd (upd (upd (upd H1 dy (.own y)) y (.ins (cSp K) dy [])) y (.ins (cSp K) dy (sfs count place "short" (wv wt)))) l (.lst (rf ad sp1 ++ [.ref y]))) ∧
        (upd (upd (upd H1 dy (.own y)) y (.ins (cSp K) dy [])) y (.ins (cSp K) dy (sfs count place "short" (wv wt)))) l = some (.lst (rf ad sp1)) := by
      intro wt y dy hy hdy hne
      rw [upd2]
      have keep : ∀ b o, H1 b = some o → upd (upd H1 dy (.own y)) y (.ins (cSp K) dy (sfs count place "short" (wv wt))) b = some o := fun b o h => by
        rw [upd_ne (ne_of_none h hy), upd_ne (ne_of_none h hdy)]
        exact h
      have L2' := keep _ _ S1.lst
      have nyl : y ≠ l := (ne_of_none S1.lst hy).symm
      have adp : ∀ t ∈ sp1, (if t.p = place then y else ad t.p) = ad t.p := fun t ht => if_neg (hpl1 t ht)
      have eR : rf ad sp1 ++ [V.ref y] = rf (fun p => if p = place then y else ad p) (sp1 ++ [⟨count, place, "short", wt⟩]) := by
        unfold rf
        rw [List.map_append]
        refine congr (congrArg _ (List.map_congr_left fun t ht => ?_)) ?_
        · show V.ref (ad t.p) = V.ref (if t.p = place then y else ad t.p)
          rw [adp t ht]
        · show [V.ref y] = [V.ref (if place = place then y else ad place)]
          rw [if_pos rfl]
      have ady : ∀ t ∈ sp1, ad t.p ≠ y := fun t ht => by
        obtain ⟨d, e⟩ := S1.spo.at_ t ht
        exact ne_of_none e hy
      refine ⟨⟨upd_off (keep _ _ S1.obj) L2' (by intro z; cases z), by rw [upd_same]; exact congrArg (fun z => some (HO.lst z)) eR, ⟨fun t ht => ?_, fun t ht u hu e => ?_, ?_⟩, Tabs.put (S1.tabs.ext keep) L2' (by intro ps z; cases z) (by intro f z; cases z), ?_⟩, ⟨(?_ : Fr _ _ _), fun b z => ?_⟩, L2'⟩
      · rcases List.mem_append.mp ht with ht | ht
        · obtain ⟨d, e⟩ := S1.spo.at_ t ht
          exact ⟨d, by rw [adp t ht]; exact upd_off (keep _ _ e) L2' (by intro z; cases z)⟩
        · rw [List.mem_singleton.mp ht]
          exact ⟨dy, by rw [if_pos rfl, upd_ne nyl]; exact upd_same⟩
      · have e : (if t.p = place then y else ad t.p) = (if u.p = place then y else ad u.p) := e
        rcases List.mem_append.mp ht with ht | ht
        · rw [adp t ht] at e
          rcases List.mem_append.mp hu with hu | hu
          · rw [adp u hu] at e
            exact S1.spo.inj t ht u hu e
          · rw [List.mem_singleton.mp hu] at e
            rw [if_pos rfl] at e
            exact absurd e (ady t ht)
        · rw [List.mem_singleton.mp ht] at e ⊢
          rw [if_pos rfl] at e
          rcases List.mem_append.mp hu with hu | hu
          · rw [adp u hu] at e
            exact absurd e.symm (ady u hu)
          · rw [List.mem_singleton.mp hu]
      · rw [List.map_append]
        refine List.nodup_append.mpr ⟨S1.spo.nd, by simp, fun a ha b hb => ?_⟩
        obtain ⟨t, ht, e⟩ := List.mem_map.mp ha
        obtain rfl : b = place := by simpa using hb
        rw [← e]
        exact hpl1 t ht
      · show (sp1 ++ [_]).length < sizeLine
        rw [List.length_append, len1]
        exact hlen
      · refine Fr.put (fun b o h kk => keep b o (s1.fr b o h kk)) L2' rfl (s1.ow l (.inr (.inl rfl)))
      · rcases z with z | z | ⟨t, ht, z⟩ | ⟨ps, z⟩
        · exact .inl (.inl z)
        · exact .inl (.inr (.inl z))
        · rcases List.mem_append.mp ht with ht | ht
          · exact s1.ow b (.inr (.inr (.inl ⟨t, ht, z.trans (adp t ht)⟩)))
          · rw [List.mem_singleton.mp ht] at z
            rw [show b = y from z.trans (if_pos rfl)]
            exact s1.gone hy
        · have nl : b ≠ l := fun q => by rw [q, upd_same] at z; cases z
          rw [upd_ne nl] at z
          have ny : b ≠ y := fun q => by rw [q, upd_same] at z; cases z
          rw [upd_ne ny] at z
          have nd' : b ≠ dy := fun q => by rw [q, upd_same] at z; cases z
          rw [upd_ne nd'] at z
          exact s1.ow b (.inr (.inr (.inr ⟨ps, z⟩)))
    have lenl : (rf ad sp1).length < sizeLine := by
      rw [show (rf ad sp1).length = sp1.length from List.length_map .., len1]
      omega
    cases shown with
    | true =>
      refine ⟨_, rfl, x, _, dx, _, _, rfl, S1.obj, T.cShelf, T.aShelf_spots, rfl, .inl ⟨rfl, _, SqL.of S1.lst⟩, _, rfl, _, rfl, _, rfl, true, rfl, fun y dy hy hdy hne => ?_⟩
      obtain ⟨n1, n2, n3⟩ := nw (some 0) y dy hy hdy hne
      exact ⟨y, dy, count, place, "short", .int 0, rfl, upd_same, rfl, l, _, _, rfl, rfl, n3, lenl, hR2 _ _ ⟨v4, v5, _, _, rfl, n1, n2, by rw [List.length_append, len1]; rfl, eP⟩⟩
    | false =>
      refine ⟨_, rfl, x, _, dx, _, _, rfl, S1.obj, T.cShelf, T.aShelf_spots, rfl, .inl ⟨rfl, _, SqL.of S1.lst⟩, _, rfl, _, rfl, _, rfl, false, rfl, fun y dy hy hdy hne => ?_⟩
      obtain ⟨n1, n2, n3⟩ := nw none y dy hy hdy hne
      exact ⟨y, dy, count, place, "short", .non, rfl, upd_same, rfl, l, _, _, rfl, rfl, n3, lenl, hR2 _ _ ⟨v4, v5, _, _, rfl, n1, n2, by rw [List.length_append, len1]; rfl, eP⟩⟩
  -- the bumps
  refine ⟨_, pss_cons (ps_if (pt_val (pv 3)) (pss_one (ps_for PassesOwn.never rfl (pi_list (pe_mt0 m_waiting hr (by first | decide | omega) (pv 0))) (pg_name (i := 4) nd rfl (by first | exact .inl rfl | exact .inr rfl)) (pss_one (ps_if (pt_cmpR op_gt (pe_fld (pv 4) rfl) (pv 2) (nomark _)) (pss_one (ps_fld (pv 4) (pe_op op_add (pe_fld (pv 4) rfl) pe_int) rfl)) pss_nil)))) pss_nil) R, ?_⟩
  refine ⟨_, rfl, shown, rfl, ?_⟩
  cases shown with
  | false => exact hR _ _ ⟨none, none, st.spots, rfl, S, Stp.refl, rfl, rfl⟩
  | true =>
    refine ⟨_, rfl, x, dx, _, rfl, S.obj, rfl, c, x, dx, l, ad, st, rfl, S, fun D hD => ⟨D, rfl, ⟨_, SqL.of upd_same⟩, ?_⟩⟩
    have S1 := S.new (o := .lst (rf ad (waiting st.spots))) hD
    have nDl : D ≠ l := (ne_of_none S.lst hD).symm
    have hwm : ∀ {t}, t ∈ waiting st.spots → t ∈ st.spots := fun h => wait_mem h
    have ndw : ((waiting st.spots).map (·.p)).Nodup := S.spo.nd.sublist (List.filter_sublist.map _)
    refine for_list (K := K) (a := D) (xs := rf ad (waiting st.spots)) (fun i σ H' => ∃ v, σ = [some (.ref x), some (.int place), some (.int count), some (.bl true), v, none] ∧ Sh K T0 c x dx l ad { st with spots := bumped count (((waiting st.spots).take i).map (·.p)) st.spots } H' ∧
      Stp x l ad st.spots H l ad (bumped count (((waiting st.spots).take i).map (·.p)) st.spots) H' ∧ H' D = some (.lst (rf ad (waiting st.spots)))) ⟨none, rfl, by rw [List.take_zero, List.map_nil, bumped_nil]; exact S1, by rw [List.take_zero, List.map_nil, bumped_nil]; exact ExtN.stp (ext_new hD), upd_same⟩
      (fun i σ H' _ ⟨_, _, _, _, h⟩ => SqL.of h) ?_ ?_
    · rintro i y σ H' hy ⟨v, rfl, S2, s2, h2⟩
      obtain ⟨u, hu', rfl⟩ := rf_get hy
      have huw := mem_at hu'
      have hus := hwm huw
      have et : (waiting st.spots).take (i + 1) = (waiting st.spots).take i ++ [u] := by
        rw [List.take_add_one, hu']
        rfl
      have hn : u.p ∉ ((waiting st.spots).take i).map (·.p) := fun hm => by
        have ht := List.take_append_drop (i + 1) (waiting st.spots)
        rw [et] at ht
        rw [← ht, List.map_append, List.map_append] at ndw
        have := (List.nodup_append.mp (List.nodup_append.mp ndw).1).2.2 _ hm u.p (by simp)
        exact this rfl
      have hub := bumped_mem (count := count) hus hn
      obtain ⟨j, ej⟩ := Option.isSome_iff_exists.mp (List.mem_filter.mp huw).2
      obtain ⟨dt, h3⟩ := S2.spo.at_ u hub
      rw [show (bumped count (((waiting st.spots).take (i + 1)).map (·.p)) st.spots) = bumped count (((waiting st.spots).take i).map (·.p) ++ [u.p]) st.spots by rw [et, List.map_append]; rfl]
      refine ⟨_, rfl, _, _, dt, _, _, rfl, h3, T.cSpot, T.aSpot_count, rfl, _, rfl, _, _, rfl, rfl, _, rfl, ?_⟩
      refine ite2 (fun hc => ?_) (fun hc => ?_)
      · have hc' : u.c > count := of_decide_eq_true hc
        refine ⟨_, rfl, _, _, dt, _, _, rfl, h3, T.cSpot, T.aSpot_waited, rfl, j, 1, by rw [ej]; rfl, rfl, _, rfl, _, _, dt, _, rfl, h3, T.cSpot, T.aSpot_waited, len5 (by show 4 ≤ 20; decide), ?_⟩
        have eb : (sfs u.c u.p u.m (.int (j + 1))) = fs (bmp u) := by
          unfold bmp
          rw [ej]
          rfl
        rw [sput_w, eb]
        have S3 := S2.spot hub h3 bmp_p
        have s3 := s2.spo (sp' := chg u.p bmp (bumped count (((waiting st.spots).take i).map (·.p)) st.spots)) (C' := cSp K) (d' := dt) (f' := fs (bmp u)) hub h3 (chg_ps bmp_p _)
        have es : chg u.p bmp (bumped count (((waiting st.spots).take i).map (·.p)) st.spots) = _ := bumped_step S.spo.nd hus hn hc'
        refine ⟨_, rfl, ?_, ?_, upd_off h2 h3 (by intro z; cases z)⟩
        · rw [← es]
          exact S3
        · rw [← es]
          exact s3
      · have hc' : ¬ u.c > count := fun z => hc (decide_eq_true z)
        refine ⟨_, rfl, ?_, ?_, h2⟩
        · rw [← bumped_skip S.spo.nd hus hc']
          exact S2
        · rw [← bumped_skip S.spo.nd hus hc']
          exact s2
    · rintro σ H' ⟨v, rfl, S2, s2, h2⟩
      have el : (rf ad (waiting st.spots)).length = (waiting st.spots).length := List.length_map ..
      rw [el, List.take_length] at S2 s2
      refine hR _ _ ⟨v, none, _, rfl, S2, s2, bumped_ps _ _ _, ?_⟩
      rw [bumped_all]
      rfl
end

end L2.K13
set_option Elab.async false
set_option linter.all false
set_option maxRecDepth 100000
set_option maxHeartbeats 4000000
set_option pp.maxSteps 150
namespace L2.K13
open PySem PySem.Spec PyProof.Rows L2
open C8 (Cal Met Mak pe_c pe_mt pe_mt0 pe_mk)
local macro_rules | `(tactic| walk_at "hp") => `(tactic| first | assumption | exact upd_same | (refine upd_keep ?_ (by assumption); walk_at "hp") | (refine upd_off ?_ (by assumption) (by intro z; cases z); walk_at "hp"))
local macro_rules | `(tactic| walk_at "seq") => `(tactic| first | assumption | exact SqT.of (by walk_at "hp") | exact SqL.of (by walk_at "hp"))
section
theorem fm_filter2 {ad : Int → Addr} (q : Spt → Bool) (sp : List Spt) : sp.filterMap (fun t => if q t then some (V.ref (ad t.p)) else none) = rf ad (sp.filter q) := by
  unfold rf
  rw [← List.filterMap_eq_map, List.filterMap_filter]
  rfl
/-- the shelf's list is cut down -/
theorem Sh.cut {K : PySem.W.Frag} {T : List (Addr × Str)} {c : Cfg} {x dx l : Addr} {ad : Int → Addr} {st : Stt} {H : Hp} {sp' : List Spt} (s : Sh K T c x dx l ad st H) (h : sp'.Sublist st.spots) : Sh K T c x dx l ad { st with spots := sp' } (upd H l (.lst (rf ad sp'))) := by
  refine ⟨upd_off s.obj s.lst (by intro z; cases z), upd_same, ⟨fun t ht => ?_, (s.spo.sub h).inj, (s.spo.sub h).nd⟩, Tabs.put s.tabs s.lst (by intro ps z; cases z) (by intro f z; cases z), Nat.lt_of_le_of_lt h.length_le s.len⟩
  obtain ⟨d, e⟩ := s.spo.at_ t (h.subset ht)
  exact ⟨d, upd_off e s.lst (by intro z; cases z)⟩
theorem Stp.cut {x l0 l : Addr} {ad0 ad : Int → Addr} {sp0 sp sp' : List Spt} {H0 H : Hp} {xs ys : List V} (s : Stp x l0 ad0 sp0 H0 l ad sp H) (hl : H l = some (.lst xs)) (h : sp'.Sublist sp) : Stp x l0 ad0 sp0 H0 l ad sp' (upd H l (.lst ys)) := by
  refine ⟨s.fr.put hl rfl (s.ow _ (.inr (.inl rfl))), fun b z => s.ow b ?_⟩
  rcases z with z | z | ⟨u, hu, z⟩ | ⟨ps, z⟩
  · exact .inl z
  · exact .inr (.inl z)
  · exact .inr (.inr (.inl ⟨u, h.subset hu, z⟩))
  · refine .inr (.inr (.inr ⟨ps, ?_⟩))
    rwa [upd_ne fun y => by rw [y, upd_same] at z; cases z] at z
theorem makeRoom_no {c : Cfg} {n : Nat} {sp : List Spt} (h : (presses c sp || decide (((sp.length : Nat) : Int) ≥ c.size)) = false) : makeRoom c n sp = ([], sp) := by
  cases n with
  | zero => rfl
  | succ n =>
    unfold makeRoom
    rw [if_neg (by rw [h]; decide)]
theorem makeRoom_show {c : Cfg} {n : Nat} {sp : List Spt} {t : Spt} (h : (presses c sp || decide (((sp.length : Nat) : Int) ≥ c.size)) = true) (ht : best false (waiting sp) = some t) : makeRoom c (n + 1) sp = (t.p :: (makeRoom c n (showS t sp)).1, (makeRoom c n (showS t sp)).2) := by
  show (if (presses c sp || decide (((sp.length : Nat) : Int) ≥ c.size)) then _ else _) = _
  rw [if_pos h, ht]
theorem makeRoom_drop {c : Cfg} {n : Nat} {sp : List Spt} {t : Spt} (h : (presses c sp || decide (((sp.length : Nat) : Int) ≥ c.size)) = true) (h0 : waiting sp = []) (ht : best false sp = some t) : makeRoom c (n + 1) sp = makeRoom c n (sp.filter fun u => decide (u.p ≠ t.p)) := by
  have e : best false (waiting sp) = none := by rw [h0]; rfl
  show (if (presses c sp || decide (((sp.length : Nat) : Int) ≥ c.size)) then _ else _) = _
  rw [if_pos h, e, ht]
end
section
variable {P : Program} {w : World} {K : PySem.W.Frag} {mg : Str → Option Value} {base : Heap}
def spMakeRoom (K : PySem.W.Frag) (T : List (Addr × Str)) : Sp := fun vs H Q _ => ∃ (c : Cfg) (x dx l : Addr) (ad : Int → Addr) (st : Stt), vs = [.ref x] ∧ Sh K T c x dx l ad st H ∧ 0 ≤ c.reorder ∧ 1 ≤ c.size ∧
  ∀ H' q l', Sh K T c x dx l' ad { st with spots := (roomF c st.spots).2 } H' → Stp x l ad st.spots H l' ad (roomF c st.spots).2 H' → q ≠ l' → H' q = some (.lst ((roomF c st.spots).1.map V.int)) → (roomF c st.spots).1.length ≤ st.spots.length → (roomF c st.spots).2.length ≤ st.spots.length → Q (.ref q) H'
theorem ok_make_room {T0 : List (Addr × Str)} (T : Fx K mg) (F : MF K (cSh K) "make_room" "Shelf.make_room" sShelf_make_room ["self"]) (m_waits : Met P w K mg base 1 (cSp K) "waits" (spWaits K) []) (m_waiting : Met P w K mg base 2 (cSh K) "waiting" (spWaiting K T0) []) (m_show : Met P w K mg base 1 (cSh K) "show" (spShow K T0) [])
    (m_least : Met P w K mg base 2 (cSh K) "least" (spLeast K T0) []) (m_presses : Met P w K mg base 3 (cSh K) "presses" (spPresses K T0) []) : Met P w K mg base 4 (cSh K) "make_room" (spMakeRoom K T0) [] := by
  refine F.met T.cShelf scShelf_make_room (fun vs H Q E h => ?_) (fun f cdv A outer s H vs Q E hr h => ?_)
  · obtain ⟨_, _, _, _, _, _, rfl, _⟩ := h
    rfl
  obtain ⟨c, x, dx, l, ad, st, rfl, S, hre, hsz, k⟩ := h
  have nd := scShelf_make_room.nd
  have hu := hu_of hr
  have hu64 := hu64_of hr
  let sp0 := st.spots.filter fun t => decide (t.m ≠ ("" : Str)) || t.w.isSome
  have sub0 : sp0.Sublist st.spots := List.filter_sublist
  -- the loop
  obtain ⟨tR, R, hR⟩ : ∃ tR, PSs (cxOf CX0 P w K mg base ["self", "found", "spot"] "Shelf.make_room" (defScope sShelf_make_room) f cdv A outer s H E).nox ((defBody sShelf_make_room).drop 1) tR ∧ ∀ (H1 : Hp) (l' : Addr), Sh K T0 c x dx l' ad { st with spots := sp0 } H1 → Stp x l ad st.spots H l' ad sp0 H1 →
      tR { nx := fun _ H' => Q .non H', rt := Q } [some (.ref x), none, none] H1 := by
    refine ⟨_, (pss_cons (ps_set (i := 1) nd rfl (Or.inl rfl) (pe_lst pa_nil))
  (pss_cons (ps_while PassesOwn.never (PW.pt (pw_or (pt_val (pe_mt0 m_presses hr (by first | decide | omega) (pv 0))) (pw_or1 (pt_cmpR op_ge (pe_callB call_len_seq (by rfl) T.n_len PySem.boot_len (pa_cons (pe_fld (pv 0) rfl) pa_nil)) (pe_fld (pv 0) rfl) (nomark _))))) (pss_one (ps_if (pt_cmpR op_gt (pe_callB call_len_seq (by rfl) T.n_len PySem.boot_len (pa_cons (pe_mt0 m_waiting hr (by first | decide | omega) (pv 0)) pa_nil)) pe_int (nomark _)) (pss_one (ps_expr (pe_bm PySem.F.plainAttrs_list PySem.F.slot_list_append PySem.F.type_list_append mt_append (pv 1) (pa_cons (pe_mt m_show hr (by first | decide | omega) (pv 0) (pa_cons (pe_mt m_least hr (by first | decide | omega) (pv 0) (pa_cons (pe_mt0 m_waiting hr (by first | decide | omega) (pv 0)) pa_nil)) pa_nil)) pa_nil)))) (pss_one (ps_expr (pe_bm PySem.F.plainAttrs_list PySem.F.slot_list_remove PySem.F.type_list_remove (mt_remR hu64) (pe_fld (pv 0) rfl) (pa_cons (pe_mt m_least hr (by first | decide | omega) (pv 0) (pa_cons (pe_fld (pv 0) rfl) pa_nil)) pa_nil)))))))
  (pss_one (ps_ret (pv 1))))), fun H1 l' S1 s1 => ?_⟩
    refine ⟨Nat.zero_le _, fun q hq => ?_⟩
    have S0 := S1.new (o := .lst []) hq
    have nql : q ≠ l' := (ne_of_none S1.lst hq).symm
    have gq := s1.gone hq
    have w0 : (waiting sp0).length ≤ st.spots.length := Nat.le_trans (List.length_filter_le ..) sub0.length_le
    refine ⟨fun n σ H' => σ = [some (.ref x), some (.ref q), none] ∧ ∃ (sp : List Spt) (acc : List Int), Sh K T0 c x dx l' ad { st with spots := sp } H' ∧ Stp x l ad st.spots H l' ad sp H' ∧ H' q = some (.lst (acc.map V.int)) ∧ sizeOf sp ≤ n ∧ acc.length + (waiting sp).length ≤ st.spots.length ∧ sp.length ≤ st.spots.length ∧
      acc ++ (makeRoom c n sp).1 = (roomF c st.spots).1 ∧ (makeRoom c n sp).2 = (roomF c st.spots).2, ⟨sizeOf sp0, rfl, sp0, [], S0, s1.trans (ExtN.stp (ext_new hq)), upd_same, Nat.le_refl _, by
        show 0 + _ ≤ _
        rw [Nat.zero_add]
        exact w0, sub0.length_le, rfl, rfl⟩, ?_⟩
    rintro n σ H2 ⟨rfl, sp, acc, S2, s2, h2, hn, hL, hL2, f1, f2⟩
    have lenr : (rf ad sp).length = sp.length := List.length_map ..
    have lenw : (rf ad (waiting sp)).length = (waiting sp).length := List.length_map ..
    refine tt_cut (fun b H3 => Same H2 H3 ∧ b = (presses c sp || decide (((sp.length : Nat) : Int) ≥ c.size))) ?_ fun key => ?_
    · rintro b H3 ⟨x3, eb⟩
      have xn3 := LamX.ExtN.of x3
      have S3 := S2.ext xn3 (S2.tabs.ext x3)
      have s3 := s2.trans (ExtN.stp (sp := sp) xn3)
      have h3 := x3 _ _ h2
      refine ite2 (fun hc => ?_) (fun hc => ?_)
      · rw [hc] at eb
        have hcond := eb.symm
        have hne : sp ≠ [] := fun z => by
          have hw : waiting sp = [] := by rw [z]; rfl
          rw [Bool.or_eq_true] at hcond
          rcases hcond with h | h
          · exact press_wait hre h hw
          · rw [z] at h
            have := of_decide_eq_true h
            have h0 : (0 : Int) ≥ c.size := this
            omega
        have hlp := List.length_pos_iff.mpr hne
        have hsz1 : sizeOf sp = (waiting sp).length + sp.length := rfl
        obtain ⟨m, rfl⟩ : ∃ m, n = m + 1 := ⟨n - 1, by omega⟩
        refine ⟨_, fun _ _ z => z, ?_⟩
        refine ⟨_, rfl, x, dx, _, rfl, S3.obj, rfl, c, x, dx, l', ad, _, rfl, S3, fun D hD => ?_⟩
        have S4 := S3.new (o := .lst (rf ad (waiting sp))) hD
        have s4 := s3.trans (ExtN.stp (sp := sp) (ext_new (o := .lst (rf ad (waiting sp))) hD))
        have h4 : upd H3 D (.lst (rf ad (waiting sp))) q = _ := upd_keep h3 hD
        refine ⟨D, _, rfl, .inl (SqL.of upd_same), _, _, rfl, rfl, _, rfl, ?_⟩
        rw [lenw]
        refine ite2 (fun hw => ?_) (fun hw => ?_)
        · have hwne : waiting sp ≠ [] := fun z => by rw [z] at hw; exact absurd hw (by decide)
          obtain ⟨t, ht⟩ := best_some (mx := false) hwne
          have htw := best_mem ht
          refine ⟨_, rfl, .inl ⟨rfl, _, SqL.of h4⟩, _, rfl, x, dx, _, rfl, S4.obj, rfl, _, rfl, x, dx, _, rfl, S4.obj, rfl, _, rfl, x, dx, _, rfl, S4.obj, rfl, c, x, dx, l', ad, _, rfl, S4, fun D2 hD2 => ?_⟩
          have S5 := S4.new (o := .lst (rf ad (waiting sp))) hD2
          have s5 := s4.trans (ExtN.stp (sp := sp) (ext_new (o := .lst (rf ad (waiting sp))) hD2))
          refine ⟨_, D2, ad, waiting sp, t, rfl, upd_same, S5.spo.sub List.filter_sublist, ht, S5.tabs, fun H6 x6 t6 => ?_⟩
          have S6 := S5.ext x6 t6
          have s6 := s5.trans (ExtN.stp (sp := sp) x6)
          refine ⟨c, x, dx, l', ad, _, t, rfl, S6, wait_mem htw, fun H7 S7 s7' => ?_⟩
          have s7 := s6.trans s7'
          have h6 : H6 q = some (.lst (acc.map V.int)) := x6 _ _ (upd_keep h4 hD2) fun ps z => by cases z
          have h7 := (s7'.out h6 (S6.notOw h6 (by intro _ _ _ z; cases z) nql (by intro _ z; cases z))).1
          have lt : (waiting (showS t sp)).length < (waiting sp).length := wait_lt htw
          have lt2 : (showS t sp).length ≤ sp.length := showS_len t sp
          rw [makeRoom_show hcond ht] at f1 f2
          refine ⟨q, _, _, rfl, rfl, h7, ?_, m, Nat.lt_succ_self _, rfl, showS t sp, acc ++ [t.p], S7.off h7 nql, s7.loc gq h7, ?_, ?_, ?_, by omega, ?_, f2⟩
          · rw [vi_len]
            exact Nat.lt_of_le_of_lt (by omega) S.len
          · rw [upd_same, List.map_append]
            rfl
          · show (waiting (showS t sp)).length + (showS t sp).length ≤ m
            omega
          · rw [List.length_append]
            show acc.length + 1 + _ ≤ _
            omega
          · rw [List.append_assoc]
            exact f1
        · have hwn : waiting sp = [] := by
            cases h : waiting sp with
            | nil => rfl
            | cons a r =>
              rw [h] at hw
              exact absurd (decide_eq_true (show (0 : Int) < (((a :: r).length : Nat) : Int) by rw [List.length_cons]; omega)) hw
          obtain ⟨t, ht⟩ := best_some (mx := false) hne
          have htm := best_mem ht
          have L4 : upd H3 D (.lst (rf ad (waiting sp))) l' = some (.lst (rf ad sp)) := S4.lst
          refine ⟨_, rfl, x, _, dx, _, _, rfl, S4.obj, T.cShelf, T.aShelf_spots, rfl, .inl ⟨rfl, _, SqL.of L4⟩, _, rfl, x, dx, _, rfl, S4.obj, rfl, _, rfl, x, _, dx, _, _, rfl, S4.obj, T.cShelf, T.aShelf_spots, rfl, _, l', ad, sp, t, rfl, L4, S4.spo, ht, S4.tabs, fun H6 x6 t6 => ?_⟩
          have S6 := S4.ext x6 t6
          have s6 := s4.trans (ExtN.stp (sp := sp) x6)
          have h6 : H6 q = some (.lst (acc.map V.int)) := x6 _ _ h4 fun ps z => by cases z
          obtain ⟨dt, hdt⟩ := S6.spo.at_ t htm
          have hni : ∀ z ∈ rf ad sp, NI (cSp K) H6 z := fun z hz => by
            obtain ⟨u, hu, rfl⟩ := List.mem_map.mp hz
            obtain ⟨d, e⟩ := S6.spo.at_ u hu
            exact .inr ⟨_, d, _, rfl, e⟩
          refine ⟨cSp K, l', ad t.p, dt, _, _, rfl, rfl, S6.lst, hdt, hni, T.eqS, List.mem_map.mpr ⟨t, htm, rfl⟩, ?_⟩
          rw [show rf ad ({ st with spots := sp } : Stt).spots = rf ad sp from rfl, rf_erase (fun u hu e => S6.spo.inj u hu t htm e) S6.spo.nd]
          have sub : (sp.filter fun u => decide (u.p ≠ t.p)).Sublist sp := List.filter_sublist
          have lt : (sp.filter fun u => decide (u.p ≠ t.p)).length < sp.length := filter_lt htm (by simp)
          have wn : waiting (sp.filter fun u => decide (u.p ≠ t.p)) = [] := by
            refine List.eq_nil_iff_forall_not_mem.mpr fun u hu => ?_
            have h1 := List.mem_filter.mp hu
            have h2 : u ∈ waiting sp := List.mem_filter.mpr ⟨(List.mem_filter.mp h1.1).1, h1.2⟩
            rw [hwn] at h2
            cases h2
          rw [makeRoom_drop hcond hwn ht] at f1 f2
          refine ⟨m, Nat.lt_succ_self _, rfl, (sp.filter fun u => decide (u.p ≠ t.p)), acc, S6.cut sub, s6.cut S6.lst sub, ?_, ?_, ?_, by omega, f1, f2⟩
          · rw [upd_ne nql]
            exact h6
          · show (waiting _).length + _ ≤ m
            rw [wn]
            show 0 + _ ≤ m
            omega
          · rw [wn]
            show acc.length + 0 ≤ _
            omega
      · have hc' : b = false := by simpa using hc
        rw [hc'] at eb
        rw [makeRoom_no eb.symm] at f1 f2
        rw [List.append_nil] at f1
        refine ⟨_, rfl, ?_⟩
        exact k _ q l' (by rw [← f2]; exact S3) (by rw [← f2]; exact s3) nql (by rw [← f1]; exact h3) (by rw [← f1]; omega) (by rw [← f2]; exact hL2)
    · refine ⟨_, rfl, x, dx, _, rfl, S2.obj, rfl, c, x, dx, l', ad, _, rfl, S2, fun H3 x3 => ⟨_, rfl, ?_⟩⟩
      have S3 := S2.ext (LamX.ExtN.of x3) (S2.tabs.ext x3)
      refine ite2 (fun hc => ?_) (fun hc => ?_)
      · refine key _ _ ⟨x3, ?_⟩
        rw [show presses c sp = true from hc]
        rfl
      · refine ⟨_, rfl, x, _, dx, _, _, rfl, S3.obj, T.cShelf, T.aShelf_spots, rfl, l', _, rfl, .inl (SqL.of S3.lst), _, rfl, x, _, dx, _, _, rfl, S3.obj, T.cShelf, T.aShelf_size, rfl, _, _, rfl, rfl, _, rfl, ?_⟩
        refine key _ _ ⟨x3, ?_⟩
        rw [show presses c sp = false by simpa using hc, Bool.false_or]
        show decide (c.size ≤ (((rf ad sp).length : Nat) : Int)) = _
        rw [lenr]
  refine ⟨_, pss_cons (ps_fld (pv 0) (pe_lc (own := [("spot", 2)]) (g := (gName 2)) (tt := (tOr (tTest (tOp _ (tFld K (tVar 2) "mark") (tC (.str "")))) (tB (tMeth _ "waits" _ _ E0 (tVar 2) tNil)))) (te := (tVar 2)) rfl nd (pi_list (pe_fld (pv 0) rfl)) (blkOk_by (N := ["self", "found", "spot"]) (sc := defScope sShelf_make_room) (by decide +kernel)) (fun _ _ _ _ _ => (pg_name (i := 2) nd rfl (by first | exact .inl rfl | exact .inr rfl))) (fun _ _ _ _ _ => (pts_one (PW.pt (pw_or (pt_cmpR op_ne (pe_fld (pv 2) rfl) (pe_gs T.g_BARE (by rfl)) (nomark _)) (pw_or1 (pt_val (pe_mt0 m_waits hr (by first | decide | omega) (pv 2)))))))) (fun _ _ _ _ _ => (pv 2))) rfl) R, ?_⟩
  refine ⟨_, rfl, x, _, dx, _, _, rfl, S.obj, T.cShelf, T.aShelf_spots, rfl, l, rfl, ⟨_, SqL.of S.lst⟩, fun D hD => ?_⟩
  refine lc_fm (F := fun t => if (decide (t.m ≠ ("" : Str)) || t.w.isSome) then some (V.ref (ad t.p)) else none) hD S.lst S.len (fun i t acc R ht h1 h2 hz => ?_) ?_
  · obtain ⟨dt, h3⟩ := S.spo.at_ t (mem_at ht)
    have h3' : upd H D (.lst acc) (ad t.p) = some (.ins (cSp K) dt (fs t)) := upd_keep h3 hD
    refine ⟨rfl, ?_⟩
    refine tt_cut (fun b H3 => H3 = upd H D (.lst acc) ∧ b = (decide (t.m ≠ ("" : Str)) || t.w.isSome)) ?_ fun key => ?_
    · rintro b H3 ⟨rfl, eb⟩
      refine ite2 (fun hb => ?_) (fun hb => ?_)
      · refine ⟨_, rfl, acc, upd_same, hz, ?_⟩
        rw [upd2]
        exact h1 _ (by rw [← eb, hb]; rfl)
      · exact h2 (by rw [← eb, if_neg hb])
    · refine ⟨_, rfl, _, _, dt, _, _, rfl, h3', T.cSpot, T.aSpot_mark, rfl, rfl, _, rfl, ?_⟩
      by_cases hm : t.m = ("" : Str)
      · rw [show (!decide (V.str t.m = V.str ("" : Str))) = false by rw [hm]; decide]
        refine ⟨_, rfl, _, dt, _, rfl, h3', rfl, _, dt, t.c, t.p, t.m, wv t.w, rfl, h3', _, rfl, key _ _ ⟨rfl, ?_⟩⟩
        rw [hm]
        cases t.w <;> rfl
      · rw [show (!decide (V.str t.m = V.str ("" : Str))) = true by rw [decide_eq_false fun z => hm (V.str.inj z)]; rfl]
        refine key true _ ⟨rfl, ?_⟩
        rw [decide_eq_true hm]
        rfl
  · rw [fm_filter2]
    have S1 := S.new (o := .lst (rf ad sp0)) hD
    have s1 : Stp x l ad st.spots H l ad st.spots (upd H D (.lst (rf ad sp0))) := ExtN.stp (ext_new hD)
    refine ⟨_, rfl, x, _, dx, _, rfl, S1.obj, T.cShelf, T.aShelf_spots, len5 (by show 9 ≤ 20; decide), ?_⟩
    rw [hput_spots c l D _ sp0]
    exact hR _ D (S1.setl (st' := { st with spots := sp0 }) upd_same (S1.spo.sub sub0) (Nat.lt_of_le_of_lt sub0.length_le S.len)) (s1.setl S1.obj (.inr (.inr hD)) fun t ht => .inl ⟨t, sub0.subset ht, rfl⟩)
end

end L2.K13
set_option Elab.async false
set_option linter.all false
set_option maxRecDepth 100000
set_option maxHeartbeats 4000000
set_option pp.maxSteps 150
namespace L2.K13
open PySem PySem.Spec PyProof.Rows L2
open C8 (Cal Met Mak pe_c pe_mt pe_mt0 pe_mk)
local macro_rules | `(tactic| walk_at "hp") => `(tactic| first | assumption | exact upd_same | (refine upd_keep ?_ (by assumption); walk_at "hp") | (refine upd_off ?_ (by assumption) (by intro z; cases z); walk_at "hp"))
local macro_rules | `(tactic| walk_at "seq") => `(tactic| first | assumption | exact SqT.of (by walk_at "hp") | exact SqL.of (by walk_at "hp"))
section
def ov (ad : Int → Addr) : Option Spt → V
  | none => .non
  | some t => .ref (ad t.p)
theorem SqT.fr {K : PySem.W.Frag} {S : Addr → Prop} {H H' : Hp} {a : Addr} {xs : List V} (h : SqT K H a xs) (f : Fr S H H') : SqT K H' a xs := by
  rcases h with (h | ⟨o, h⟩) | h
  · exact .inl (.inl (f a _ h (.inl rfl)))
  · exact .inl (.inr ⟨o, f a _ h (.inl rfl)⟩)
  · exact .inr h
theorem SqT.extN {K : PySem.W.Frag} {H H' : Hp} {a : Addr} {xs : List V} (h : SqT K H a xs) (f : LamX.ExtN H H') : SqT K H' a xs := by
  rcases h with (h | ⟨o, h⟩) | h
  · exact .inl (.inl (f a _ h fun _ z => by cases z))
  · exact .inl (.inr ⟨o, f a _ h fun _ z => by cases z⟩)
  · exact .inr h
theorem rf_len {ad : Int → Addr} {sp : List Spt} : (rf ad sp).length = sp.length := List.length_map ..
theorem pos_ne {α : Type} {l : List α} (h : decide ((0 : Int) < ((l.length : Nat) : Int)) = true) : l ≠ [] := fun z => by
  rw [z] at h
  simp at h
theorem npos_eq {α : Type} {l : List α} (h : ¬ decide ((0 : Int) < ((l.length : Nat) : Int)) = true) : l = [] := by
  cases l with
  | nil => rfl
  | cons a r => exact absurd (decide_eq_true (show (0 : Int) < (((a :: r).length : Nat) : Int) by rw [List.length_cons]; omega)) h
end
section
variable {P : Program} {w : World} {K : PySem.W.Frag} {mg : Str → Option Value} {base : Heap}
def qLong : Str := (envOfC "Shelf.long_named" (defScope sShelf_long_named) 0 0 .none).qual ++ "<lambda>"
def spLong (K : PySem.W.Frag) (T : List (Addr × Str)) : Sp := fun vs H Q _ => ∃ (c : Cfg) (x dx l : Addr) (ad : Int → Addr) (st : Stt) (p : Addr) (n : Int × Int × Bool) (count : Int), vs = [.ref x, .ref p, .int count] ∧ Sh K T c x dx l ad st H ∧ SqT K H p [.int n.1, .int n.2.1, .bl n.2.2] ∧ 0 < c.span ∧ c.span < 2 ^ 60 ∧
  ∀ H', LamX.ExtN H H' → LamX.Tabs T H' → Q (ov ad (longN c st.spots count n)) H'
theorem ok_long {tb : List (Addr × Str)} {cc Pt : Addr} (T : Fx K mg) (F : MT K (cSh K) "long_named" "Shelf.long_named" sShelf_long_named ["self", "name", "count"] cc) (TB : LamX.TabB base mg cc Pt) (hmT : (Pt, qLong) ∈ tb) (huT : ∀ p ∈ tb, p.1 = Pt → p.2 = qLong) : Met P w K mg base 2 (cSh K) "long_named" (spLong K tb) [] := by
  refine F.met T.cShelf scShelf_long_named (fun vs H Q E h => ?_) (fun f A outer s H vs Q E hr h => ?_)
  · obtain ⟨_, _, _, _, _, _, _, _, _, rfl, _⟩ := h
    rfl
  obtain ⟨c, x, dx, l, ad, st, p, n, count, rfl, S, hp, hs0, hs1, k⟩ := h
  have nd := scShelf_long_named.nd
  refine ⟨_, (pss_cons (ps_asg (pe_tup (pa_cons (pe_ix ix_tup (pv 1) pe_int (fun _ _ => rfl)) (pa_cons (pe_ix ix_tup (pv 1) pe_int (fun _ _ => rfl)) pa_nil))) (pg_tup rfl (pgs_cons (pg_name (i := 3) nd rfl (by first | exact .inl rfl | exact .inr rfl)) (pgs_cons (pg_name (i := 4) nd rfl (by first | exact .inl rfl | exact .inr rfl)) pgs_nil))))
  (pss_cons (ps_setLc (i := 5) (own := [("spot", 7)]) (g := (gName 7)) (tt := (tAnd (tTest (tOp _ (tFld K (tVar 7) "mark") (tC (.str "")))) (tTest (tOp _ (tOp _ (tFld K (tVar 7) "count") (tFld K (tVar 0) "span")) (tVar 3))))) (te := (tVar 7)) rfl nd rfl rfl (sw_true rfl rfl rfl (by decide +kernel)) (pi_list (pe_fld (pv 0) rfl)) (blkOk_by (N := ["self", "name", "count", "low", "rounds", "found", "due", "spot"]) (sc := defScope sShelf_long_named) (by decide +kernel)) (fun _ _ _ _ _ => (pg_name (i := 7) nd rfl (by first | exact .inl rfl | exact .inr rfl))) (fun _ _ _ _ _ => (pts_one (PW.pt (pw_and (pt_cmpR op_ne (pe_fld (pv 7) rfl) (pe_gs T.g_BARE (by rfl)) (nomark _)) (pw_and1 (pt_cmpR op_eq (pe_op op_mod (pe_fld (pv 7) rfl) (pe_fld (pv 0) rfl)) (pv 3) (nomark _))))))) (fun _ _ _ _ _ => (pv 7)))
  (pss_cons (ps_if (pt_cmpR op_ge (pv 4) pe_int (nomark _)) (pss_cons (ps_set (i := 6) nd rfl (Or.inr rfl) (pe_op op_add (pe_op op_sub (pe_op op_sub (pv 2) (pe_op op_mod (pv 2) (pe_fld (pv 0) rfl))) (pe_op op_mul (pv 4) (pe_fld (pv 0) rfl))) (pv 3)))
      (pss_one (ps_setLc (i := 5) (own := [("spot", 7)]) (g := (gName 7)) (tt := (tTest (tOp _ (tFld K (tVar 7) "count") (tVar 6)))) (te := (tVar 7)) rfl nd rfl rfl (sw_true rfl rfl rfl (by decide +kernel)) (pi_list (pv 5)) (blkOk_by (N := ["self", "name", "count", "low", "rounds", "found", "due", "spot"]) (sc := defScope sShelf_long_named) (by decide +kernel)) (fun _ _ _ _ _ => (pg_name (i := 7) nd rfl (by first | exact .inl rfl | exact .inr rfl))) (fun _ _ _ _ _ => (pts_one (pt_cmpR op_eq (pe_fld (pv 7) rfl) (pv 6) (nomark _)))) (fun _ _ _ _ _ => (pv 7))))) pss_nil)
  (pss_one (ps_ret (pe_ifExp (pt_cmpR op_gt (pe_callB call_len_seq (by rfl) T.n_len PySem.boot_len (pa_cons (pv 5) pa_nil)) pe_int (nomark _)) (pe_best (T := tb) (mx := true) rfl (pv 5) (by rfl) T.n_max TB rfl hmT huT hr rfl rfl rfl rfl rfl rfl (fun _ _ _ _ _ => rfl)) pe_non)))))), ?_⟩
  refine ⟨_, rfl, p, _, 0, _, rfl, rfl, hp, rfl, _, rfl, p, _, 1, _, rfl, rfl, hp, rfl, by show 2 ≤ sizeLine; decide, fun q hq => ?_⟩
  have S1 := S.new (o := .tup [.int n.1, .int n.2.1]) hq
  have x1 : LamX.ExtN H (upd H q (.tup [.int n.1, .int n.2.1])) := ext_new hq
  refine ⟨q, _, rfl, .of upd_same, rfl, _, _, rfl, _, _, rfl, rfl, ?_⟩
  refine ⟨_, rfl, x, _, dx, _, _, rfl, S1.obj, T.cShelf, T.aShelf_spots, rfl, l, rfl, ⟨_, SqL.of S1.lst⟩, fun D hD => ?_⟩
  refine lc_fm (F := fun t => if (decide (t.m ≠ ("" : Str)) && decide (t.c % c.span = n.1)) then some (V.ref (ad t.p)) else none) hD S1.lst S1.len (fun i t acc R ht h1 h2 hz => ?_) ?_
  · obtain ⟨dt, h3⟩ := S1.spo.at_ t (mem_at ht)
    have h3' := upd_keep (o' := .lst acc) h3 hD
    have h4 := upd_keep (o' := .lst acc) S1.obj hD
    refine ⟨rfl, _, rfl, _, _, dt, _, _, rfl, h3', T.cSpot, T.aSpot_mark, rfl, rfl, _, rfl, ?_⟩
    by_cases hm : t.m = ("" : Str)
    · rw [show (!decide (V.str t.m = V.str ("" : Str))) = false by rw [hm]; decide]
      refine ifF rfl (ifF rfl (h2 ?_))
      rw [hm]
      rfl
    · rw [show (!decide (V.str t.m = V.str ("" : Str))) = true by rw [decide_eq_false fun z => hm (V.str.inj z)]; rfl]
      refine ifT rfl ⟨_, rfl, _, _, dt, _, _, rfl, h3', T.cSpot, T.aSpot_count, rfl, _, rfl, _, _, dx, _, _, rfl, h4, T.cShelf, T.aShelf_span, rfl, _, _, rfl, rfl, hs0, _, rfl, rfl, _, rfl, ?_⟩
      have ed : decide (V.int (t.c % c.span) = V.int n.1) = decide (t.c % c.span = n.1) := by
        by_cases e : t.c % c.span = n.1
        · rw [e, decide_eq_true rfl, decide_eq_true rfl]
        · rw [decide_eq_false e, decide_eq_false fun z => e (V.int.inj z)]
      rw [ed]
      refine ite2 (fun hb => ?_) (fun hb => ?_)
      · refine ⟨_, rfl, acc, upd_same, hz, ?_⟩
        rw [upd2]
        exact h1 _ (by rw [decide_eq_true hm, hb]; rfl)
      · exact h2 (by rw [decide_eq_true hm]; exact if_neg hb)
  · rw [fm_filter2]
    have S2 := S1.new (o := .lst (rf ad (st.spots.filter fun t => decide (t.m ≠ ("" : Str)) && decide (t.c % c.span = n.1)))) hD
    have x2 := x1.trans (ext_new (o := .lst (rf ad (st.spots.filter fun t => decide (t.m ≠ ("" : Str)) && decide (t.c % c.span = n.1)))) hD)
    have h2 : upd (upd H q (.tup [.int n.1, .int n.2.1])) D (.lst (rf ad (st.spots.filter fun t => decide (t.m ≠ ("" : Str)) && decide (t.c % c.span = n.1)))) D = _ := upd_same
    have sub1 : (st.spots.filter fun t => decide (t.m ≠ ("" : Str)) && decide (t.c % c.span = n.1)).Sublist st.spots := List.filter_sublist
    refine gn_cut ?_
    dsimp only
    refine seq_cut (fun σ' H' => ∃ (v6 : Option V) (D' : Addr) (f2 : List Spt), σ' = [some (.ref x), some (.ref p), some (.int count), some (.int n.1), some (.int n.2.1), some (.ref D'), v6, none] ∧ LamX.ExtN H H' ∧ Sh K tb c x dx l ad st H' ∧ H' D' = some (.lst (rf ad f2)) ∧ f2.Sublist st.spots ∧ longN c st.spots count n = best true f2) ?_ fun key => ?_
    · rintro σ' H' ⟨v6, D', f2, rfl, x3, S3, h3, sub, eL⟩
      rw [eL] at k
      refine ⟨_, rfl, D', _, rfl, .inl (SqL.of h3), _, _, rfl, rfl, _, rfl, ?_⟩
      rw [rf_len]
      refine ite2 (fun hc => ?_) (fun hc => ?_)
      · obtain ⟨t, ht⟩ := best_some (mx := true) (pos_ne hc)
        rw [ht] at k
        have S4 := S3.spo.sub sub
        refine ⟨_, rfl, D', cSp K, _, f2.map Spt.key, rfl, S3.tabs, h3, ?_, ?_, T.cSpot, T.aSpot_count, T.aSpot_place, fun i v k' hv hk => ?_, fun H2 e t2 v hv => ?_⟩
        · intro z
          exact best_ne ht (List.map_eq_nil_iff.mp z)
        · rw [List.length_map]
          exact List.length_map ..
        · obtain ⟨u, hu, rfl⟩ := rf_get hv
          rw [List.getElem?_map, hu] at hk
          cases hk
          obtain ⟨d, hd⟩ := S4.at_ u (mem_at hu)
          exact ⟨_, d, _, rfl, hd, rfl, rfl⟩
        · rw [best_rf ht hv]
          exact k H2 (x3.trans e) t2
      · have e0 := npos_eq hc
        rw [show best true f2 = none by rw [e0]; rfl] at k
        exact k _ x3 S3.tabs
    · refine ⟨_, rfl, _, _, rfl, rfl, _, rfl, ?_⟩
      refine ite2 (fun hc => ?_) (fun hc => ?_)
      · have hr0 : n.2.1 ≥ 0 := of_decide_eq_true hc
        refine ⟨_, rfl, _, rfl, _, rfl, x, _, dx, _, _, rfl, S2.obj, T.cShelf, T.aShelf_span, rfl, _, _, rfl, rfl, hs0, _, _, rfl, rfl, _, rfl, _, rfl, x, _, dx, _, _, rfl, S2.obj, T.cShelf, T.aShelf_span, rfl, _, _, rfl, rfl, .inr ⟨by omega, by omega⟩, _, _, rfl, rfl, _, rfl, _, _, rfl, rfl, ?_⟩
        refine ⟨_, rfl, D, rfl, ⟨_, SqL.of h2⟩, fun D2 hD2 => ?_⟩
        refine lc_fm (F := fun t => if decide (t.c = count - count % c.span - n.2.1 * c.span + n.1) then some (V.ref (ad t.p)) else none) hD2 h2 (Nat.lt_of_le_of_lt sub1.length_le S.len) (fun i t acc R ht h1 h2 hz => ?_) ?_
        · obtain ⟨dt, h3⟩ := S2.spo.at_ t (sub1.subset (mem_at ht))
          refine ⟨rfl, _, rfl, _, _, dt, _, _, rfl, upd_keep h3 hD2, T.cSpot, T.aSpot_count, rfl, _, rfl, rfl, _, rfl, ?_⟩
          have ed : decide (V.int t.c = V.int (count - count % c.span - n.2.1 * c.span + n.1)) = decide (t.c = count - count % c.span - n.2.1 * c.span + n.1) := by
            by_cases e : t.c = count - count % c.span - n.2.1 * c.span + n.1
            · rw [e, decide_eq_true rfl, decide_eq_true rfl]
            · rw [decide_eq_false e, decide_eq_false fun z => e (V.int.inj z)]
          rw [ed]
          refine ite2 (fun hb => ?_) (fun hb => ?_)
          · refine ⟨_, rfl, acc, upd_same, hz, ?_⟩
            rw [upd2]
            exact h1 _ (if_pos hb)
          · exact h2 (if_neg hb)
        · rw [fm_filter2]
          refine key _ _ ⟨_, D2, _, rfl, x2.trans (ext_new hD2), S2.new hD2, upd_same, List.filter_sublist.trans sub1, ?_⟩
          unfold longN
          dsimp only
          rw [if_pos hr0]
      · have hr0 : ¬ n.2.1 ≥ 0 := fun z => hc (decide_eq_true z)
        refine key _ _ ⟨none, D, _, rfl, x2, S2, h2, sub1, ?_⟩
        unfold longN
        dsimp only
        rw [if_neg hr0]
end

end L2.K13
set_option Elab.async false
set_option linter.all false
set_option maxRecDepth 100000
set_option maxHeartbeats 4000000
set_option pp.maxSteps 150
namespace L2.K13
open PySem PySem.Spec PyProof.Rows L2
open C8 (Cal Met Mak pe_c pe_mt pe_mt0 pe_mk)
local macro_rules | `(tactic| walk_at "hp") => `(tactic| first | assumption | exact upd_same | (refine upd_keep ?_ (by assumption); walk_at "hp") | (refine upd_off ?_ (by assumption) (by intro z; cases z); walk_at "hp"))
local macro_rules | `(tactic| walk_at "seq") => `(tactic| first | assumption | exact SqT.of (by walk_at "hp") | exact SqL.of (by walk_at "hp"))
section
theorem mem_ov {ad : Int → Addr} {sp : List Spt} {tk : List (Option Spt)} {t : Spt} (ht : t ∈ sp) (hk : ∀ o ∈ tk, ∀ u, o = some u → u ∈ sp) (inj : ∀ t ∈ sp, ∀ u ∈ sp, ad t.p = ad u.p → t.p = u.p) : V.ref (ad t.p) ∈ tk.map (ov ad) ↔ some t.p ∈ tk.map (·.map Spt.p) := by
  rw [List.mem_map, List.mem_map]
  constructor
  · rintro ⟨o, ho, e⟩
    cases o with
    | none => cases e
    | some u => exact ⟨_, ho, congrArg some (inj u (hk _ ho u rfl) t ht (V.ref.inj e))⟩
  · rintro ⟨o, ho, e⟩
    cases o with
    | none => cases e
    | some u => exact ⟨_, ho, congrArg V.ref (congrArg ad (Option.some.inj e))⟩
theorem atI_last {α : Type} {l : List α} (h : l ≠ []) : atI l (-1) = l.getLast? := by
  have hp := List.length_pos_iff.mpr h
  unfold atI ixN
  rw [if_neg (by decide)]
  have e : -1 + ((l.length : Nat) : Int) = ((l.length - 1 : Nat) : Int) := by omega
  rw [e, if_pos (by omega)]
  show l[((l.length - 1 : Nat) : Int).toNat]? = _
  rw [Int.toNat_natCast, List.getLast?_eq_getElem?]
theorem ni_ov {K : PySem.W.Frag} {ad : Int → Addr} {sp : List Spt} {H : Hp} {tk : List (Option Spt)} (S : SpR K ad sp H) (hk : ∀ o ∈ tk, ∀ u, o = some u → u ∈ sp) : ∀ z ∈ tk.map (ov ad), NI (cSp K) H z := fun z hz => by
  obtain ⟨o, ho, rfl⟩ := List.mem_map.mp hz
  cases o with
  | none => exact .inl rfl
  | some u =>
    obtain ⟨d, e⟩ := S.at_ u (hk _ ho u rfl)
    exact .inr ⟨_, d, _, rfl, e⟩
theorem decV {a b : Int} : decide (V.int a = V.int b) = decide (a = b) := by
  by_cases e : a = b
  · rw [e, decide_eq_true rfl, decide_eq_true rfl]
  · rw [decide_eq_false e, decide_eq_false fun z => e (V.int.inj z)]
theorem decS {a b : Str} : decide (V.str a = V.str b) = decide (a = b) := by
  by_cases e : a = b
  · rw [e, decide_eq_true rfl, decide_eq_true rfl]
  · rw [decide_eq_false e, decide_eq_false fun z => e (V.str.inj z)]
end
section
variable {P : Program} {w : World} {K : PySem.W.Frag} {mg : Str → Option Value} {base : Heap}
def spShort (K : PySem.W.Frag) (T : List (Addr × Str)) : Sp := fun vs H Q _ => ∃ (c : Cfg) (x dx l : Addr) (ad : Int → Addr) (st : Stt) (p q : Addr) (n : Int × Bool) (count : Int) (tk : List (Option Spt)), vs = [.ref x, .ref p, .int count, .ref q] ∧ Sh K T c x dx l ad st H ∧ SqT K H p [.int n.1, .bl n.2] ∧ H q = some (.lst (tk.map (ov ad))) ∧ (∀ o ∈ tk, ∀ u, o = some u → u ∈ st.spots) ∧
  ∀ H', Same H H' → Q (ov ad (shortN st.spots count (tk.map (·.map Spt.p)) n)) H'
theorem ok_short {T0 : List (Addr × Str)} (T : Fx K mg) (F : MF K (cSh K) "short_named" "Shelf.short_named" sShelf_short_named ["self", "name", "count", "taken"]) : Met P w K mg base 1 (cSh K) "short_named" (spShort K T0) [] := by
  refine F.met T.cShelf scShelf_short_named (fun vs H Q E h => ?_) (fun f cdv A outer s H vs Q E hr h => ?_)
  · obtain ⟨_, _, _, _, _, _, _, _, _, _, _, rfl, _⟩ := h
    rfl
  obtain ⟨c, x, dx, l, ad, st, p, q, n, count, tk, rfl, S, hp, hq, hk, k⟩ := h
  have nd := scShelf_short_named.nd
  have hu64 := hu64_of hr
  refine ⟨_, (pss_cons (ps_setLc (i := 4) (own := [("spot", 5)]) (g := (gName 5)) (tt := (tAnd (tTest (tOp _ (tFld K (tVar 5) "mark") (tC (.str "short")))) (tTest (tOp _ (tFld K (tVar 5) "count") (tOp _ (tVar 2) (tOp (rIxT K) (tVar 1) _)))))) (te := (tVar 5)) rfl nd rfl rfl (sw_true rfl rfl rfl (by decide +kernel)) (pi_list (pe_fld (pv 0) rfl)) (blkOk_by (N := ["self", "name", "count", "taken", "found", "spot"]) (sc := defScope sShelf_short_named) (by decide +kernel)) (fun _ _ _ _ _ => (pg_name (i := 5) nd rfl (by first | exact .inl rfl | exact .inr rfl))) (fun _ _ _ _ _ => (pts_one (PW.pt (pw_and (pt_cmpR op_eq (pe_fld (pv 5) rfl) (pe_gs T.g_SHORT (by rfl)) (nomark _)) (pw_and1 (pt_cmpR op_eq (pe_fld (pv 5) rfl) (pe_op op_add (pv 2) (pe_ix ix_tup (pv 1) pe_int (fun _ _ => rfl))) (nomark _))))))) (fun _ _ _ _ _ => (pv 5)))
  (pss_cons (ps_setLc (i := 4) (own := [("spot", 5)]) (g := (gName 5)) (tt := (tTest (tOp (rInR K true) (tVar 5) (tVar 3)))) (te := (tVar 5)) rfl nd rfl rfl (sw_true rfl rfl rfl (by decide +kernel)) (pi_list (pv 4)) (blkOk_by (N := ["self", "name", "count", "taken", "found", "spot"]) (sc := defScope sShelf_short_named) (by decide +kernel)) (fun _ _ _ _ _ => (pg_name (i := 5) nd rfl (by first | exact .inl rfl | exact .inr rfl))) (fun _ _ _ _ _ => (pts_one (pt_cmpR (op_niR hu64) (pv 5) (pv 3) (by with_unfolding_all rfl)))) (fun _ _ _ _ _ => (pv 5)))
  (pss_one (ps_ret (pe_ifExp (pt_cmpR op_gt (pe_callB call_len_seq (by rfl) T.n_len PySem.boot_len (pa_cons (pv 4) pa_nil)) pe_int (nomark _)) (pe_ix ix_list (pv 4) (pe_un un_neg pe_int) (fun _ _ => rfl)) pe_non))))), ?_⟩
  refine ⟨_, rfl, x, _, dx, _, _, rfl, S.obj, T.cShelf, T.aShelf_spots, rfl, l, rfl, ⟨_, SqL.of S.lst⟩, fun D hD => ?_⟩
  refine lc_fm (F := fun t => if (decide (t.m = ("short" : Str)) && decide (t.c = count + n.1)) then some (V.ref (ad t.p)) else none) hD S.lst S.len (fun i t acc R ht h1 h2 hz => ?_) ?_
  · obtain ⟨dt, h3⟩ := S.spo.at_ t (mem_at ht)
    have h3' := upd_keep (o' := .lst acc) h3 hD
    refine ⟨rfl, _, rfl, _, _, dt, _, _, rfl, h3', T.cSpot, T.aSpot_mark, rfl, rfl, _, rfl, ?_⟩
    rw [decS]
    by_cases hm : t.m = ("short" : Str)
    · rw [decide_eq_true hm]
      refine ifT rfl ⟨_, rfl, _, _, dt, _, _, rfl, h3', T.cSpot, T.aSpot_count, rfl, _, rfl, _, rfl, p, _, 0, _, rfl, rfl, SqT.extN hp (ext_new hD), rfl, _, _, rfl, rfl, rfl, _, rfl, ?_⟩
      rw [decV]
      refine ite2 (fun hb => ?_) (fun hb => ?_)
      · refine ⟨_, rfl, acc, upd_same, hz, ?_⟩
        rw [upd2]
        exact h1 _ (by rw [decide_eq_true hm, hb]; rfl)
      · exact h2 (by rw [decide_eq_true hm]; exact if_neg hb)
    · rw [decide_eq_false hm]
      refine ifF rfl (ifF rfl (h2 ?_))
      rw [decide_eq_false hm]
      rfl
  · rw [fm_filter2]
    have S2 := S.new (o := .lst (rf ad (st.spots.filter fun t => decide (t.m = ("short" : Str)) && decide (t.c = count + n.1)))) hD
    have x2 : Same H (upd H D (.lst (rf ad (st.spots.filter fun t => decide (t.m = ("short" : Str)) && decide (t.c = count + n.1))))) := fun b o h => upd_keep h hD
    have sub1 : (st.spots.filter fun t => decide (t.m = ("short" : Str)) && decide (t.c = count + n.1)).Sublist st.spots := List.filter_sublist
    refine ⟨_, rfl, D, rfl, ⟨_, SqL.of upd_same⟩, fun D2 hD2 => ?_⟩
    refine lc_fm (zs := st.spots.filter fun t => decide (t.m = ("short" : Str)) && decide (t.c = count + n.1)) (r := fun t => V.ref (ad t.p)) (F := fun t => if !decide (some t.p ∈ tk.map (·.map Spt.p)) then some (V.ref (ad t.p)) else none) hD2 upd_same (Nat.lt_of_le_of_lt sub1.length_le S.len) (fun i t acc R ht h1 h2 hz => ?_) ?_
    · have hts := sub1.subset (mem_at ht)
      have x3 : Same H (upd (upd H D (.lst (rf ad (st.spots.filter fun t => decide (t.m = ("short" : Str)) && decide (t.c = count + n.1))))) D2 (.lst acc)) := fun b o h => upd_keep (x2 b o h) hD2
      have S3 := S2.new (o := .lst acc) hD2
      obtain ⟨dt, h3⟩ := S3.spo.at_ t hts
      refine ⟨rfl, _, rfl, _, rfl, cSp K, _, dt, _, q, _, rfl, h3, rfl, SqL.of (x3 _ _ hq), ni_ov S3.spo hk, T.eqS, _, rfl, ?_⟩
      have em : decide (V.ref (ad t.p) ∈ tk.map (ov ad)) = decide (some t.p ∈ tk.map (·.map Spt.p)) := decide_eq_decide.mpr (mem_ov hts hk S.spo.inj)
      rw [if_pos rfl, em]
      refine ite2 (fun hb => ?_) (fun hb => ?_)
      · refine ⟨_, rfl, acc, upd_same, hz, ?_⟩
        rw [upd2]
        exact h1 _ (if_pos hb)
      · exact h2 (if_neg hb)
    · rw [fm_filter2]
      have x3 : ∀ o : HO, Same H (upd (upd H D (.lst (rf ad (st.spots.filter fun t => decide (t.m = ("short" : Str)) && decide (t.c = count + n.1))))) D2 o) := fun o b o' h => upd_keep (x2 b o' h) hD2
      refine ⟨_, rfl, D2, _, rfl, .inl (SqL.of upd_same), _, _, rfl, rfl, _, rfl, ?_⟩
      rw [rf_len]
      have k' := k _ (x3 (.lst (rf ad ((st.spots.filter fun t => decide (t.m = ("short" : Str)) && decide (t.c = count + n.1)).filter fun t => !decide (some t.p ∈ tk.map (·.map Spt.p))))))
      refine ite2 (fun hc => ?_) (fun hc => ?_)
      · have hne := pos_ne hc
        obtain ⟨t, ht⟩ : ∃ t, ((st.spots.filter fun t => decide (t.m = ("short" : Str)) && decide (t.c = count + n.1)).filter fun t => !decide (some t.p ∈ tk.map (·.map Spt.p))).getLast? = some t := ⟨_, List.getLast?_eq_some_getLast hne⟩
        unfold shortN at k'
        rw [ht] at k'
        refine ⟨_, rfl, _, rfl, D2, _, -1, .ref (ad t.p), rfl, rfl, SqL.of upd_same, ?_, k'⟩
        rw [atI_last (by intro z; exact hne (List.map_eq_nil_iff.mp z))]
        unfold rf
        rw [List.getLast?_map, ht]
        rfl
      · have e0 := npos_eq hc
        unfold shortN at k'
        rw [e0] at k'
        rw [e0]
        exact k'
end

end L2.K13
set_option Elab.async false
set_option linter.all false
set_option maxRecDepth 100000
set_option maxHeartbeats 4000000
set_option pp.maxSteps 150
namespace L2.K13
open PySem PySem.Spec PyProof.Rows L2
open C8 (Cal Met Mak pe_c pe_mt pe_mt0 pe_mk)
local macro_rules | `(tactic| walk_at "hp") => `(tactic| first | assumption | exact upd_same | (refine upd_keep ?_ (by assumption); walk_at "hp") | (refine upd_off ?_ (by assumption) (by intro z; cases z); walk_at "hp"))
local macro_rules | `(tactic| walk_at "seq") => `(tactic| first | assumption | exact SqT.of (by walk_at "hp") | exact SqL.of (by walk_at "hp"))
section
def ovp (ad : Int → Addr) : Option Int → V
  | none => .non
  | some p => .ref (ad p)
theorem ov_p (ad : Int → Addr) (o : Option Spt) : ov ad o = ovp ad (o.map Spt.p) := by cases o <;> rfl
def All2 {α β : Type} (R : α → β → Prop) (xs : List α) (ys : List β) : Prop := xs.length = ys.length ∧ ∀ (i : Nat) (x : α) (y : β), xs[i]? = some x → ys[i]? = some y → R x y
theorem All2.mono {α β : Type} {R R' : α → β → Prop} {xs : List α} {ys : List β} (h : All2 R xs ys) (f : ∀ x y, R x y → R' x y) : All2 R' xs ys := ⟨h.1, fun i x y a b => f x y (h.2 i x y a b)⟩
theorem All2.get {α β : Type} {R : α → β → Prop} {xs : List α} {ys : List β} (h : All2 R xs ys) {i : Nat} {x : α} (hx : xs[i]? = some x) : ∃ y, ys[i]? = some y ∧ R x y := by
  have hi := (List.getElem?_eq_some_iff.mp hx).1
  have hy : ys[i]? = some (ys[i]'(by rw [← h.1]; exact hi)) := List.getElem?_eq_getElem _
  exact ⟨_, hy, h.2 i x _ hx hy⟩
theorem All2.append {α β : Type} {R : α → β → Prop} {xs xs' : List α} {ys ys' : List β} (h : All2 R xs ys) (h' : All2 R xs' ys') : All2 R (xs ++ xs') (ys ++ ys') := by
  refine ⟨by rw [List.length_append, List.length_append, h.1, h'.1], fun i x y hx hy => ?_⟩
  by_cases hi : i < xs.length
  · rw [List.getElem?_append_left hi] at hx
    rw [List.getElem?_append_left (by rw [← h.1]; exact hi)] at hy
    exact h.2 i x y hx hy
  · rw [List.getElem?_append_right (Nat.le_of_not_lt hi)] at hx
    rw [List.getElem?_append_right (by rw [← h.1]; exact Nat.le_of_not_lt hi), ← h.1] at hy
    exact h'.2 _ x y hx hy
def ShN (K : PySem.W.Frag) (H : Hp) (v : V) (n : Int × Bool) : Prop := ∃ p, v = .ref p ∧ SqT K H p [.int n.1, .bl n.2]
def LoN (K : PySem.W.Frag) (H : Hp) (v : V) (n : Int × Int × Bool) : Prop := ∃ p, v = .ref p ∧ SqT K H p [.int n.1, .int n.2.1, .bl n.2.2]
/-- a picture's tuple -/
def PicR (K : PySem.W.Frag) (H : Hp) (a : Addr) (pic : Pic) : Prop := ∃ (ps pl : Addr) (vs ws : List V), SqT K H a [.str pic.kind, .int pic.layer, .int pic.low, .bl pic.kept, .bl pic.shown, .ref ps, .ref pl, .bl pic.hush] ∧ SqT K H ps vs ∧ SqT K H pl ws ∧
  All2 (ShN K H) vs pic.shorts ∧ All2 (LoN K H) ws pic.longs ∧ pic.shorts.length ≤ 100 ∧ pic.longs.length ≤ 100
theorem PicR.map {K : PySem.W.Frag} {H H' : Hp} {a : Addr} {pic : Pic} (h : PicR K H a pic) (f : ∀ b xs, SqT K H b xs → SqT K H' b xs) : PicR K H' a pic := by
  obtain ⟨ps, pl, vs, ws, h1, h2, h3, h4, h5, h6⟩ := h
  exact ⟨ps, pl, vs, ws, f _ _ h1, f _ _ h2, f _ _ h3, h4.mono fun _ _ ⟨p, e, h⟩ => ⟨p, e, f _ _ h⟩, h5.mono fun _ _ ⟨p, e, h⟩ => ⟨p, e, f _ _ h⟩, h6⟩
theorem PicR.ext {K : PySem.W.Frag} {H H' : Hp} {a : Addr} {pic : Pic} (h : PicR K H a pic) (f : LamX.ExtN H H') : PicR K H' a pic := h.map fun _ _ h => SqT.extN h f
theorem PicR.fr {K : PySem.W.Frag} {S : Addr → Prop} {H H' : Hp} {a : Addr} {pic : Pic} (h : PicR K H a pic) (f : Fr S H H') : PicR K H' a pic := h.map fun _ _ h => SqT.fr h f
/-! ### comprehensions over tuples and zips, the heap growing -/
theorem ext_at {H1 H : Hp} {D : Addr} {o : HO} (e : LamX.ExtN H1 H) (h : H1 D = none) : LamX.ExtN H1 (upd H D o) := fun b o' h' n => by
  rw [upd_ne (ne_of_none h' h)]
  exact e b o' h' n
theorem lc_call {K : PySem.W.Frag} {T : List (Addr × Str)} {a : Addr} {xs : List V} {g : TG} {te : TE} {vs : List Nat} {σ : St} {H1 : Hp} {D : Addr} {Qd : Hp → Prop} (res : Nat → V) (hD : H1 D = none) (hl : SqT K H1 a xs) (hz : xs.length < sizeLine) (ht : LamX.Tabs T H1)
    (hs : ∀ (i : Nat) (x : V) (H : Hp) (R : V → Hp → Prop), xs[i]? = some x → LamX.ExtN H1 H → LamX.Tabs T H → (∀ H', LamX.ExtN H H' → LamX.Tabs T H' → R (res i) H') → g x (wipe σ vs) H fun σ2 H2 => wipe σ2 vs = wipe σ vs ∧ te σ2 H2 R)
    (hd : ∀ H, LamX.ExtN H1 H → LamX.Tabs T H → H D = some (.lst ((List.range xs.length).map res)) → Qd H) :
    ∃ W : Nat → Nat → Hp → Prop, (∃ m, W 0 m (upd H1 D (.lst []))) ∧ ∀ i m H, W i m H →
      ((Itt K a).stop i H ∧ Qd H) ∨ ((Itt K a).go i H ∧ ∃ Nx : Hp → Prop, (∀ H', Nx H' → ∃ m', m' < m ∧ W (i + 1) m' H') ∧ ∀ x H', (Itt K a).yld i H x H' → g x (wipe σ vs) H' fun σ2 H2 => wipe σ2 vs = wipe σ vs ∧ tYes σ2 H2 fun b H3 =>
        if b = true then te σ2 H3 fun y H4 => ∃ acc, H4 D = some (.lst acc) ∧ acc.length < sizeLine ∧ Nx (upd H4 D (.lst (acc ++ [y]))) else Nx H3) := by
  refine lc_tup (xs := xs) (fun i H => LamX.ExtN H1 H ∧ LamX.Tabs T H ∧ H D = some (.lst ((List.range i).map res))) ⟨ext_new hD, ht.ext fun b o h => upd_keep h hD, upd_same⟩ (fun i H _ ⟨e, _, _⟩ => SqT.extN hl e) (fun i x H hx ⟨e, t, h⟩ => ?_) fun H ⟨e, t, h⟩ => hd H e t h
  refine hs i x H _ hx e t fun H' e' t' => ?_
  have h' := e' _ _ h fun _ z => by cases z
  have hi := (List.getElem?_eq_some_iff.mp hx).1
  refine ⟨_, h', ?_, ext_at (e.trans e') hD, Tabs.put t' h' (by intro _ z; cases z) (by intro _ z; cases z), ?_⟩
  · rw [List.length_map, List.length_range]
    omega
  · rw [upd_same, List.range_succ, List.map_append]
    rfl
theorem range_map {α β : Type} (l : List α) (f : α → β) (d : β) : (List.range l.length).map (fun i => (l[i]?.map f).getD d) = l.map f := by
  refine List.ext_getElem (by simp) fun i h1 h2 => ?_
  have : i < l.length := by simpa using h1
  simp [this]
theorem lc_zm {K : PySem.W.Frag} {a b : Addr} {xs ys : List V} {g : TG} {tt : TT} {te : TE} {vs : List Nat} {σ : St} {H1 : Hp} {D : Addr} {Qd : Hp → Prop} (hD : H1 D = none) (hl : xs.length = ys.length) (hz : xs.length < sizeLine) (ha : H1 a = some (.lst xs)) (hb : SqT K H1 b ys) (fl : Nat → Bool)
    (hs : ∀ (i : Nat) (x y : V) (H : Hp) (t : Addr) (R : Hp → Prop) (acc : List V), xs[i]? = some x → ys[i]? = some y → Same H1 H → H t = some (.tup [x, y]) → H D = some (.lst acc) → acc.length < sizeLine → (fl i = true → R (upd H D (.lst (acc ++ [x])))) → (fl i = false → R H) →
      g (.ref t) (wipe σ vs) H fun σ2 H2 => wipe σ2 vs = wipe σ vs ∧ tt σ2 H2 fun b H3 => if b = true then te σ2 H3 fun y H4 => ∃ acc, H4 D = some (.lst acc) ∧ acc.length < sizeLine ∧ R (upd H4 D (.lst (acc ++ [y]))) else R H3)
    (hd : ∀ H, Same H1 H → H D = some (.lst (((List.range xs.length).filter fl).map fun i => xs.getD i .non)) → Qd H) :
    ∃ W : Nat → Nat → Hp → Prop, (∃ m, W 0 m (upd H1 D (.lst []))) ∧ ∀ i m H, W i m H →
      ((ItzM K a b).stop i H ∧ Qd H) ∨ ((ItzM K a b).go i H ∧ ∃ Nx : Hp → Prop, (∀ H', Nx H' → ∃ m', m' < m ∧ W (i + 1) m' H') ∧ ∀ x H', (ItzM K a b).yld i H x H' → g x (wipe σ vs) H' fun σ2 H2 => wipe σ2 vs = wipe σ vs ∧ tt σ2 H2 fun b H3 =>
        if b = true then te σ2 H3 fun y H4 => ∃ acc, H4 D = some (.lst acc) ∧ acc.length < sizeLine ∧ Nx (upd H4 D (.lst (acc ++ [y]))) else Nx H3) := by
  let res : Nat → List V := fun i => ((List.range i).filter fl).map fun i => xs.getD i .non
  have lenR : ∀ i, (res i).length ≤ i := fun i => by
    show (((List.range i).filter fl).map _).length ≤ i
    rw [List.length_map]
    exact Nat.le_trans (List.length_filter_le ..) (by rw [List.length_range]; exact Nat.le_refl _)
  let Pv : Nat → Hp → Prop := fun i H => Same H1 H ∧ H D = some (.lst (res i))
  refine ⟨fun i m H => m = xs.length - i ∧ i ≤ xs.length ∧ Pv i H, ⟨xs.length, by simp, Nat.zero_le _, fun b o h => upd_keep h hD, upd_same⟩, ?_⟩
  rintro i m H ⟨rfl, hi, hS, hR⟩
  have qa : SqL K H a xs := SqL.of (hS _ _ ha)
  have qb : SqT K H b ys := SqT.extN hb (LamX.ExtN.of hS)
  by_cases hlt : i < xs.length
  · have hx : xs[i]? = some xs[i] := List.getElem?_eq_getElem hlt
    have hy : ys[i]? = some (ys[i]'(by omega)) := List.getElem?_eq_getElem _
    refine .inr ⟨⟨xs, ys, _, _, qa, qb, hx, hy⟩, Pv (i + 1), fun H' p' => ⟨xs.length - (i + 1), by omega, rfl, hlt, p'⟩, fun v H' y => ?_⟩
    obtain ⟨t, x', y', rfl, ht, rfl, f1, f2⟩ := y
    have hx' := f1 xs qa
    have hy' := f2 ys qb
    have e1 : res (i + 1) = if fl i then res i ++ [x'] else res i := by
      show ((List.range (i + 1)).filter fl).map _ = _
      rw [List.range_succ, List.filter_append, List.map_append]
      cases hf : fl i with
      | true =>
        rw [List.filter_cons_of_pos hf]
        have : xs.getD i .non = x' := by rw [List.getD_eq_getElem?_getD, hx']; rfl
        show _ ++ [xs.getD i .non] = _
        rw [this]
        rfl
      | false =>
        rw [List.filter_cons_of_neg (by rw [hf]; decide)]
        show _ ++ [] = _
        rw [List.append_nil]
        rfl
    have sN : Same H1 (upd H t (.tup [x', y'])) := fun b o h => upd_keep (hS b o h) ht
    refine hs i x' y' (upd H t (.tup [x', y'])) t _ (res i) hx' hy' sN upd_same (upd_keep hR ht) (Nat.lt_of_le_of_lt (lenR i) (by omega)) (fun hf => ⟨fun b o h => ?_, ?_⟩) fun hf => ⟨sN, ?_⟩
    · rw [upd_ne (ne_of_none h hD)]
      exact sN b o h
    · rw [upd_same, e1, if_pos hf]
    · rw [e1, if_neg (by rw [hf]; decide)]
      exact upd_keep hR ht
  · have e : i = xs.length := by omega
    subst e
    exact .inl ⟨⟨xs, ys, qa, qb, Nat.le_refl _, by omega, .inl rfl⟩, hd H hS hR⟩
theorem catA_of {K : PySem.W.Frag} {a b : Addr} {xs ys : List V} {H : Hp} {Q : VK} (ha : SqT K H a xs) (hb : SqT K H b ys) (hz : xs.length + ys.length ≤ sizeLine) (h : ∀ r H', Same H H' → SqT K H' r (xs ++ ys) → Q (.ref r) H') : rCatA K (.ref a) (.ref b) H Q := by
  refine ⟨a, b, xs, ys, rfl, rfl, ha, hb, hz, fun e => ?_, fun _ e => ?_, fun _ _ p hp => h p _ (fun b o h => upd_keep h hp) (SqT.of upd_same)⟩
  · exact h b H (fun _ _ z => z) (by rw [e]; exact hb)
  · exact h a H (fun _ _ z => z) (by rw [e, List.append_nil]; exact ha)
end

end L2.K13
set_option Elab.async false
set_option linter.all false
set_option maxRecDepth 100000
set_option maxHeartbeats 4000000
set_option pp.maxSteps 150
namespace L2.K13
open PySem PySem.Spec PyProof.Rows L2
open C8 (Cal Met Mak pe_c pe_mt pe_mt0 pe_mk)
local macro_rules | `(tactic| walk_at "hp") => `(tactic| first | assumption | exact upd_same | (refine upd_keep ?_ (by assumption); walk_at "hp") | (refine upd_off ?_ (by assumption) (by intro z; cases z); walk_at "hp"))
local macro_rules | `(tactic| walk_at "seq") => `(tactic| first | assumption | exact SqT.of (by walk_at "hp") | exact SqL.of (by walk_at "hp"))
section
theorem chg_id {p : Int} {f : Spt → Spt} {sp : List Spt} (h : p ∉ sp.map (·.p)) : chg p f sp = sp := by
  unfold chg
  refine (List.map_congr_left fun u hu => ?_).trans (List.map_id sp)
  rw [if_neg fun e => h (List.mem_map.mpr ⟨u, hu, e⟩)]
  rfl
theorem chg_take {f : Spt → Spt} (hf : ∀ u, (f u).p = u.p) {sp : List Spt} (nd : (sp.map (·.p)).Nodup) {i : Nat} {t : Spt} (ht : sp[i]? = some t) :
    chg t.p f ((sp.take i).map f ++ sp.drop i) = (sp.take (i + 1)).map f ++ sp.drop (i + 1) := by
  have hi := (List.getElem?_eq_some_iff.mp ht).1
  have e : t = sp[i] := by
    rw [List.getElem?_eq_getElem hi] at ht
    exact (Option.some.inj ht).symm
  have ed : sp.drop i = t :: sp.drop (i + 1) := by rw [List.drop_eq_getElem_cons hi, e]
  have nd2 := nd
  rw [← List.take_append_drop i sp, ed, List.map_append, List.map_cons] at nd2
  have h1 := (List.nodup_append.mp nd2)
  have h2 := List.nodup_cons.mp h1.2.1
  have n1 : t.p ∉ ((sp.take i).map f).map (·.p) := by
    rw [List.map_map, show ((fun x : Spt => x.p) ∘ f) = (fun x : Spt => x.p) from funext fun u => hf u]
    intro hm
    exact h1.2.2 _ hm _ (List.mem_cons_self ..) rfl
  have et : sp.take (i + 1) = sp.take i ++ [t] := by
    rw [List.take_add_one, ht]
    rfl
  have ea : ∀ (a b : List Spt), chg t.p f (a ++ b) = chg t.p f a ++ chg t.p f b := fun a b => List.map_append
  rw [ea, chg_id n1, ed, et]
  have ec : chg t.p f (t :: sp.drop (i + 1)) = f t :: chg t.p f (sp.drop (i + 1)) := by
    show (if t.p = t.p then f t else t) :: _ = _
    rw [if_pos rfl]
    rfl
  rw [ec, chg_id h2.1, List.map_append, List.append_assoc]
  rfl
def mkS (longs shorts : List (Option Int)) (p : Int) : Str := if some p ∈ longs then "long" else if some p ∈ shorts then "short" else ""
def mkF (longs shorts : List (Option Int)) (u : Spt) : Spt := { u with m := mkS longs shorts u.p }
theorem mkF_p (longs shorts : List (Option Int)) (u : Spt) : (mkF longs shorts u).p = u.p := rfl
theorem mem_ovp {ad : Int → Addr} {sp : List Spt} {tk : List (Option Int)} {t : Spt} (ht : t ∈ sp) (hk : ∀ o ∈ tk, ∀ p, o = some p → ∃ u ∈ sp, u.p = p) (inj : ∀ t ∈ sp, ∀ u ∈ sp, ad t.p = ad u.p → t.p = u.p) : V.ref (ad t.p) ∈ tk.map (ovp ad) ↔ some t.p ∈ tk := by
  rw [List.mem_map]
  constructor
  · rintro ⟨o, ho, e⟩
    cases o with
    | none => cases e
    | some p =>
      obtain ⟨u, hu, rfl⟩ := hk _ ho p rfl
      rw [← inj u hu t ht (V.ref.inj e)]
      exact ho
  · intro h
    exact ⟨_, h, rfl⟩
theorem ni_ovp {K : PySem.W.Frag} {ad : Int → Addr} {sp : List Spt} {H : Hp} {tk : List (Option Int)} (S : SpR K ad sp H) (hk : ∀ o ∈ tk, ∀ p, o = some p → ∃ u ∈ sp, u.p = p) : ∀ z ∈ tk.map (ovp ad), NI (cSp K) H z := fun z hz => by
  obtain ⟨o, ho, rfl⟩ := List.mem_map.mp hz
  cases o with
  | none => exact .inl rfl
  | some p =>
    obtain ⟨u, hu, rfl⟩ := hk _ ho p rfl
    obtain ⟨d, e⟩ := S.at_ u hu
    exact .inr ⟨_, d, _, rfl, e⟩
theorem longN_mem {c : Cfg} {sp : List Spt} {count : Int} {n : Int × Int × Bool} {t : Spt} (h : longN c sp count n = some t) : t ∈ sp := by
  unfold longN at h
  dsimp only at h
  have := best_mem h
  split at this
  · exact (List.mem_filter.mp (List.mem_filter.mp this).1).1
  · exact (List.mem_filter.mp this).1
theorem shortN_mem {sp : List Spt} {count : Int} {tk : List (Option Int)} {n : Int × Bool} {t : Spt} (h : shortN sp count tk n = some t) : t ∈ sp :=
  (List.mem_filter.mp (List.mem_filter.mp (List.mem_of_getLast? h)).1).1
theorem zip_filter {α : Type} (l : List α) (fl : List Bool) (d : α) (h : l.length = fl.length) : ((List.range l.length).filter fun i => fl.getD i false).map (fun i => l.getD i d) = ((l.zip fl).filter (·.2)).map (·.1) := by
  induction l generalizing fl with
  | nil => rfl
  | cons a r ih =>
    cases fl with
    | nil => cases h
    | cons b s =>
      have hl : r.length = s.length := Nat.succ.inj h
      rw [List.length_cons, List.range_succ_eq_map, List.zip_cons_cons, List.filter_cons, List.filter_cons, List.filter_map]
      have e : (List.filter ((fun i => (b :: s).getD i false) ∘ Nat.succ) (List.range r.length)) = (List.range r.length).filter fun i => s.getD i false := rfl
      have ih' := ih s hl
      rw [e]
      cases b with
      | true =>
        show List.map (fun i => (a :: r).getD i d) (0 :: List.map Nat.succ ((List.range r.length).filter fun i => s.getD i false)) = a :: ((r.zip s).filter (·.2)).map (·.1)
        rw [List.map_cons, List.map_map]
        exact congrArg (a :: ·) ih'
      | false =>
        show List.map (fun i => (a :: r).getD i d) (List.map Nat.succ ((List.range r.length).filter fun i => s.getD i false)) = ((r.zip s).filter (·.2)).map (·.1)
        rw [List.map_map]
        exact ih'
end
section
variable {P : Program} {w : World} {K : PySem.W.Frag} {mg : Str → Option Value} {base : Heap}
def spMark (K : PySem.W.Frag) (T : List (Addr × Str)) : Sp := fun vs H Q _ => ∃ (c : Cfg) (x dx l : Addr) (ad : Int → Addr) (st : Stt) (a : Addr) (pic : Pic) (count : Int), vs = [.ref x, .ref a, .int count] ∧ Sh K T c x dx l ad st H ∧ PicR K H a pic ∧ 0 < c.span ∧ c.span < 2 ^ 60 ∧
  ∀ H' r, Sh K T c x dx l ad { st with spots := (markBy c st.spots pic count).2 } H' → Stp x l ad st.spots H l ad (markBy c st.spots pic count).2 H' → H' r = some (.tup ((markBy c st.spots pic count).1.map wv)) → Q (.ref r) H'
theorem ok_mark {T0 : List (Addr × Str)} (T : Fx K mg) (F : MF K (cSh K) "mark_by" "Shelf.mark_by" sShelf_mark_by ["self", "picture", "count"]) (m_long_named : Met P w K mg base 2 (cSh K) "long_named" (spLong K T0) []) (m_short_named : Met P w K mg base 1 (cSh K) "short_named" (spShort K T0) []) : Met P w K mg base 3 (cSh K) "mark_by" (spMark K T0) [] := by
  refine F.met T.cShelf scShelf_mark_by (fun vs H Q E h => ?_) (fun f cdv A outer s H vs Q E hr h => ?_)
  · obtain ⟨_, _, _, _, _, _, _, _, _, rfl, _⟩ := h
    rfl
  obtain ⟨c, x, dx, l, ad, st, a, pic, count, rfl, S, hP, hs0, hs1, k⟩ := h
  have nd := scShelf_mark_by.nd
  have hu64 := hu64_of hr
  let LO : List (Option Int) := pic.longs.map fun n => (longN c st.spots count n).map Spt.p
  let SO : List (Option Int) := pic.shorts.map fun n => (shortN st.spots count LO n).map Spt.p
  have hLO : ∀ o ∈ LO, ∀ p, o = some p → ∃ u ∈ st.spots, u.p = p := fun o ho p e => by
    obtain ⟨n, hn, rfl⟩ := List.mem_map.mp ho
    cases h : longN c st.spots count n with
    | none => rw [h] at e; cases e
    | some t => rw [h] at e; exact ⟨t, longN_mem h, Option.some.inj e⟩
  have hSO : ∀ o ∈ SO, ∀ p, o = some p → ∃ u ∈ st.spots, u.p = p := fun o ho p e => by
    obtain ⟨n, hn, rfl⟩ := List.mem_map.mp ho
    cases h : shortN st.spots count LO n with
    | none => rw [h] at e; cases e
    | some t => rw [h] at e; exact ⟨t, shortN_mem h, Option.some.inj e⟩
  have hP0 := hP
  obtain ⟨ps, pl, vs, ws, g1, g2, g3, g4, g5, g6, g7⟩ := hP0
  have lz : ∀ {n : Nat}, n ≤ 100 → n < sizeLine := fun h => Nat.lt_of_le_of_lt h (by decide)
  refine ⟨_, (pss_cons (ps_set (i := 3) nd rfl (Or.inr rfl) (pe_lc (own := [("name", 7)]) (g := (gName 7)) (tt := tYes) (te := (tMeth _ "long_named" _ _ E0 (tVar 0) (tCons (tVar 7) (tCons (tVar 2) tNil)))) rfl nd (pi_tup (pe_ix ix_tup (pv 1) pe_int (fun _ _ => rfl))) (blkOk_by (N := ["self", "picture", "count", "longs", "shorts", "spot", "used", "name"]) (sc := defScope sShelf_mark_by) (by decide +kernel)) (fun _ _ _ _ _ => (pg_name (i := 7) nd rfl (by first | exact .inl rfl | exact .inr rfl))) (fun _ _ _ _ _ => pts_nil) (fun _ _ _ _ _ => (pe_mt m_long_named hr (by first | decide | omega) (pv 0) (pa_cons (pv 7) (pa_cons (pv 2) pa_nil))))))
  (pss_cons (ps_setLc (i := 4) (own := [("name", 7)]) (g := (gName 7)) (tt := tYes) (te := (tMeth _ "short_named" _ _ E0 (tVar 0) (tCons (tVar 7) (tCons (tVar 2) (tCons (tVar 3) tNil))))) rfl nd rfl rfl (sw_true rfl rfl rfl (by decide +kernel)) (pi_tup (pe_ix ix_tup (pv 1) pe_int (fun _ _ => rfl))) (blkOk_by (N := ["self", "picture", "count", "longs", "shorts", "spot", "used", "name"]) (sc := defScope sShelf_mark_by) (by decide +kernel)) (fun _ _ _ _ _ => (pg_name (i := 7) nd rfl (by first | exact .inl rfl | exact .inr rfl))) (fun _ _ _ _ _ => pts_nil) (fun _ _ _ _ _ => (pe_mt m_short_named hr (by first | decide | omega) (pv 0) (pa_cons (pv 7) (pa_cons (pv 2) (pa_cons (pv 3) pa_nil))))))
  (pss_cons (ps_for PassesOwn.never rfl (pi_list (pe_fld (pv 0) rfl)) (pg_name (i := 5) nd rfl (by first | exact .inl rfl | exact .inr rfl)) (pss_one (ps_fld (pv 5) (pe_ifExp (pt_cmpR (op_inR hu64) (pv 5) (pv 3) (by with_unfolding_all rfl)) (pe_gs T.g_LONG (by rfl)) (pe_ifExp (pt_cmpR (op_inR hu64) (pv 5) (pv 4) (by with_unfolding_all rfl)) (pe_gs T.g_SHORT (by rfl)) (pe_gs T.g_BARE (by rfl)))) rfl)))
  (pss_cons (ps_setLc (i := 6) (own := [("spot", 5), ("name", 7)]) (g := (gTup K 2 (gCons (gName 5) (gCons (gName 7) gNil)))) (tt := (tB (tOp (rIxT K) (tVar 7) (tUn _ _)))) (te := (tVar 5)) rfl nd rfl rfl (sw_true rfl rfl rfl (by decide +kernel)) (pi_zipM (by rfl) T.n_zip (pa_cons (pe_op op_cat (pv 4) (pv 3)) (pa_cons (pe_op op_catA (pe_ix ix_tup (pv 1) pe_int (fun _ _ => rfl)) (pe_ix ix_tup (pv 1) pe_int (fun _ _ => rfl))) pa_nil))) (blkOk_by (N := ["self", "picture", "count", "longs", "shorts", "spot", "used", "name"]) (sc := defScope sShelf_mark_by) (by decide +kernel)) (fun _ _ _ _ _ => (pg_tup rfl (pgs_cons (pg_name (i := 5) nd rfl (by first | exact .inl rfl | exact .inr rfl)) (pgs_cons (pg_name (i := 7) nd rfl (by first | exact .inl rfl | exact .inr rfl)) pgs_nil)))) (fun _ _ _ _ _ => (pts_one (pt_val (pe_ix ix_tup (pv 7) (pe_un un_neg pe_int) (fun _ _ => rfl))))) (fun _ _ _ _ _ => (pv 5)))
  (pss_one (ps_ret (pe_callTy call_tuple_of (by rfl) T.n_tuple boot_tuple (pa_cons (pe_lc (own := [("spot", 5)]) (g := (gName 5)) (tt := tYes) (te := (tIf (tB (tIsN (tVar 5))) (tC .non) (tFld K (tVar 5) "place"))) rfl nd (pi_list (pv 6)) (blkOk_by (N := ["self", "picture", "count", "longs", "shorts", "spot", "used", "name"]) (sc := defScope sShelf_mark_by) (by decide +kernel)) (fun _ _ _ _ _ => (pg_name (i := 5) nd rfl (by first | exact .inl rfl | exact .inr rfl))) (fun _ _ _ _ _ => pts_nil) (fun _ _ _ _ _ => (pe_ifExp (pt_cmp (pc_isN (pv 5))) pe_non (pe_fld (pv 5) rfl)))) pa_nil)))))))), ?_⟩
  refine ⟨_, rfl, a, _, 6, _, rfl, rfl, g1, rfl, pl, rfl, ⟨_, g3⟩, fun D hD => ?_⟩
  refine lc_call (T := T0) (fun i => (pic.longs[i]?.map fun n => ov ad (longN c st.spots count n)).getD .non) hD g3 (by rw [g5.1]; exact lz g7) S.tabs (fun i v H1 R hv e t hR => ?_) fun H1 e1 t1 h1 => ?_
  · obtain ⟨n, hn, p, rfl, hp⟩ := g5.get hv
    rw [hn] at hR
    exact ⟨rfl, _, rfl, x, dx, _, rfl, (S.ext e t).obj, rfl, _, rfl, _, rfl, c, x, dx, l, ad, st, p, n, count, rfl, S.ext e t, SqT.extN hp e, hs0, hs1, hR⟩
  rw [g5.1, range_map] at h1
  have S1 := S.ext e1 t1
  have eL : pic.longs.map (fun n => ov ad (longN c st.spots count n)) = (pic.longs.map fun n => longN c st.spots count n).map (ov ad) := by rw [List.map_map]; rfl
  have eL2 : (pic.longs.map fun n => longN c st.spots count n).map (·.map Spt.p) = LO := by rw [List.map_map]; rfl
  have hLm : ∀ o ∈ (pic.longs.map fun n => longN c st.spots count n), ∀ u, o = some u → u ∈ st.spots := fun o ho u e => by
    obtain ⟨n, hn, rfl⟩ := List.mem_map.mp ho
    exact longN_mem e
  rw [eL] at h1
  refine ⟨_, rfl, a, _, 5, _, rfl, rfl, SqT.extN g1 e1, rfl, ps, rfl, ⟨_, SqT.extN g2 e1⟩, fun D2 hD2 => ?_⟩
  refine lc_call (T := T0) (fun i => (pic.shorts[i]?.map fun n => ov ad (shortN st.spots count LO n)).getD .non) hD2 (SqT.extN g2 e1) (by rw [g4.1]; exact lz g6) t1 (fun i v H2 R hv e t hR => ?_) fun H2 e2 t2 h2 => ?_
  · obtain ⟨n, hn, p, rfl, hp⟩ := g4.get hv
    rw [hn] at hR
    refine ⟨rfl, _, rfl, x, dx, _, rfl, (S1.ext e t).obj, rfl, _, rfl, _, rfl, _, rfl, c, x, dx, l, ad, st, p, D, n, count, _, rfl, S1.ext e t, SqT.extN (SqT.extN hp e1) e, e _ _ h1 (fun _ z => by cases z), hLm, fun H' x' => ?_⟩
    rw [eL2]
    exact hR H' (LamX.ExtN.of x') (t.ext x')
  rw [g4.1, range_map] at h2
  have S2 := S1.ext e2 t2
  have e02 := e1.trans e2
  have hDL : H2 D = some (.lst (LO.map (ovp ad))) := by
    rw [e2 _ _ h1 fun _ z => by cases z]
    refine congrArg (fun z => some (HO.lst z)) ?_
    rw [List.map_map, List.map_map]
    exact List.map_congr_left fun n _ => ov_p ad _
  have hDS : H2 D2 = some (.lst (SO.map (ovp ad))) := by
    rw [h2]
    refine congrArg (fun z => some (HO.lst z)) ?_
    rw [List.map_map]
    exact List.map_congr_left fun n _ => ov_p ad _
  have s2 : Stp x l ad st.spots H l ad st.spots H2 := ExtN.stp e02
  have nDl : D ≠ l := (ne_of_none S.lst hD).symm
  have nDl2 : D2 ≠ l := (ne_of_none S1.lst hD2).symm
  -- the marks
  let mk : Nat → List Spt := fun i => (st.spots.take i).map (mkF LO SO) ++ st.spots.drop i
  have mkp : ∀ i, (mk i).map (·.p) = st.spots.map (·.p) := fun i => by
    show ((st.spots.take i).map (mkF LO SO) ++ st.spots.drop i).map (·.p) = _
    rw [List.map_append, List.map_map, show ((fun x : Spt => x.p) ∘ mkF LO SO) = (fun x : Spt => x.p) from rfl, ← List.map_append, List.take_append_drop]
  have inP : ∀ (i : Nat) {p : Int}, (∃ u ∈ st.spots, u.p = p) → ∃ u ∈ mk i, u.p = p := fun i {p} ⟨u, hu, e⟩ => by
    have hm : p ∈ (mk i).map (·.p) := by
      rw [mkp]
      exact List.mem_map.mpr ⟨u, hu, e⟩
    obtain ⟨v, hv, e⟩ := List.mem_map.mp hm
    exact ⟨v, hv, e⟩
  refine ⟨_, rfl, x, _, dx, _, _, rfl, S2.obj, T.cShelf, T.aShelf_spots, rfl, l, rfl, ⟨_, SqL.of S2.lst⟩, ?_⟩
  refine for_list (K := K) (a := l) (xs := rf ad st.spots) (fun i σ H' => ∃ v, σ = [some (.ref x), some (.ref a), some (.int count), some (.ref D), some (.ref D2), v, none, none] ∧ Sh K T0 c x dx l ad { st with spots := mk i } H' ∧ Stp x l ad st.spots H2 l ad (mk i) H' ∧ Stp x l ad st.spots H l ad (mk i) H')
    ⟨none, rfl, S2, Stp.refl, s2⟩ (fun i σ H' _ ⟨_, _, S', _, _⟩ => SqL.of (by rw [S'.lst]; exact congrArg (fun z => some (HO.lst z)) (rf_eq (mkp i)))) ?_ ?_
  · rintro i y σ H' hy ⟨v, rfl, S', s2', s'⟩
    obtain ⟨t, ht, rfl⟩ := rf_get hy
    have hts := mem_at ht
    have htm : t ∈ mk i := by
      refine List.mem_append_right _ ?_
      have hi := (List.getElem?_eq_some_iff.mp ht)
      rw [List.drop_eq_getElem_cons hi.1, hi.2]
      exact List.mem_cons_self ..
    obtain ⟨dt, h3⟩ := S'.spo.at_ t htm
    have hD' := (s2'.out hDL (S2.notOw hDL (by intro _ _ _ z; cases z) nDl (by intro _ z; cases z))).1
    have hDS' := (s2'.out hDS (S2.notOw hDS (by intro _ _ _ z; cases z) nDl2 (by intro _ z; cases z))).1
    have hput : Sh K T0 c x dx l ad { st with spots := mk (i + 1) } (upd H' (ad t.p) (.ins (cSp K) dt (sfs t.c t.p (mkS LO SO t.p) (wv t.w)))) ∧ Stp x l ad st.spots H2 l ad (mk (i + 1)) (upd H' (ad t.p) (.ins (cSp K) dt (sfs t.c t.p (mkS LO SO t.p) (wv t.w)))) ∧ Stp x l ad st.spots H l ad (mk (i + 1)) (upd H' (ad t.p) (.ins (cSp K) dt (sfs t.c t.p (mkS LO SO t.p) (wv t.w)))) := by
      have e := chg_take (mkF_p LO SO) S.spo.nd ht
      have a1 := S'.spot htm h3 (mkF_p LO SO)
      have a2 := s2'.spo (sp' := chg t.p (mkF LO SO) (mk i)) (C' := cSp K) (d' := dt) (f' := fs (mkF LO SO t)) htm h3 (chg_ps (mkF_p LO SO) _)
      have a3 := s'.spo (sp' := chg t.p (mkF LO SO) (mk i)) (C' := cSp K) (d' := dt) (f' := fs (mkF LO SO t)) htm h3 (chg_ps (mkF_p LO SO) _)
      rw [show chg t.p (mkF LO SO) (mk i) = mk (i + 1) from e] at a2 a3
      refine ⟨?_, a2, a3⟩
      rw [← show chg t.p (mkF LO SO) (mk i) = mk (i + 1) from e]
      exact a1
    have m1 : decide (V.ref (ad t.p) ∈ LO.map (ovp ad)) = decide (some t.p ∈ LO) := decide_eq_decide.mpr (mem_ovp htm (fun o ho p e => inP i (hLO o ho p e)) S'.spo.inj)
    have m2 : decide (V.ref (ad t.p) ∈ SO.map (ovp ad)) = decide (some t.p ∈ SO) := decide_eq_decide.mpr (mem_ovp htm (fun o ho p e => inP i (hSO o ho p e)) S'.spo.inj)
    refine ⟨_, rfl, _, rfl, cSp K, ad t.p, dt, _, D, _, rfl, h3, rfl, SqL.of hD', ni_ovp S'.spo (fun o ho p e => inP i (hLO o ho p e)), T.eqS, _, rfl, ?_⟩
    rw [if_neg (by decide), m1]
    refine ite2 (fun hb => ?_) (fun hb => ?_)
    · refine ⟨_, rfl, _, _, dt, _, rfl, h3, T.cSpot, T.aSpot_mark, len5 (by show 4 ≤ 20; decide), ?_⟩
      rw [sput_m]
      have em : mkS LO SO t.p = "long" := if_pos (of_decide_eq_true hb)
      rw [em] at hput
      exact ⟨_, rfl, hput⟩
    · have hb' : ¬ some t.p ∈ LO := fun z => hb (decide_eq_true z)
      refine ⟨_, rfl, _, rfl, cSp K, ad t.p, dt, _, D2, _, rfl, h3, rfl, SqL.of hDS', ni_ovp S'.spo (fun o ho p e => inP i (hSO o ho p e)), T.eqS, _, rfl, ?_⟩
      rw [if_neg (by decide), m2]
      refine ite2 (fun hc => ?_) (fun hc => ?_)
      · refine ⟨_, rfl, _, _, dt, _, rfl, h3, T.cSpot, T.aSpot_mark, len5 (by show 4 ≤ 20; decide), ?_⟩
        rw [sput_m]
        have em : mkS LO SO t.p = "short" := (if_neg hb').trans (if_pos (of_decide_eq_true hc))
        rw [em] at hput
        exact ⟨_, rfl, hput⟩
      · refine ⟨_, rfl, _, _, dt, _, rfl, h3, T.cSpot, T.aSpot_mark, len5 (by show 4 ≤ 20; decide), ?_⟩
        rw [sput_m]
        have em : mkS LO SO t.p = "" := (if_neg hb').trans (if_neg fun z => hc (decide_eq_true z))
        rw [em] at hput
        exact ⟨_, rfl, hput⟩
  rintro σ H3 ⟨v, rfl, S3, s23, s3⟩
  rw [show (rf ad st.spots).length = st.spots.length from rf_len] at S3 s23 s3
  have emk : mk st.spots.length = (markBy c st.spots pic count).2 := by
    show (st.spots.take st.spots.length).map (mkF LO SO) ++ st.spots.drop st.spots.length = _
    rw [List.take_length, List.drop_length, List.append_nil]
    rfl
  rw [emk] at S3 s23 s3
  have hD3 := (s23.out hDL (S2.notOw hDL (by intro _ _ _ z; cases z) nDl (by intro _ z; cases z))).1
  have hDS3 := (s23.out hDS (S2.notOw hDS (by intro _ _ _ z; cases z) nDl2 (by intro _ z; cases z))).1
  have hP3 := hP.fr s3.fr
  obtain ⟨ps', pl', vs', ws', q1, q2, q3, q4, q5, q6, q7⟩ := hP3
  have lLO : LO.length = pic.longs.length := List.length_map ..
  have lSO : SO.length = pic.shorts.length := List.length_map ..
  refine ⟨_, rfl, _, rfl, D2, D, _, _, rfl, rfl, hDS3, hD3, ?_, fun D3 hD3' => ?_⟩
  · rw [show (SO.map (ovp ad)).length = pic.shorts.length from (List.length_map ..).trans lSO, show (LO.map (ovp ad)).length = pic.longs.length from (List.length_map ..).trans lLO]
    exact Nat.le_trans (Nat.add_le_add q6 q7) (by decide)
  have S4 := S3.new (o := .lst (SO.map (ovp ad) ++ LO.map (ovp ad))) hD3'
  have x34 : Same H3 (upd H3 D3 (.lst (SO.map (ovp ad) ++ LO.map (ovp ad)))) := fun b o h => upd_keep h hD3'
  have y1 := SqT.extN q1 (LamX.ExtN.of x34)
  refine ⟨_, rfl, a, _, 5, _, rfl, rfl, y1, rfl, _, rfl, a, _, 6, _, rfl, rfl, y1, rfl, catA_of (SqT.extN q2 (LamX.ExtN.of x34)) (SqT.extN q3 (LamX.ExtN.of x34)) ?_ fun r H5 x5 hr5 => ?_⟩
  · rw [q4.1, q5.1]
    exact Nat.le_trans (Nat.add_le_add q6 q7) (by decide)
  have x35 : Same H3 H5 := fun b o h => x5 b o (x34 b o h)
  have h5 := x5 _ _ (upd_same (H := H3) (a := D3) (o := .lst (SO.map (ovp ad) ++ LO.map (ovp ad))))
  let fl : List Bool := pic.shorts.map (·.2) ++ pic.longs.map (·.2.2)
  let os : List (Option Int) := SO ++ LO
  have eos : SO.map (ovp ad) ++ LO.map (ovp ad) = os.map (ovp ad) := List.map_append.symm
  have lfl : os.length = fl.length := by
    show (SO ++ LO).length = (pic.shorts.map (·.2) ++ pic.longs.map (·.2.2)).length
    rw [List.length_append, List.length_append, lLO, lSO, List.length_map, List.length_map]
  have lvw : (os.map (ovp ad)).length = (vs' ++ ws').length := by
    rw [show (os.map (ovp ad)).length = os.length from List.length_map .., show (vs' ++ ws').length = pic.shorts.length + pic.longs.length by rw [List.length_append, q4.1, q5.1]]
    show (SO ++ LO).length = _
    rw [List.length_append, lLO, lSO]
  have hFl : All2 (fun v b => ∃ p xs, v = V.ref p ∧ SqT K H3 p xs ∧ atI xs (-1) = some (V.bl b)) (vs' ++ ws') fl := by
    refine All2.append ⟨by rw [q4.1, List.length_map], fun i v b hv hb => ?_⟩ ⟨by rw [q5.1, List.length_map], fun i v b hv hb => ?_⟩
    · rw [List.getElem?_map] at hb
      cases hn : pic.shorts[i]? with
      | none => rw [hn] at hb; cases hb
      | some n =>
        rw [hn] at hb
        cases hb
        obtain ⟨p, rfl, hp⟩ := q4.2 i v n hv hn
        exact ⟨p, _, rfl, hp, rfl⟩
    · rw [List.getElem?_map] at hb
      cases hn : pic.longs[i]? with
      | none => rw [hn] at hb; cases hb
      | some n =>
        rw [hn] at hb
        cases hb
        obtain ⟨p, rfl, hp⟩ := q5.2 i v n hv hn
        exact ⟨p, _, rfl, hp, rfl⟩
  rw [eos] at h5
  have losz : os.length ≤ 200 := by
    show (SO ++ LO).length ≤ 200
    rw [List.length_append, lLO, lSO]
    omega
  refine ⟨D3, r, _, _, rfl, SqL.of h5, hr5, fun D4 hD4 => ?_⟩
  refine lc_zm hD4 lvw (by rw [List.length_map]; exact Nat.lt_of_le_of_lt losz (by decide)) h5 hr5 (fun i => fl.getD i false) (fun i xv yv H6 t R acc hx hy x6 ht hDa hz r1 r2 => ?_) fun H6 x6 h6 => ?_
  · obtain ⟨b, hb, p, xs, rfl, hp, hl⟩ := hFl.get hy
    have hp6 : SqT K H6 p xs := SqT.extN hp (LamX.ExtN.of fun b o h => x6 b o (x35 b o h))
    have efl : fl.getD i false = b := by rw [List.getD_eq_getElem?_getD, hb]; rfl
    refine ⟨t, _, rfl, SqT.of ht, rfl, _, _, rfl, _, _, rfl, rfl, rfl, _, rfl, _, rfl, p, _, -1, _, rfl, rfl, hp6, hl, b, rfl, ?_⟩
    rw [efl] at r1 r2
    cases b with
    | true => exact ⟨_, rfl, acc, hDa, hz, r1 rfl⟩
    | false => exact r2 rfl
  rw [List.length_map] at h6
  have eU : ((List.range os.length).filter fun i => fl.getD i false).map (fun i => (os.map (ovp ad)).getD i .non) = (markBy c st.spots pic count).1.map (ovp ad) := by
    have z := zip_filter os fl none lfl
    have z2 : (markBy c st.spots pic count).1 = ((os.zip fl).filter (·.2)).map (·.1) := rfl
    rw [z2, ← z, List.map_map]
    refine List.map_congr_left fun i _ => ?_
    show (os.map (ovp ad)).getD i (ovp ad none) = ovp ad (os.getD i none)
    rw [List.getD_eq_getElem?_getD, List.getD_eq_getElem?_getD, List.getElem?_map]
    cases os[i]? <;> rfl
  rw [eU] at h6
  have x36 : Same H3 H6 := fun b o h => x6 b o (x35 b o h)
  have S6 := S3.ext (LamX.ExtN.of x36) (S3.tabs.ext x36)
  have hus : ∀ o ∈ (markBy c st.spots pic count).1, ∀ p, o = some p → ∃ u ∈ (markBy c st.spots pic count).2, u.p = p := fun o ho p e => by
    have hos : o ∈ os := by
      obtain ⟨z, hz, rfl⟩ := List.mem_map.mp ho
      exact (List.of_mem_zip (List.mem_filter.mp hz).1).1
    rw [← emk]
    refine inP _ ?_
    rcases List.mem_append.mp hos with h | h
    · exact hSO o h p e
    · exact hLO o h p e
  have lus : (markBy c st.spots pic count).1.length ≤ 200 := by
    show (((os.zip fl).filter (·.2)).map (·.1)).length ≤ 200
    rw [List.length_map]
    refine Nat.le_trans (List.length_filter_le ..) ?_
    rw [List.length_zip]
    omega
  refine ⟨_, rfl, D4, rfl, ⟨_, SqL.of h6⟩, fun D5 hD5 => ?_⟩
  refine lc_fm (zs := (markBy c st.spots pic count).1) (r := ovp ad) (F := fun o => some (wv o)) hD5 h6 (Nat.lt_of_le_of_lt lus (by decide)) (fun i o acc R ho h1 h2 hz => ?_) ?_
  · refine ⟨rfl, _, rfl, _, rfl, ?_⟩
    cases o with
    | none =>
      refine ⟨acc, upd_same, hz, ?_⟩
      rw [upd2]
      exact h1 _ rfl
    | some p =>
      obtain ⟨u, hu, rfl⟩ := hus _ (mem_at ho) p rfl
      obtain ⟨dt, h3⟩ := S6.spo.at_ u hu
      refine ⟨_, rfl, _, _, dt, _, _, rfl, upd_keep h3 hD5, T.cSpot, T.aSpot_place, rfl, acc, upd_same, hz, ?_⟩
      rw [upd2]
      exact h1 _ rfl
  · rw [show (markBy c st.spots pic count).1.filterMap (fun o => some (wv o)) = (markBy c st.spots pic count).1.map wv from List.filterMap_eq_map ▸ rfl]
    refine ⟨D5, _, rfl, .inl ⟨SqL.of upd_same, fun r' hr' => ?_⟩⟩
    have xF : Same H3 (upd (upd H6 D5 (.lst ((markBy c st.spots pic count).1.map wv))) r' (.tup ((markBy c st.spots pic count).1.map wv))) := fun b o h => upd_keep (upd_keep (x36 b o h) hD5) hr'
    exact k _ r' (S3.ext (LamX.ExtN.of xF) (S3.tabs.ext xF)) (s3.trans (ExtN.stp (LamX.ExtN.of xF))) upd_same
end

end L2.K13
set_option Elab.async false
set_option linter.all false
set_option maxRecDepth 100000
set_option maxHeartbeats 4000000
set_option pp.maxSteps 150
namespace L2.K13
open PySem PySem.Spec PyProof.Rows L2
open C8 (Cal Met Mak pe_c pe_mt pe_mt0 pe_mk)
local macro_rules | `(tactic| walk_at "hp") => `(tactic| first | assumption | exact upd_same | (refine upd_keep ?_ (by assumption); walk_at "hp") | (refine upd_off ?_ (by assumption) (by intro z; cases z); walk_at "hp"))
local macro_rules | `(tactic| walk_at "seq") => `(tactic| first | assumption | exact SqT.of (by walk_at "hp") | exact SqL.of (by walk_at "hp"))
section
/-- tuples of tuples of .. ints, bools, texts, None *-/
def TO : Nat → PyData → Prop
  | _, .none => True
  | _, .bool _ => True
  | _, .int _ => True
  | _, .str s => PyData.canLay0 (.str s) = true
  | n + 1, .tuple xs => xs.length ≤ 1000 ∧ ∀ x ∈ xs, TO n x
  | _, _ => False
theorem TO.succ : ∀ {n : Nat} {d : PyData}, TO n d → TO (n + 1) d
  | _, .none, _ => trivial
  | _, .bool _, _ => trivial
  | _, .int _, _ => trivial
  | 0, .str _, h => h
  | _ + 1, .str _, h => h
  | 0, .tuple _, h => h.elim
  | n + 1, .tuple xs, h => ⟨h.1, fun x hx => TO.succ (h.2 x hx)⟩
  | 0, .list _, h => h.elim
  | _ + 1, .list _, h => h.elim
  | 0, .dict _, h => h.elim
  | _ + 1, .dict _, h => h.elim
theorem TO.le {n m : Nat} {d : PyData} (h : TO n d) (hm : n ≤ m) : TO m d := by
  induction hm with
  | refl => exact h
  | step _ ih => exact ih.succ
theorem depthAll_le : ∀ {xs : List PyData} {n : Nat}, (∀ x ∈ xs, x.depth ≤ n) → PyData.depthAll xs ≤ n
  | [], _, _ => Nat.zero_le _
  | x :: xs, n, h => by
    show max x.depth (PyData.depthAll xs) ≤ n
    exact Nat.max_le.mpr ⟨h x (List.mem_cons_self ..), depthAll_le fun y hy => h y (List.mem_cons_of_mem _ hy)⟩
theorem TO.depth : ∀ {n : Nat} {d : PyData}, TO n d → d.depth ≤ n + 1
  | _, .none, _ => Nat.le_add_left _ _
  | _, .bool _, _ => Nat.le_add_left _ _
  | _, .int _, _ => Nat.le_add_left _ _
  | 0, .str _, _ => Nat.le_add_left _ _
  | _ + 1, .str _, _ => Nat.le_add_left _ _
  | 0, .tuple _, h => h.elim
  | n + 1, .tuple xs, h => Nat.succ_le_succ (depthAll_le fun x hx => TO.depth (h.2 x hx))
  | 0, .list _, h => h.elim
  | _ + 1, .list _, h => h.elim
  | 0, .dict _, h => h.elim
  | _ + 1, .dict _, h => h.elim
theorem canLayAll : ∀ {xs : List PyData}, (∀ x ∈ xs, x.canLay0 = true) → PyData.canLayAll0 xs = true
  | [], _ => rfl
  | x :: xs, h => by
    show (x.canLay0 && PyData.canLayAll0 xs) = true
    rw [h x (List.mem_cons_self ..), canLayAll fun y hy => h y (List.mem_cons_of_mem _ hy)]
    rfl
theorem TO.lay : ∀ {n : Nat} {d : PyData}, TO n d → d.canLay0 = true
  | _, .none, _ => rfl
  | _, .bool _, _ => rfl
  | _, .int _, _ => rfl
  | 0, .str _, h => h
  | _ + 1, .str _, h => h
  | 0, .tuple _, h => h.elim
  | n + 1, .tuple xs, h => canLayAll fun x hx => TO.lay (h.2 x hx)
  | 0, .list _, h => h.elim
  | _ + 1, .list _, h => h.elim
  | 0, .dict _, h => h.elim
  | _ + 1, .dict _, h => h.elim
theorem TO.shaped {n : Nat} {d : PyData} (h : TO n d) (hn : n ≤ 63) : SeqAt.shaped d = true := by
  unfold SeqAt.shaped
  rw [h.lay, decide_eq_true (Nat.le_trans h.depth (Nat.succ_le_succ hn))]
  rfl
theorem dpAll_2 {K : PySem.W.Frag} {H : Hp} : ∀ {vs : List V} {ds : List PyData}, DpAll K H vs ds → All2 (Dp K H) vs ds
  | _, _, .nil => ⟨rfl, fun i x y h => by simp at h⟩
  | _, _, .cons h t => ⟨congrArg Nat.succ (dpAll_2 t).1, fun i x y hx hy => by
    cases i with
    | zero =>
      simp only [List.getElem?_cons_zero, Option.some.injEq] at hx hy
      rw [← hx, ← hy]
      exact h
    | succ i =>
      simp only [List.getElem?_cons_succ] at hx hy
      exact (dpAll_2 t).2 i x y hx hy⟩
theorem dpAll_of {K : PySem.W.Frag} {H : Hp} : ∀ {vs : List V} {ds : List PyData}, All2 (Dp K H) vs ds → DpAll K H vs ds
  | [], [], _ => .nil
  | v :: vs, d :: ds, h => .cons (h.2 0 v d rfl rfl) (dpAll_of ⟨Nat.succ.inj h.1, fun i x y hx hy => h.2 (i + 1) x y hx hy⟩)
  | [], _ :: _, h => absurd h.1 (by simp)
  | _ :: _, [], h => absurd h.1 (by simp)
theorem All2.mem {α β : Type} {R : α → β → Prop} {xs : List α} {ys : List β} (h : All2 R xs ys) {i : Nat} {x : α} {y : β} (hy : ys[i]? = some y) : y ∈ ys := List.mem_of_getElem? hy
/-- such data stay -/
theorem Dp.to {K : PySem.W.Frag} {H H' : Hp} (f : ∀ b xs, SqT K H b xs → SqT K H' b xs) : ∀ {n : Nat} {d : PyData} {v : V}, TO n d → Dp K H v d → Dp K H' v d
  | _, .none, _, _, h => by cases h; exact .non
  | _, .bool _, _, _, h => by cases h; exact .bl _
  | _, .int _, _, _, h => by cases h; exact .int _
  | _, .str _, _, _, h => by cases h; exact .str _
  | 0, .tuple _, _, t, _ => t.elim
  | n + 1, .tuple xs, _, t, h => by
    cases h with
    | tup hs ha =>
      have a2 := dpAll_2 ha
      exact .tup (f _ _ hs) (dpAll_of ⟨a2.1, fun i x y hx hy => Dp.to f (t.2 y (List.mem_of_getElem? hy)) (a2.2 i x y hx hy)⟩)
  | 0, .list _, _, t, _ => t.elim
  | _ + 1, .list _, _, t, _ => t.elim
  | 0, .dict _, _, t, _ => t.elim
  | _ + 1, .dict _, _, t, _ => t.elim
theorem Dp.ext {K : PySem.W.Frag} {H H' : Hp} {n : Nat} {d : PyData} {v : V} (t : TO n d) (h : Dp K H v d) (f : LamX.ExtN H H') : Dp K H' v d := Dp.to (fun _ _ h => SqT.extN h f) t h
theorem Dp.fr {K : PySem.W.Frag} {S : Addr → Prop} {H H' : Hp} {n : Nat} {d : PyData} {v : V} (t : TO n d) (h : Dp K H v d) (f : Fr S H H') : Dp K H' v d := Dp.to (fun _ _ h => SqT.fr h f) t h
theorem tyT {K : PySem.W.Frag} {H : Hp} {a : Addr} {xs : List V} (h : SqT K H a xs) : TyX K H (.ref a) (.type "tuple") := by
  rcases h with (h | ⟨o, h⟩) | ⟨o, its, n, e, c, _⟩
  · exact .base (.tup h)
  · exact .fTuple h
  · exact .kTuple e c
end
section
variable {P : Program} {w : World} {K : PySem.W.Frag} {mg : Str → Option Value} {base : Heap}
/-! ### as_tuples -/
def spAs (K : PySem.W.Frag) (n : Nat) : Sp := fun vs H Q _ => ∃ (v : V) (d : PyData), vs = [v] ∧ Dp K H v d ∧ TO n d ∧ ∀ H' v', Same H H' → Dp K H' v' d → Q v' H'
theorem kit_tup {K : PySem.W.Frag} : PySem.W.kitAny K (.type "tuple") [.type "list", .type "tuple"] = some true :=
  kitAny_cons (b := false) (kit_ty (by decide +kernel)) (fun _ => kitAny_cons (b := true) (kit_ty (by decide +kernel)) (fun h => by cases h) fun _ => rfl) fun h => by cases h
theorem kit_no {K : PySem.W.Frag} {t : String} (h1 : kitB t "list" = some false) (h2 : kitB t "tuple" = some false) : PySem.W.kitAny K (.type t) [.type "list", .type "tuple"] = some false :=
  kitAny_cons (b := false) (kit_ty h1) (fun _ => kitAny_cons (b := false) (kit_ty h2) (fun _ => rfl) fun h => by cases h) fun h => by cases h
theorem as_step {n k : Nat} {sp : Sp} (T : Fx K mg) (F : DF K mg "as_tuples" s_as_tuples ["thing"]) (hsp : ∀ m, n = m + 1 → ∀ vs H Q E, spAs K m vs H Q E → sp vs H Q E) (c_as_tuples : Cal P w K mg base k "as_tuples" sp []) : Cal P w K mg base (k + 1) "as_tuples" (spAs K n) [] := by
  refine F.cal sc_as_tuples (fun vs H Q E h => ?_) (fun f cdv A outer s H vs Q E hr h => ?_)
  · obtain ⟨_, _, rfl, _⟩ := h
    rfl
  obtain ⟨v, d, rfl, hd, ht, kq⟩ := h
  have nd := sc_as_tuples.nd
  refine ⟨_, (pss_one (ps_ret (pe_ifExp (pt_val (pe_callB call_isiT (by rfl) T.n_isinstance boot_isinstance (pa_cons (pv 0) (pa_cons (pe_tup (pa_cons (pe_bltn (v := .ty "list") (by rfl) T.n_list boot_list rfl) (pa_cons (pe_bltn (v := .ty "tuple") (by rfl) T.n_tuple boot_tuple rfl) pa_nil))) pa_nil)))) (pe_callTy call_tuple_of (by rfl) T.n_tuple boot_tuple (pa_cons (pe_lc (own := [("part", 1)]) (g := (gName 1)) (tt := tYes) (te := (tCall _ _ E0 (tCons (tVar 1) tNil))) rfl nd (pi_tup (pv 0)) (blkOk_by (N := ["thing", "part"]) (sc := defScope s_as_tuples) (by decide +kernel)) (fun _ _ _ _ _ => (pg_name (i := 1) nd rfl (by first | exact .inl rfl | exact .inr rfl))) (fun _ _ _ _ _ => pts_nil) (fun _ _ _ _ _ => (pe_c c_as_tuples hr (by first | decide | omega) (by rfl) (pa_cons (pv 1) pa_nil)))) pa_nil)) (pv 0)))), ?_⟩
  refine ⟨_, rfl, by show 2 ≤ sizeLine; decide, fun q hq => ?_⟩
  have x1 : Same H (upd H q (.tup [.ty "list", .ty "tuple"])) := fun b o h => upd_keep h hq
  have hd1 := Dp.ext ht hd (LamX.ExtN.of x1)
  have no : ∀ (t : String), TyX K (upd H q (.tup [.ty "list", .ty "tuple"])) v (.type t) → kitB t "list" = some false → kitB t "tuple" = some false → ∃ (x : V) (tp : Addr) (cs : List V) (t : Value) (us : List Value) (b : Bool), [v, .ref q] = [x, .ref tp] ∧ (upd H q (.tup [.ty "list", .ty "tuple"])) tp = some (.tup cs) ∧ Paired ClsV cs us ∧ TyX K (upd H q (.tup [.ty "list", .ty "tuple"])) x t ∧ PySem.W.kitAny K t us = some b ∧ (b = false) := fun t ty h1 h2 =>
    ⟨v, q, _, _, _, false, rfl, upd_same, .cons (.ty _) (.cons (.ty _) .nil), ty, kit_no h1 h2, rfl⟩
  have leaf : ∀ (t : String), TyX K (upd H q (.tup [.ty "list", .ty "tuple"])) v (.type t) → kitB t "list" = some false → kitB t "tuple" = some false → Q v (upd H q (.tup [.ty "list", .ty "tuple"])) := fun t ty h1 h2 => kq _ v x1 hd1
  cases d with
  | none =>
    cases hd
    exact ⟨.non, q, _, _, _, false, rfl, upd_same, .cons (.ty _) (.cons (.ty _) .nil), .base .non, kit_no (by decide +kernel) (by decide +kernel), _, rfl, ifF rfl ⟨_, rfl, kq _ _ x1 hd1⟩⟩
  | bool b =>
    cases hd
    exact ⟨.bl b, q, _, _, _, false, rfl, upd_same, .cons (.ty _) (.cons (.ty _) .nil), .base (.bl b), kit_no (by decide +kernel) (by decide +kernel), _, rfl, ifF rfl ⟨_, rfl, kq _ _ x1 hd1⟩⟩
  | int i =>
    cases hd
    exact ⟨.int i, q, _, _, _, false, rfl, upd_same, .cons (.ty _) (.cons (.ty _) .nil), .base (.int i), kit_no (by decide +kernel) (by decide +kernel), _, rfl, ifF rfl ⟨_, rfl, kq _ _ x1 hd1⟩⟩
  | str z =>
    cases hd
    exact ⟨.str z, q, _, _, _, false, rfl, upd_same, .cons (.ty _) (.cons (.ty _) .nil), .base (.str z), kit_no (by decide +kernel) (by decide +kernel), _, rfl, ifF rfl ⟨_, rfl, kq _ _ x1 hd1⟩⟩
  | list xs => cases n <;> exact ht.elim
  | dict xs => cases n <;> exact ht.elim
  | tuple ds =>
    cases n with
    | zero => exact ht.elim
    | succ m =>
      cases hd1 with
      | @tup a xs _ hs ha =>
        have a2 := dpAll_2 ha
        obtain ⟨hlen, ht⟩ := ht
        refine ⟨.ref a, q, _, _, _, true, rfl, upd_same, .cons (.ty _) (.cons (.ty _) .nil), tyT hs, kit_tup, _, rfl, ifT rfl ?_⟩
        refine ⟨_, rfl, a, rfl, ⟨_, hs⟩, fun D hD => ?_⟩
        refine lc_tup (xs := xs) (fun i H' => ∃ acc, Same (upd H q (.tup [.ty "list", .ty "tuple"])) H' ∧ H' D = some (.lst acc) ∧ All2 (Dp K H') acc (ds.take i)) ⟨[], fun b o h => upd_keep h hD, upd_same, rfl, fun i x y h => by simp at h⟩ (fun i H' _ ⟨acc, e, _, _⟩ => SqT.extN hs (LamX.ExtN.of e)) (fun i x H' hi ⟨acc, e, hD', hA⟩ => ?_) fun H' ⟨acc, e, hD', hA⟩ => ?_
        · obtain ⟨d, hdi, hdx⟩ := a2.get hi
          have hTd : TO m d := ht d (List.mem_of_getElem? hdi)
          refine ⟨rfl, _, rfl, hsp m rfl _ _ _ _ ⟨x, d, rfl, Dp.ext hTd hdx (LamX.ExtN.of e), hTd, fun H2 v' e2 hv' => ?_⟩⟩
          have eh := e2 _ _ hD'
          have sm : Same H' (upd H2 D (.lst (acc ++ [v']))) → True := fun _ => trivial
          have x3 : LamX.ExtN (upd H q (.tup [.ty "list", .ty "tuple"])) (upd H2 D (.lst (acc ++ [v']))) := ext_at (LamX.ExtN.of fun b o h => e2 b o (e b o h)) hD
          refine ⟨acc, eh, ?_, acc ++ [v'], fun b o h => ?_, upd_same, ?_⟩
          · have := hA.1
            rw [List.length_take] at this
            have hl := (List.getElem?_eq_some_iff.mp hi).1
            have hl2 := a2.1
            rw [this]
            exact Nat.lt_of_le_of_lt (Nat.le_trans (Nat.min_le_right _ _) hlen) (by decide)
          · rw [upd_ne (ne_of_none h hD)]
            exact e2 b o (e b o h)
          · have et : ds.take (i + 1) = ds.take i ++ [d] := by
              rw [List.take_add_one, hdi]
              rfl
            rw [et]
            have toD : ∀ {w : V} {z : PyData}, TO m z → Dp K H' w z → Dp K (upd H2 D (.lst (acc ++ [v']))) w z := fun tz hz => Dp.to (fun b ys h => by
              rcases h with (h | ⟨o, h⟩) | h
              · exact .inl (.inl (upd_off (e2 _ _ h) eh (by intro z; cases z)))
              · exact .inl (.inr ⟨o, upd_off (e2 _ _ h) eh (by intro z; cases z)⟩)
              · exact .inr h) tz hz
            have toD2 : ∀ {w : V} {z : PyData}, TO m z → Dp K H2 w z → Dp K (upd H2 D (.lst (acc ++ [v']))) w z := fun tz hz => Dp.to (fun b ys h => by
              rcases h with (h | ⟨o, h⟩) | h
              · exact .inl (.inl (upd_off h eh (by intro z; cases z)))
              · exact .inl (.inr ⟨o, upd_off h eh (by intro z; cases z)⟩)
              · exact .inr h) tz hz
            refine All2.append ⟨hA.1, fun j x y hx hy => toD (ht y (List.mem_of_mem_take (List.mem_of_getElem? hy))) (hA.2 j x y hx hy)⟩ ⟨rfl, fun j x y hx hy => ?_⟩
            cases j with
            | zero =>
              simp only [List.getElem?_cons_zero, Option.some.injEq] at hx hy
              rw [← hx, ← hy]
              exact toD2 hTd hv'
            | succ j => simp at hx
        · have hl2 := a2.1
          rw [hl2, List.take_length] at hA
          refine ⟨D, _, rfl, .inl ⟨SqL.of hD', fun r hr => kq _ _ (fun b o h => upd_keep (e _ _ (x1 b o h)) hr) (.tup (SqT.of upd_same) (dpAll_of ⟨hA.1, fun i x y hx hy => Dp.ext (ht y (List.mem_of_getElem? hy)) (hA.2 i x y hx hy) (ext_new hr)⟩))⟩⟩
theorem ok_as (T : Fx K mg) (F : DF K mg "as_tuples" s_as_tuples ["thing"]) : ∀ n : Nat, Cal P w K mg base (n + 2) "as_tuples" (spAs K n) []
  | 0 => as_step T F (fun m e => by cases e) (Cal.none F sc_as_tuples)
  | n + 1 => as_step T F (fun m e vs H Q E h => by cases e; exact h) (ok_as T F n)
end

end L2.K13
set_option Elab.async false
set_option linter.all false
set_option maxRecDepth 100000
set_option maxHeartbeats 4000000
set_option pp.maxSteps 150
namespace L2.K13
open PySem PySem.Spec PyProof.Rows L2
open C8 (Cal Met Mak pe_c pe_mt pe_mt0 pe_mk)
local macro_rules | `(tactic| walk_at "hp") => `(tactic| first | assumption | exact upd_same | (refine upd_keep ?_ (by assumption); walk_at "hp") | (refine upd_off ?_ (by assumption) (by intro z; cases z); walk_at "hp"))
local macro_rules | `(tactic| walk_at "seq") => `(tactic| first | assumption | exact SqT.of (by walk_at "hp") | exact SqL.of (by walk_at "hp"))
section
def encN (n : Int × Bool) : PyData := .tuple [.int n.1, .bool n.2]
def encL (n : Int × Int × Bool) : PyData := .tuple [.int n.1, .int n.2.1, .bool n.2.2]
def encPic (p : Pic) : PyData := .tuple [.str p.kind, .int p.layer, .int p.low, .bool p.kept, .bool p.shown, .tuple (p.shorts.map encN), .tuple (p.longs.map encL), .bool p.hush]
def encThing : Option Pic → PyData
  | none => .tuple [.str "end"]
  | some p => encPic p
def encO : Option Int → PyData
  | none => .none
  | some i => .int i
def encSize (s : Int × Int × Option Int) : PyData := .tuple [.int s.1, .int s.2.1, encO s.2.2]
abbrev Sizes := List (Int × Int × Option Int)
def encSetup (bits : Nat) (sizes : Sizes) : PyData := .tuple [.int bits, .tuple (sizes.map encSize)]
def encStream (ts : List (Option Pic)) : PyData := .tuple (ts.map encThing)
def kinds : List Str := ["clean", "open", "trail", "lead", "skip"]
structure PicOk (p : Pic) : Prop where
  kind : p.kind ∈ kinds
  sh : p.shorts.length ≤ 100
  lo : p.longs.length ≤ 100
  en : isEntry p.kind = true → p.layer = 0 ∧ p.kept = true
def ThingOk : Option Pic → Prop
  | none => True
  | some p => PicOk p
theorem strOk_kinds : ∀ k ∈ kinds, PyData.canLay0 (.str k) = true := by decide +kernel
theorem strOk_end : PyData.canLay0 (.str "end") = true := by decide +kernel
theorem to_encN (n : Int × Bool) : TO 1 (encN n) := ⟨by show 2 ≤ 1000; decide, fun x hx => by
  rcases List.mem_cons.mp hx with rfl | hx
  · trivial
  · rw [List.mem_singleton.mp hx]; trivial⟩
theorem to_encL (n : Int × Int × Bool) : TO 1 (encL n) := ⟨by show 3 ≤ 1000; decide, fun x hx => by
  rcases List.mem_cons.mp hx with rfl | hx
  · trivial
  · rcases List.mem_cons.mp hx with rfl | hx
    · trivial
    · rw [List.mem_singleton.mp hx]; trivial⟩
theorem to_map {α : Type} {n : Nat} {f : α → PyData} {l : List α} (hl : l.length ≤ 1000) (h : ∀ x ∈ l, TO n (f x)) : TO (n + 1) (.tuple (l.map f)) := ⟨by rw [List.length_map]; exact hl, fun x hx => by
  obtain ⟨y, hy, rfl⟩ := List.mem_map.mp hx
  exact h y hy⟩
theorem to_pic {p : Pic} (h : PicOk p) : TO 3 (encPic p) := by
  refine ⟨by show 8 ≤ 1000; decide, fun x hx => ?_⟩
  simp only [List.mem_cons, List.not_mem_nil, or_false] at hx
  rcases hx with rfl | rfl | rfl | rfl | rfl | rfl | rfl | rfl
  · exact strOk_kinds _ h.kind
  · trivial
  · trivial
  · trivial
  · trivial
  · exact to_map (Nat.le_trans h.sh (by decide)) fun n _ => to_encN n
  · exact to_map (Nat.le_trans h.lo (by decide)) fun n _ => to_encL n
  · trivial
theorem to_thing {t : Option Pic} (h : ThingOk t) : TO 3 (encThing t) := by
  cases t with
  | none => exact ⟨by show 1 ≤ 1000; decide, fun x hx => by rw [List.mem_singleton.mp hx]; exact strOk_end⟩
  | some p => exact to_pic h
theorem to_stream {ts : List (Option Pic)} (hl : ts.length ≤ 1000) (h : ∀ t ∈ ts, ThingOk t) : TO 4 (encStream ts) := to_map hl fun t ht => to_thing (h t ht)
theorem to_size (s : Int × Int × Option Int) : TO 1 (encSize s) := by
  refine ⟨by show 3 ≤ 1000; decide, fun x hx => ?_⟩
  simp only [List.mem_cons, List.not_mem_nil, or_false] at hx
  rcases hx with rfl | rfl | rfl
  · trivial
  · trivial
  · cases s.2.2 <;> trivial
theorem to_setup {bits : Nat} {sizes : Sizes} (hl : sizes.length ≤ 1000) : TO 3 (encSetup bits sizes) := by
  refine ⟨by show 2 ≤ 1000; decide, fun x hx => ?_⟩
  simp only [List.mem_cons, List.not_mem_nil, or_false] at hx
  rcases hx with rfl | rfl
  · trivial
  · exact to_map hl fun s _ => to_size s
theorem dp_tup {K : PySem.W.Frag} {H : Hp} {v : V} {ds : List PyData} (h : Dp K H v (.tuple ds)) : ∃ a xs, v = .ref a ∧ SqT K H a xs ∧ All2 (Dp K H) xs ds := by
  cases h with
  | tup hs ha => exact ⟨_, _, rfl, hs, dpAll_2 ha⟩
theorem dp_int {K : PySem.W.Frag} {H : Hp} {v : V} {i : Int} (h : Dp K H v (.int i)) : v = .int i := by cases h; rfl
theorem dp_bool {K : PySem.W.Frag} {H : Hp} {v : V} {i : Bool} (h : Dp K H v (.bool i)) : v = .bl i := by cases h; rfl
theorem dp_str {K : PySem.W.Frag} {H : Hp} {v : V} {i : Str} (h : Dp K H v (.str i)) : v = .str i := by cases h; rfl
theorem dp_o {K : PySem.W.Frag} {H : Hp} {v : V} {o : Option Int} (h : Dp K H v (encO o)) : v = wv o := by
  cases o with
  | none => cases h; rfl
  | some i => cases h; rfl
theorem all2_cons {α β : Type} {R : α → β → Prop} {xs : List α} {y : β} {ys : List β} (h : All2 R xs (y :: ys)) : ∃ x xs', xs = x :: xs' ∧ R x y ∧ All2 R xs' ys := by
  cases xs with
  | nil => exact absurd h.1 (by simp)
  | cons x xs => exact ⟨x, xs, rfl, h.2 0 x y rfl rfl, Nat.succ.inj h.1, fun i a b ha hb => h.2 (i + 1) a b ha hb⟩
theorem all2_nil {α β : Type} {R : α → β → Prop} {xs : List α} (h : All2 R xs ([] : List β)) : xs = [] := List.length_eq_zero_iff.mp h.1
theorem dp_n {K : PySem.W.Frag} {H : Hp} {v : V} {n : Int × Bool} (h : Dp K H v (encN n)) : ShN K H v n := by
  obtain ⟨a, xs, rfl, hs, h⟩ := dp_tup h
  obtain ⟨x, xs, rfl, h1, h⟩ := all2_cons h
  obtain ⟨y, xs, rfl, h2, h⟩ := all2_cons h
  obtain rfl := all2_nil h
  rw [dp_int h1, dp_bool h2] at hs
  exact ⟨a, rfl, hs⟩
theorem dp_l {K : PySem.W.Frag} {H : Hp} {v : V} {n : Int × Int × Bool} (h : Dp K H v (encL n)) : LoN K H v n := by
  obtain ⟨a, xs, rfl, hs, h⟩ := dp_tup h
  obtain ⟨x, xs, rfl, h1, h⟩ := all2_cons h
  obtain ⟨y, xs, rfl, h2, h⟩ := all2_cons h
  obtain ⟨z, xs, rfl, h3, h⟩ := all2_cons h
  obtain rfl := all2_nil h
  rw [dp_int h1, dp_int h2, dp_bool h3] at hs
  exact ⟨a, rfl, hs⟩
theorem all2_map {α β γ : Type} {R : α → γ → Prop} {R' : α → β → Prop} {f : β → γ} {xs : List α} {ys : List β} (h : All2 R xs (ys.map f)) (g : ∀ x y, R x (f y) → R' x y) : All2 R' xs ys :=
  ⟨by rw [h.1, List.length_map], fun i x y hx hy => g x y (h.2 i x (f y) hx (by rw [List.getElem?_map, hy]; rfl))⟩
theorem dp_pic {K : PySem.W.Frag} {H : Hp} {v : V} {p : Pic} (ok : PicOk p) (h : Dp K H v (encPic p)) : ∃ a, v = .ref a ∧ PicR K H a p := by
  obtain ⟨a, xs, rfl, hs, h⟩ := dp_tup h
  obtain ⟨x1, xs, rfl, h1, h⟩ := all2_cons h
  obtain ⟨x2, xs, rfl, h2, h⟩ := all2_cons h
  obtain ⟨x3, xs, rfl, h3, h⟩ := all2_cons h
  obtain ⟨x4, xs, rfl, h4, h⟩ := all2_cons h
  obtain ⟨x5, xs, rfl, h5, h⟩ := all2_cons h
  obtain ⟨x6, xs, rfl, h6, h⟩ := all2_cons h
  obtain ⟨x7, xs, rfl, h7, h⟩ := all2_cons h
  obtain ⟨x8, xs, rfl, h8, h⟩ := all2_cons h
  obtain rfl := all2_nil h
  obtain ⟨ps, vs, rfl, k1, k2⟩ := dp_tup h6
  obtain ⟨pl, ws, rfl, k3, k4⟩ := dp_tup h7
  rw [dp_str h1, dp_int h2, dp_int h3, dp_bool h4, dp_bool h5, dp_bool h8] at hs
  exact ⟨a, rfl, ps, pl, vs, ws, hs, k1, k3, all2_map k2 fun _ _ h => dp_n h, all2_map k4 fun _ _ h => dp_l h, ok.sh, ok.lo⟩
theorem dp_size {K : PySem.W.Frag} {H : Hp} {v : V} {s : Int × Int × Option Int} (h : Dp K H v (encSize s)) : ∃ a, v = .ref a ∧ SqT K H a [.int s.1, .int s.2.1, wv s.2.2] := by
  obtain ⟨a, xs, rfl, hs, h⟩ := dp_tup h
  obtain ⟨x, xs, rfl, h1, h⟩ := all2_cons h
  obtain ⟨y, xs, rfl, h2, h⟩ := all2_cons h
  obtain ⟨z, xs, rfl, h3, h⟩ := all2_cons h
  obtain rfl := all2_nil h
  rw [dp_int h1, dp_int h2, dp_o h3] at hs
  exact ⟨a, rfl, hs⟩
theorem dp_setup {K : PySem.W.Frag} {H : Hp} {v : V} {bits : Nat} {sizes : Sizes} (h : Dp K H v (encSetup bits sizes)) : ∃ a b xs, v = .ref a ∧ SqT K H a [.int bits, .ref b] ∧ SqT K H b xs ∧ All2 (fun v s => ∃ a, v = .ref a ∧ SqT K H a [.int s.1, .int s.2.1, wv s.2.2]) xs sizes := by
  obtain ⟨a, xs, rfl, hs, h⟩ := dp_tup h
  obtain ⟨x, xs, rfl, h1, h⟩ := all2_cons h
  obtain ⟨y, xs, rfl, h2, h⟩ := all2_cons h
  obtain rfl := all2_nil h
  obtain ⟨b, ys, rfl, k1, k2⟩ := dp_tup h2
  rw [dp_int h1] at hs
  exact ⟨a, b, ys, rfl, hs, k1, all2_map k2 fun _ _ h => dp_size h⟩
theorem atI_natE {α : Type} {l : List α} {n : Nat} {x : α} (h : l[n]? = some x) : atI l (n : Int) = some x := by
  unfold atI ixN
  rw [if_pos (by omega)]
  have := (List.getElem?_eq_some_iff.mp h).1
  rw [if_pos (by omega)]
  show l[((n : Nat) : Int).toNat]? = _
  rw [Int.toNat_natCast]
  exact h
end
section
variable {P : Program} {w : World} {K : PySem.W.Frag} {mg : Str → Option Value} {base : Heap}
/-! ### Shelf(setup, top) -/
def cfgOf (bits : Nat) (s : Int × Int × Option Int) (top : Nat) : Cfg := ⟨top, ((2 ^ bits : Nat) : Int), s.1, s.2.1, s.2.2⟩
theorem hput_all (top span size reorder : Int) (wt : V) (l : Addr) : putF "must_enter" (.bl true) (putF "is_anew" (.bl false) (putF "base" .non (putF "spots" (.ref l) (putF "wait" wt (putF "reorder" (.int reorder) (putF "size" (.int size) (putF "span" (.int span) (putF "top" (.int top) [])))))))) =
    ([("top", .int top), ("span", .int span), ("size", .int size), ("reorder", .int reorder), ("wait", wt), ("spots", .ref l), ("base", .non), ("is_anew", .bl false), ("must_enter", .bl true)] : List (Str × V)) := by kernel_rfl
def spShelfInit (K : PySem.W.Frag) : Sp := fun vs H Q _ => ∃ (x dx : Addr) (v : V) (bits : Nat) (sizes : Sizes) (s : Int × Int × Option Int) (top : Nat), vs = [.ref x, v, .int top] ∧ H x = some (.ins (cSh K) dx []) ∧ Dp K H v (encSetup bits sizes) ∧ bits ≤ 40 ∧ sizes.length ≤ 1000 ∧ sizes[top]? = some s ∧
  ∀ H' l, H' x = some (.ins (cSh K) dx (fh (cfgOf bits s top) l st0)) → H' l = some (.lst []) → H l = none → (∀ b o, H b = some o → b ≠ x → H' b = some o) → (∀ b, H' b = none → H b = none) → Q .non H'
theorem ok_shelf_init (T : Fx K mg) (F : IF K (cSh K) "Shelf.__init__" sShelf_init ["self", "setup", "top"] []) (c_as_tuples : Cal P w K mg base 5 "as_tuples" (spAs K 3) []) (c_span_of : Cal P w K mg base 1 "span_of" (spSpanOf K) []) : Mak P w K mg base 6 "Shelf" (cSh K) (spShelfInit K) [] := by
  refine F.mak T.kShelf scShelf_init (fun vs H Q E h => ?_) (fun f cdv A outer s H vs Q E hr h => ?_)
  · obtain ⟨_, _, _, _, _, _, _, rfl, _⟩ := h
    rfl
  obtain ⟨x, dx, v, bits, sizes, sz, top, rfl, hx, hd, hb, hl, ht, k⟩ := h
  have nd := scShelf_init.nd
  have tS := to_setup (bits := bits) hl
  refine ⟨_, (pss_cons (ps_set (i := 1) nd rfl (Or.inl rfl) (pe_c c_as_tuples hr (by first | decide | omega) (by rfl) (pa_cons (pv 1) pa_nil)))
  (pss_cons (ps_fld (pv 0) (pe_ifExp (pt_cmp (pc_isN (pv 2))) (pe_op op_sub (pe_callB call_len_seq (by rfl) T.n_len PySem.boot_len (pa_cons (pe_ix ix_tup (pv 1) pe_int (fun _ _ => rfl)) pa_nil)) pe_int) (pv 2)) rfl)
  (pss_cons (ps_fld (pv 0) (pe_c c_span_of hr (by first | decide | omega) (by rfl) (pa_cons (pv 1) pa_nil)) rfl)
  (pss_cons (ps_asg (pe_ix ix_tup (pe_ix ix_tup (pv 1) pe_int (fun _ _ => rfl)) (pe_fld (pv 0) rfl) (fun _ _ => rfl)) (pg_tup rfl (pgs_cons (pg_fld (pv 0)) (pgs_cons (pg_fld (pv 0)) (pgs_cons (pg_fld (pv 0)) pgs_nil)))))
  (pss_cons (ps_fld (pv 0) (pe_lst pa_nil) rfl)
  (pss_cons (ps_fld (pv 0) pe_non rfl)
  (pss_cons (ps_fld (pv 0) pe_bl rfl)
  (pss_one (ps_fld (pv 0) pe_bl rfl))))))))), ?_⟩
  refine ⟨_, rfl, v, _, rfl, hd, tS, fun H1 v1 x1 hd1 => ?_⟩
  obtain ⟨a, b, xs, rfl, q1, q2, q3⟩ := dp_setup hd1
  have hx1 := x1 _ _ hx
  have lt : ∀ {f : Str} {v : V} {fs : List (Str × V)}, fs.length ≤ 30 → (putF f v fs).length ≤ 31 := fun h => len_put h
  have nx : ∀ {b : Addr} {ys : List V} {o : HO}, SqT K H1 b ys → SqT K (upd H1 x o) b ys := fun {b ys o} h => by
    rcases h with (h | ⟨o, h⟩) | h
    · exact .inl (.inl (upd_off h hx1 (by intro z; cases z)))
    · exact .inl (.inr ⟨o, upd_off h hx1 (by intro z; cases z)⟩)
    · exact .inr h
  have b30 : ∀ {n : Nat}, n ≤ 20 → n < 1000 := len5
  refine ⟨_, rfl, _, rfl, ifF rfl ⟨_, rfl, _, rfl, x, _, dx, _, rfl, hx1, T.cShelf, T.aShelf_top, by show 0 < 1000; decide, ?_⟩⟩
  refine ⟨_, rfl, a, bits, _, rfl, nx q1, hb, _, rfl, x, _, dx, _, rfl, upd_same, T.cShelf, T.aShelf_span, b30 (Nat.le_trans (len_put (Nat.zero_le 0)) (by decide)), ?_⟩
  rw [upd2]
  obtain ⟨c, es, hc⟩ : ∃ c, xs[top]? = some (.ref c) ∧ SqT K H1 c [.int sz.1, .int sz.2.1, wv sz.2.2] := by
    have hlx : top < xs.length := by
      rw [q3.1]
      exact (List.getElem?_eq_some_iff.mp ht).1
    obtain ⟨c, e, h⟩ := q3.2 top xs[top] sz (List.getElem?_eq_getElem hlx) ht
    exact ⟨c, by rw [List.getElem?_eq_getElem hlx, e], h⟩
  have b31 : ∀ {f : Str} {v : V} {fs : List (Str × V)}, fs.length ≤ 12 → (putF f v fs).length < 1000 := fun h => b30 (Nat.le_trans (len_put h) (by decide))
  refine ⟨_, rfl, a, _, 1, _, rfl, rfl, nx q1, rfl, _, rfl, x, _, dx, _, _, rfl, upd_same, T.cShelf, T.aShelf_top, rfl, b, _, top, _, rfl, rfl, nx q2, atI_natE es, c, _, rfl, nx hc, rfl, _, _, rfl, _, rfl, x, _, dx, _, rfl, upd_same, T.cShelf, T.aShelf_size, b31 (Nat.le_trans (len_put (Nat.zero_le 0)) (by decide)), ?_⟩
  rw [upd2]
  refine ⟨_, _, rfl, _, rfl, x, _, dx, _, rfl, upd_same, T.cShelf, T.aShelf_reorder, b31 (Nat.le_trans (len_put (len_put (Nat.zero_le 0))) (by decide)), ?_⟩
  rw [upd2]
  refine ⟨_, _, rfl, _, rfl, x, _, dx, _, rfl, upd_same, T.cShelf, T.aShelf_wait, b31 (Nat.le_trans (len_put (len_put (len_put (Nat.zero_le 0)))) (by decide)), rfl, ?_⟩
  rw [upd2]
  refine ⟨Nat.zero_le _, fun l hl' => ?_⟩
  have hl1 : H1 l = none := upd_no hl'
  have nlx : l ≠ x := (ne_of_none hx1 hl1).symm
  refine ⟨_, rfl, x, _, dx, _, rfl, upd_keep upd_same hl', T.cShelf, T.aShelf_spots, b31 (Nat.le_trans (len_put (len_put (len_put (len_put (Nat.zero_le 0))))) (by decide)), ?_⟩
  refine ⟨_, rfl, x, _, dx, _, rfl, upd_same, T.cShelf, T.aShelf_base, b31 (Nat.le_trans (len_put (len_put (len_put (len_put (len_put (Nat.zero_le 0)))))) (by decide)), ?_⟩
  rw [upd2]
  refine ⟨_, rfl, x, _, dx, _, rfl, upd_same, T.cShelf, T.aShelf_is_anew, b31 (Nat.le_trans (len_put (len_put (len_put (len_put (len_put (len_put (Nat.zero_le 0))))))) (by decide)), ?_⟩
  rw [upd2]
  refine ⟨_, rfl, x, _, dx, _, rfl, upd_same, T.cShelf, T.aShelf_must_enter, b31 (Nat.le_trans (len_put (len_put (len_put (len_put (len_put (len_put (len_put (Nat.zero_le 0)))))))) (by decide)), ?_⟩
  rw [upd2]
  refine k _ l ?_ ?_ ?_ ?_ ?_
  · rw [upd_same]
    exact congrArg (fun z => some (HO.ins (cSh K) dx z)) (hput_all _ _ _ _ _ _)
  · rw [upd_ne nlx, upd_same]
  · cases e : H l with
    | none => rfl
    | some o =>
      rw [x1 _ _ e] at hl1
      cases hl1
  · intro b o h n
    rw [upd_ne n, upd_ne (ne_of_none (x1 _ _ h) hl1), upd_ne n]
    exact x1 _ _ h
  · intro b h
    have h1 := upd_no (upd_no (upd_no h))
    cases e : H b with
    | none => rfl
    | some o =>
      rw [x1 _ _ e] at h1
      cases h1
end

end L2.K13
set_option Elab.async false
set_option linter.all false
set_option maxRecDepth 100000
set_option maxHeartbeats 4000000
set_option pp.maxSteps 150
namespace L2.K13
open PySem PySem.Spec PyProof.Rows L2
open C8 (Cal Met Mak pe_c pe_mt pe_mt0 pe_mk)
local macro_rules | `(tactic| walk_at "hp") => `(tactic| first | assumption | exact upd_same | (refine upd_keep ?_ (by assumption); walk_at "hp") | (refine upd_off ?_ (by assumption) (by intro z; cases z); walk_at "hp"))
local macro_rules | `(tactic| walk_at "seq") => `(tactic| first | assumption | exact SqT.of (by walk_at "hp") | exact SqL.of (by walk_at "hp"))
section
theorem sbeq {a b : Str} : (a == b) = decide (a = b) := by
  by_cases h : a = b
  · rw [h, decide_eq_true rfl, beq_self_eq_true]
  · rw [decide_eq_false h]
    exact beq_eq_false_iff_ne.mpr h
theorem at0 {α : Type} {x : α} {xs : List α} : atI (x :: xs) 0 = some x := atI_natE (n := 0) rfl
theorem inV2 (k a b : Str) : inV (.str k) [.str a, .str b] = (decide (k = a) || decide (k = b)) := by
  show ((a == k) || ((b == k) || false)) = _
  rw [Bool.or_false, sbeq, sbeq]
  congr 1
  · exact decide_eq_decide.mpr eq_comm
  · exact decide_eq_decide.mpr eq_comm
theorem inV_entry (k : Str) : inV (.str k) [.str "clean", .str "open"] = isEntry k := inV2 k _ _
end
section
variable {P : Program} {w : World} {K : PySem.W.Frag} {mg : Str → Option Value} {base : Heap}
def spLeftOut (K : PySem.W.Frag) (T : List (Addr × Str)) : Sp := fun vs H Q _ => ∃ (c : Cfg) (x dx l : Addr) (ad : Int → Addr) (st : Stt) (a : Addr) (pic : Pic), vs = [.ref x, .ref a] ∧ Sh K T c x dx l ad st H ∧ PicR K H a pic ∧ Q (.bl (leftOut c st pic)) H
theorem ok_left {T0 : List (Addr × Str)} (T : Fx K mg) (F : MF K (cSh K) "is_left_out" "Shelf.is_left_out" sShelf_is_left_out ["self", "picture"]) : Met P w K mg base 1 (cSh K) "is_left_out" (spLeftOut K T0) [] := by
  refine F.met T.cShelf scShelf_is_left_out (fun vs H Q E h => ?_) (fun f cdv A outer s H vs Q E hr h => ?_)
  · obtain ⟨_, _, _, _, _, _, _, _, rfl, _⟩ := h
    rfl
  obtain ⟨c, x, dx, l, ad, st, a, pic, rfl, S, ⟨ps, pl, vs, ws, g1, _⟩, k⟩ := h
  have nd := scShelf_is_left_out.nd
  refine ⟨_, (pss_cons (ps_if (pt_cmpR op_gt (pe_ix ix_tup (pv 1) pe_int (fun _ _ => rfl)) (pe_fld (pv 0) rfl) (nomark _)) (pss_one (ps_ret pe_bl)) pss_nil)
  (pss_cons (ps_if (pt_cmpR op_in_seq (pe_ix ix_tup (pv 1) pe_int (fun _ _ => rfl)) (pe_gs T.g_ENTRIES (by rfl)) (by with_unfolding_all rfl)) (pss_one (ps_ret pe_bl)) pss_nil)
  (pss_one (ps_ret (pe_or (pe_fld (pv 0) rfl) (pe_one (pe_and (pe_cmpR op_eq (pe_ix ix_tup (pv 1) pe_int (fun _ _ => rfl)) pe_str (nomark _)) (pe_one (pe_fld (pv 0) rfl))))))))), ?_⟩
  refine ⟨_, rfl, a, _, 1, _, rfl, rfl, g1, rfl, _, rfl, x, _, dx, _, _, rfl, S.obj, T.cShelf, T.aShelf_top, rfl, _, _, rfl, rfl, _, rfl, ?_⟩
  unfold leftOut at k
  refine ite2 (fun h1 => ?_) (fun h1 => ?_)
  · rw [show decide (pic.layer > c.top) = true from h1] at k
    exact k
  · rw [show decide (pic.layer > c.top) = false by simpa using h1, Bool.false_or] at k
    refine ⟨_, rfl, a, _, 0, _, rfl, rfl, g1, rfl, _, _, rfl, .inr (T.q_ENTRIES H), rfl, rfl, _, rfl, ?_⟩
    rw [if_neg (by decide), inV_entry]
    refine ite2 (fun h2 => ?_) (fun h2 => ?_)
    · rw [h2] at k
      exact k
    · rw [show isEntry pic.kind = false by simpa using h2] at k
      refine ⟨_, rfl, x, _, dx, _, _, rfl, S.obj, T.cShelf, T.aShelf_must_enter, rfl, _, rfl, ?_⟩
      refine ite2 (fun h3 => ?_) (fun h3 => ?_)
      · rw [h3] at k
        exact k
      · rw [show st.enter = false by simpa using h3] at k
        refine ⟨_, rfl, a, _, 0, _, rfl, rfl, g1, rfl, rfl, _, rfl, ?_⟩
        rw [decS]
        refine ite2 (fun h4 => ?_) (fun h4 => ?_)
        · rw [h4] at k
          exact ⟨_, rfl, x, _, dx, _, _, rfl, S.obj, T.cShelf, T.aShelf_is_anew, rfl, k⟩
        · rw [show decide (pic.kind = ("skip" : Str)) = false by simpa using h4] at k
          exact k
def spLook (K : PySem.W.Frag) : Sp := fun vs H Q _ => ∃ (v : V) (p : Pic) (ts : List (Option Pic)), vs = [v, .int 0] ∧ Dp K H v (encStream (some p :: ts)) ∧ ts.length < 1000 ∧ (∀ t ∈ some p :: ts, ThingOk t) ∧ isEntry p.kind = true ∧ Q .non H
theorem ok_look (T : Fx K mg) (F : DF K mg "look_for_entry" s_look_for_entry ["stream", "start"]) : Cal P w K mg base 1 "look_for_entry" (spLook K) [] := by
  refine F.cal sc_look_for_entry (fun vs H Q E h => ?_) (fun f cdv A outer s H vs Q E hr h => ?_)
  · obtain ⟨_, _, _, rfl, _⟩ := h
    rfl
  obtain ⟨v, p, ts, rfl, hd, hl, hok, he, k⟩ := h
  have nd := sc_look_for_entry.nd
  have hu64 := hu64_of hr
  obtain ⟨a, xs, rfl, q1, q2⟩ := dp_tup hd
  obtain ⟨x0, xs, rfl, h0, q3⟩ := all2_cons (show All2 (Dp K H) xs (encPic p :: ts.map encThing) from q2)
  have pok : PicOk p := hok (some p) (List.mem_cons_self ..)
  obtain ⟨b, rfl, hp⟩ := dp_pic pok h0
  have tE : Dp K H (.ref (He.ga K "END")) (encThing none) := .tup (T.q_END H) (dpAll_of ⟨rfl, fun i x y hx hy => by
    cases i with
    | zero =>
      simp only [List.getElem?_cons_zero, Option.some.injEq] at hx hy
      rw [← hx, ← hy]
      exact .str _
    | succ i => simp at hx⟩)
  refine ⟨_, (pss_one (ps_if (PW.pt (pw_or (pt_not (pt_chain op_le op_lt pe_int (pv 1) (pe_callB call_len_seq (by rfl) T.n_len PySem.boot_len (pa_cons (pv 0) pa_nil)))) (pw_or (pt_cmpR (op_eqD hu64) (pe_ix ix_tup (pv 0) (pv 1) (fun _ _ => rfl)) (pe_gs T.g_END (by rfl)) (nomark _)) (pw_or1 (pt_cmpR op_notIn_seq (pe_ix ix_tup (pe_ix ix_tup (pv 0) (pv 1) (fun _ _ => rfl)) pe_int (fun _ _ => rfl)) (pe_gs T.g_ENTRIES (by rfl)) (by with_unfolding_all rfl)))))) (pss_one ps_never) pss_nil)), ?_⟩
  refine ⟨_, rfl, _, _, rfl, rfl, _, rfl, ifT rfl ?_⟩
  refine ⟨_, rfl, a, _, rfl, .inr q1, _, _, rfl, rfl, _, rfl, ?_⟩
  have e1 : decide ((0 : Int) < (((V.ref b :: xs).length : Nat) : Int)) = true := decide_eq_true (by rw [List.length_cons]; omega)
  rw [e1]
  refine ifF rfl ?_
  refine ⟨_, rfl, _, rfl, a, _, 0, _, rfl, rfl, q1, at0, _, _, h0, tE, (to_pic pok).shaped (by decide), (to_thing (t := none) trivial).shaped (by decide), _, rfl, ?_⟩
  have e2 : PyData.eqv (encPic p) (encThing none) = false := by
    show (PyData.eqv (.str p.kind) (.str "end") && PyData.eqvAll (_ :: _) []) = false
    simp [PyData.eqvAll]
  rw [e2]
  refine ifF rfl ?_
  obtain ⟨ps, pl, vs, ws, g1, _⟩ := hp
  refine ⟨_, rfl, _, rfl, a, _, 0, _, rfl, rfl, q1, at0, b, _, 0, _, rfl, rfl, g1, rfl, _, _, rfl, .inr (T.q_ENTRIES H), rfl, rfl, _, rfl, ?_⟩
  rw [if_pos rfl, inV_entry, he]
  exact ifF rfl k
end

end L2.K13
set_option Elab.async false
set_option linter.all false
set_option maxRecDepth 100000
set_option maxHeartbeats 4000000
set_option pp.maxSteps 150
namespace L2.K13
open PySem PySem.Spec PyProof.Rows L2
open C8 (Cal Met Mak pe_c pe_mt pe_mt0 pe_mk)
local macro_rules | `(tactic| walk_at "hp") => `(tactic| first | assumption | exact upd_same | (refine upd_keep ?_ (by assumption); walk_at "hp") | (refine upd_off ?_ (by assumption) (by intro z; cases z); walk_at "hp"))
local macro_rules | `(tactic| walk_at "seq") => `(tactic| first | assumption | exact SqT.of (by walk_at "hp") | exact SqL.of (by walk_at "hp"))
section
theorem showS_ps {t : Spt} {sp : List Spt} : ∀ u ∈ showS t sp, ∃ v ∈ sp, v.p = u.p := fun u hu => by
  have key : ∀ u ∈ chg t.p unw sp, ∃ v ∈ sp, v.p = u.p := fun u hu => by
    obtain ⟨v, hv, rfl⟩ := List.mem_map.mp hu
    exact ⟨v, hv, (chg_p unw_p v).symm⟩
  rw [showS_chg] at hu
  split at hu
  · exact key u (List.mem_filter.mp hu).1
  · exact key u hu
theorem makeRoom_ps {c : Cfg} : ∀ {n : Nat} {sp : List Spt}, ∀ u ∈ (makeRoom c n sp).2, ∃ v ∈ sp, v.p = u.p
  | 0, sp, u, hu => ⟨u, hu, rfl⟩
  | n + 1, sp, u, hu => by
    by_cases h : (presses c sp || decide (((sp.length : Nat) : Int) ≥ c.size)) = true
    · cases hb : best false (waiting sp) with
      | some t =>
        rw [makeRoom_show h hb] at hu
        obtain ⟨v, hv, e⟩ := makeRoom_ps u hu
        obtain ⟨w, hw, e2⟩ := showS_ps v hv
        exact ⟨w, hw, e2.trans e⟩
      | none =>
        cases hb2 : best false sp with
        | some t =>
          rw [makeRoom_drop h (best_nil hb) hb2] at hu
          obtain ⟨v, hv, e⟩ := makeRoom_ps u hu
          exact ⟨v, (List.mem_filter.mp hv).1, e⟩
        | none =>
          have e : makeRoom c (n + 1) sp = ([], sp) := by
            show (if (presses c sp || decide (((sp.length : Nat) : Int) ≥ c.size)) then _ else _) = _
            rw [if_pos h, hb, hb2]
          rw [e] at hu
          exact ⟨u, hu, rfl⟩
    · rw [makeRoom_no (by simpa using h)] at hu
      exact ⟨u, hu, rfl⟩
theorem roomF_ps {c : Cfg} {sp : List Spt} : ∀ u ∈ (roomF c sp).2, ∃ v ∈ sp, v.p = u.p := fun u hu => by
  obtain ⟨v, hv, e⟩ := makeRoom_ps u hu
  exact ⟨v, (List.mem_filter.mp hv).1, e⟩
theorem markBy_ps {c : Cfg} {sp : List Spt} {pic : Pic} {count : Int} : ∀ u ∈ (markBy c sp pic count).2, ∃ v ∈ sp, v.p = u.p := fun u hu => by
  obtain ⟨v, hv, rfl⟩ := List.mem_map.mp hu
  exact ⟨v, hv, rfl⟩
theorem markBy_len {c : Cfg} {sp : List Spt} {pic : Pic} {count : Int} : (markBy c sp pic count).2.length = sp.length := List.length_map ..
theorem markBy_rl {c : Cfg} {sp : List Spt} {pic : Pic} {count : Int} (ok : PicOk pic) : (markBy c sp pic count).1.length ≤ 200 := by
  show (List.map _ (List.filter _ (List.zip _ _))).length ≤ 200
  rw [List.length_map]
  refine Nat.le_trans (List.length_filter_le ..) ?_
  rw [List.length_zip, List.length_append, List.length_map, List.length_map]
  have := ok.sh
  have := ok.lo
  omega
structure CfgOk (c : Cfg) : Prop where
  re : 0 ≤ c.reorder
  sz : 1 ≤ c.size
  s0 : 0 < c.span
  s1 : c.span < 2 ^ 60
def encRow (r : Rw) : PyData := .tuple [.int r.1, .int r.2.1, .tuple (r.2.2.1.map encO), .tuple (r.2.2.2.map PyData.int)]
def encRowO : Option Rw → PyData
  | none => .none
  | some r => encRow r
theorem hput_base (c : Cfg) (l : Addr) (st : Stt) (b : Int) : putF "base" (.int b) (fh c l st) = fh c l { st with base := some b } := by kernel_rfl
theorem hput_anew (c : Cfg) (l : Addr) (st : Stt) (b : Bool) : putF "is_anew" (.bl b) (fh c l st) = fh c l { st with anew := b } := by kernel_rfl
theorem hput_enter (c : Cfg) (l : Addr) (st : Stt) (b : Bool) : putF "must_enter" (.bl b) (fh c l st) = fh c l { st with enter := b } := by kernel_rfl
theorem dp_ints {K : PySem.W.Frag} {H : Hp} (l : List Int) : DpAll K H (l.map V.int) (l.map PyData.int) := by
  induction l with
  | nil => exact .nil
  | cons a r ih => exact .cons (.int a) ih
theorem dp_os {K : PySem.W.Frag} {H : Hp} (l : List (Option Int)) : DpAll K H (l.map wv) (l.map encO) := by
  induction l with
  | nil => exact .nil
  | cons a r ih =>
    cases a with
    | none => exact .cons .non ih
    | some i => exact .cons (.int i) ih
theorem eqv_end (t : Option Pic) : PyData.eqv (encThing t) (encThing none) = t.isNone := by
  cases t with
  | none => decide +kernel
  | some p =>
    show (PyData.eqv (.str p.kind) (.str "end") && PyData.eqvAll (_ :: _) []) = false
    simp [PyData.eqvAll]
def anewF (st : Stt) (pic : Pic) : Bool := if isEntry pic.kind then decide (pic.kind = ("clean" : Str)) || st.enter else st.anew
theorem takeF_new {c : Cfg} {st : Stt} {place : Int} {pic : Pic} (hL : leftOut c st pic = false) (h : (isEntry pic.kind && anewF st pic) = true) : takeF c st place (some pic) =
    (some (place, pic.low, [], clearF st.spots pic.hush ++ (putF' c [] place pic.low pic.shown).1), ⟨(putF' c [] place pic.low pic.shown).2, if pic.layer = 0 && pic.kept && !(decide (pic.kind = ("skip" : Str)) || decide (pic.kind = ("lead" : Str))) then some pic.low else st.base, if isEntry pic.kind then decide (pic.kind = ("clean" : Str)) || st.enter else st.anew, if isEntry pic.kind then false else st.enter⟩) := by
  unfold anewF at h
  show (if leftOut c st pic then _ else _) = _
  rw [if_neg (by rw [hL]; decide)]
  dsimp only
  rw [if_pos h]
theorem takeF_old {c : Cfg} {st : Stt} {place : Int} {pic : Pic} (hL : leftOut c st pic = false) (h : (isEntry pic.kind && anewF st pic) = false) : takeF c st place (some pic) =
    (some (place, countOf c.span pic.low (st.base.getD 0), (markBy c st.spots pic (countOf c.span pic.low (st.base.getD 0))).1, (roomF c (markBy c st.spots pic (countOf c.span pic.low (st.base.getD 0))).2).1 ++ (putF' c (roomF c (markBy c st.spots pic (countOf c.span pic.low (st.base.getD 0))).2).2 place (countOf c.span pic.low (st.base.getD 0)) pic.shown).1),
     ⟨(putF' c (roomF c (markBy c st.spots pic (countOf c.span pic.low (st.base.getD 0))).2).2 place (countOf c.span pic.low (st.base.getD 0)) pic.shown).2, if pic.layer = 0 && pic.kept && !(decide (pic.kind = ("skip" : Str)) || decide (pic.kind = ("lead" : Str))) then some (countOf c.span pic.low (st.base.getD 0)) else st.base, if isEntry pic.kind then decide (pic.kind = ("clean" : Str)) || st.enter else st.anew, if isEntry pic.kind then false else st.enter⟩) := by
  unfold anewF at h
  show (if leftOut c st pic then _ else _) = _
  rw [if_neg (by rw [hL]; decide)]
  dsimp only
  rw [if_neg (by rw [h]; decide)]
theorem old_enter {c : Cfg} {st : Stt} {pic : Pic} (hL : leftOut c st pic = false) (h : (isEntry pic.kind && anewF st pic) = false) : st.enter = false := by
  unfold leftOut at hL
  unfold anewF at h
  cases he : isEntry pic.kind with
  | true =>
    rw [he] at h
    simp at h
    exact h.2
  | false =>
    rw [he] at hL
    simp at hL
    exact hL.2.1
theorem Sh.fld {K : PySem.W.Frag} {T : List (Addr × Str)} {c : Cfg} {x dx l : Addr} {ad : Int → Addr} {st : Stt} {H : Hp} {st' : Stt} (s : Sh K T c x dx l ad st H) (e : st'.spots = st.spots) : Sh K T c x dx l ad st' (upd H x (.ins (cSh K) dx (fh c l st'))) :=
  s.setl (st' := st') (by rw [e]; exact s.lst) (by rw [e]; exact s.spo) (by rw [e]; exact s.len)
theorem Stp.fld {x l0 l dx : Addr} {ad0 ad : Int → Addr} {sp0 sp : List Spt} {H0 H : Hp} {C C' d' : Addr} {f f' : List (Str × V)} (s : Stp x l0 ad0 sp0 H0 l ad sp H) (hx : H x = some (.ins C dx f)) : Stp x l0 ad0 sp0 H0 l ad sp (upd H x (.ins C' d' f')) :=
  s.setl hx (.inl rfl) fun t ht => .inl ⟨t, ht, rfl⟩
end
section
variable {P : Program} {w : World} {K : PySem.W.Frag} {mg : Str → Option Value} {base : Heap}
def spTake (K : PySem.W.Frag) (T : List (Addr × Str)) : Sp := fun vs H Q _ => ∃ (c : Cfg) (x dx l : Addr) (ad : Int → Addr) (st : Stt) (place : Int) (v : V) (t : Option Pic), vs = [.ref x, .int place, v] ∧ Sh K T c x dx l ad st H ∧ Dp K H v (encThing t) ∧ ThingOk t ∧ CfgOk c ∧ (∀ u ∈ st.spots, u.p ≠ place) ∧ st.spots.length ≤ 400 ∧ (st.enter = false → ∃ b, st.base = some b) ∧
  ∀ H' v' l' ad', Sh K T c x dx l' ad' (takeF c st place t).2 H' → Stp x l ad st.spots H l' ad' (takeF c st place t).2.spots H' → Dp K H' v' (encRowO (takeF c st place t).1) → Q v' H'
theorem ok_take {T0 : List (Addr × Str)} (T : Fx K mg) (F : MF K (cSh K) "take" "Shelf.take" sShelf_take ["self", "place", "thing"]) (c_as_tuples : Cal P w K mg base 5 "as_tuples" (spAs K 3) []) (c_count_of : Cal P w K mg base 1 "count_of" spCountOf []) (m_is_left_out : Met P w K mg base 1 (cSh K) "is_left_out" (spLeftOut K T0) [])
    (m_clear : Met P w K mg base 4 (cSh K) "clear" (spClear K T0) []) (m_mark_by : Met P w K mg base 3 (cSh K) "mark_by" (spMark K T0) []) (m_make_room : Met P w K mg base 4 (cSh K) "make_room" (spMakeRoom K T0) []) (m_put : Met P w K mg base 4 (cSh K) "put" (spPut K T0) []) : Met P w K mg base 6 (cSh K) "take" (spTake K T0) [] := by
  refine F.met T.cShelf scShelf_take (fun vs H Q E h => ?_) (fun f cdv A outer s H vs Q E hr h => ?_)
  · obtain ⟨_, _, _, _, _, _, _, _, _, rfl, _⟩ := h
    rfl
  obtain ⟨c, x, dx, l, ad, st, place, v, t, rfl, S, hd, hok, hc, hpl, hlen, hbase, k⟩ := h
  have nd := scShelf_take.nd
  have hu64 := hu64_of hr
  have tT := to_thing hok
  have tE : ∀ H : Hp, Dp K H (.ref (He.ga K "END")) (encThing none) := fun H => .tup (T.q_END H) (dpAll_of ⟨rfl, fun i x y hx hy => by
    cases i with
    | zero =>
      simp only [List.getElem?_cons_zero, Option.some.injEq] at hx hy
      rw [← hx, ← hy]
      exact .str _
    | succ i => simp at hx⟩)
  refine ⟨_, (pss_cons (ps_set (i := 2) nd rfl (Or.inl rfl) (pe_c c_as_tuples hr (by first | decide | omega) (by rfl) (pa_cons (pv 2) pa_nil)))
  (pss_cons (ps_if (pt_cmpR (op_eqD hu64) (pv 2) (pe_gs T.g_END (by rfl)) (nomark _)) (pss_cons (ps_fld (pv 0) pe_bl rfl)
      (pss_one (ps_ret pe_non))) pss_nil)
  (pss_cons (ps_if (pt_val (pe_mt m_is_left_out hr (by first | decide | omega) (pv 0) (pa_cons (pv 2) pa_nil))) (pss_one (ps_ret pe_non)) pss_nil)
  (pss_cons (ps_asg (pe_slice sl_tupA (pv 2) po_none (po_some pe_int)) (pg_tup rfl (pgs_cons (pg_name (i := 3) nd rfl (by first | exact .inl rfl | exact .inr rfl)) (pgs_cons (pg_name (i := 4) nd rfl (by first | exact .inl rfl | exact .inr rfl)) (pgs_cons (pg_name (i := 5) nd rfl (by first | exact .inl rfl | exact .inr rfl)) (pgs_cons (pg_name (i := 6) nd rfl (by first | exact .inl rfl | exact .inr rfl)) (pgs_cons (pg_name (i := 7) nd rfl (by first | exact .inl rfl | exact .inr rfl)) pgs_nil)))))))
  (pss_cons (ps_if (pt_cmpR op_in_seq (pv 3) (pe_gs T.g_ENTRIES (by rfl)) (by with_unfolding_all rfl)) (pss_cons (ps_fld (pv 0) (pe_or (pe_cmpR op_eq (pv 3) pe_str (nomark _)) (pe_one (pe_fld (pv 0) rfl))) rfl)
      (pss_one (ps_fld (pv 0) pe_bl rfl))) pss_nil)
  (pss_cons (ps_if (PW.pt (pw_and (pt_cmpR op_in_seq (pv 3) (pe_gs T.g_ENTRIES (by rfl)) (by with_unfolding_all rfl)) (pw_and1 (pt_val (pe_fld (pv 0) rfl))))) (pss_one (ps_par3 (i := 8) (j := 9) (l := 10) rfl nd rfl rfl rfl (by decide) (by decide) (by decide) rfl rfl rfl (pa_cons (pv 5) (pa_cons (pe_tup pa_nil) (pa_cons (pe_mt m_clear hr (by first | decide | omega) (pv 0) (pa_cons (pe_ix ix_tup (pv 2) pe_int (fun _ _ => rfl)) pa_nil)) pa_nil))) rfl)) (pss_cons (ps_set (i := 8) nd rfl (Or.inl rfl) (pe_c c_count_of hr (by first | decide | omega) (by rfl) (pa_cons (pe_fld (pv 0) rfl) (pa_cons (pv 5) (pa_cons (pe_fld (pv 0) rfl) pa_nil)))))
      (pss_cons (ps_set (i := 9) nd rfl (Or.inl rfl) (pe_mt m_mark_by hr (by first | decide | omega) (pv 0) (pa_cons (pv 2) (pa_cons (pv 8) pa_nil))))
      (pss_one (ps_set (i := 10) nd rfl (Or.inl rfl) (pe_mt0 m_make_room hr (by first | decide | omega) (pv 0)))))))
  (pss_cons (ps_set (i := 10) nd rfl (Or.inl rfl) (pe_op op_cat (pv 10) (pe_mt m_put hr (by first | decide | omega) (pv 0) (pa_cons (pv 1) (pa_cons (pv 8) (pa_cons (pv 7) pa_nil))))))
  (pss_cons (ps_if (PW.pt (pw_and (pt_cmpR op_eq (pv 4) pe_int (nomark _)) (pw_and (pt_val (pv 6)) (pw_and1 (pt_cmpR op_notIn_seq (pv 3) (pe_gs T.g_LEADING (by rfl)) (by with_unfolding_all rfl)))))) (pss_one (ps_fld (pv 0) (pv 8) rfl)) pss_nil)
  (pss_one (ps_ret (pe_tup (pa_cons (pv 1) (pa_cons (pv 8) (pa_cons (pv 9) (pa_cons (pe_callTy call_tuple_of (by rfl) T.n_tuple boot_tuple (pa_cons (pv 10) pa_nil)) pa_nil))))))))))))))), ?_⟩
  refine ⟨_, rfl, v, _, rfl, hd, tT, fun H1 v1 x1 hd1 => ?_⟩
  have xn1 := LamX.ExtN.of x1
  have S1 := S.ext xn1 (S.tabs.ext x1)
  have s1 : Stp x l ad st.spots H l ad st.spots H1 := ExtN.stp xn1
  refine ⟨_, rfl, _, _, hd1, tE H1, tT.shaped (by decide), (to_thing (t := none) trivial).shaped (by decide), _, rfl, ?_⟩
  rw [eqv_end]
  cases t with
  | none =>
    refine ifT rfl ⟨_, rfl, x, _, dx, _, rfl, S1.obj, T.cShelf, T.aShelf_must_enter, len5 (by show 9 ≤ 20; decide), ?_⟩
    rw [hput_enter]
    exact k _ _ l ad (S1.fld rfl) (s1.fld S1.obj) .non
  | some pic =>
    refine ifF rfl ?_
    have pok : PicOk pic := hok
    obtain ⟨a, rfl, hP⟩ := dp_pic pok hd1
    refine ⟨_, rfl, x, dx, _, rfl, S1.obj, rfl, _, rfl, c, x, dx, l, ad, st, a, pic, rfl, S1, hP, _, rfl, ?_⟩
    refine ite2 (fun hL => ?_) (fun hL => ?_)
    · have e : takeF c st place (some pic) = (none, st) := by
        show (if leftOut c st pic then _ else _) = _
        rw [if_pos hL]
      rw [e] at k
      exact k _ _ l ad S1 s1 .non
    have hL' : leftOut c st pic = false := by simpa using hL
    obtain ⟨ps, pl, vs, ws, g1, _⟩ := id hP
    have n58 : ¬ HT.sIx 8 8 (some 5) = 8 := by decide
    refine ⟨_, rfl, _, rfl, a, _, rfl, g1, fun z => absurd z.2 n58, fun _ q hq => ?_⟩
    refine ⟨q, _, rfl, SqT.of upd_same, rfl, _, _, rfl, _, _, rfl, _, _, rfl, _, _, rfl, _, _, rfl, rfl, ?_⟩
    have x2 : LamX.ExtN H1 (upd H1 q (.tup (cutV [V.str pic.kind, .int pic.layer, .int pic.low, .bl pic.kept, .bl pic.shown, .ref ps, .ref pl, .bl pic.hush] none (some 5)))) := ext_new hq
    have S2 := S1.new (o := .tup (cutV [V.str pic.kind, .int pic.layer, .int pic.low, .bl pic.kept, .bl pic.shown, .ref ps, .ref pl, .bl pic.hush] none (some 5))) hq
    have s2 : Stp x l ad st.spots H l ad st.spots _ := s1.trans (ExtN.stp (sp := st.spots) x2)
    have hP2 := hP.ext x2
    have anewE : (let anew := if isEntry pic.kind then decide (pic.kind = ("clean" : Str)) || st.enter else st.anew; True) := trivial
    dsimp only
    refine seq_cut (fun σ' H' => σ' = [some (.ref x), some (.int place), some (.ref a), some (.str pic.kind), some (.int pic.layer), some (.int pic.low), some (.bl pic.kept), some (.bl pic.shown), none, none, none] ∧
      Sh K T0 c x dx l ad ⟨st.spots, st.base, if isEntry pic.kind then decide (pic.kind = ("clean" : Str)) || st.enter else st.anew, if isEntry pic.kind then false else st.enter⟩ H' ∧ Stp x l ad st.spots H l ad st.spots H' ∧ PicR K H' a pic) ?_ fun key => ?_
    · rintro σ' H3 ⟨rfl, S3, s3, hP3⟩
      refine seq_cut (fun σ' H' => ∃ (cnt : Int) (refs : List (Option Int)) (found : List Int) (sp2 : List Spt) (r q l2 : Addr), σ' = [some (.ref x), some (.int place), some (.ref a), some (.str pic.kind), some (.int pic.layer), some (.int pic.low), some (.bl pic.kept), some (.bl pic.shown), some (.int cnt), some (.ref r), some (.ref q)] ∧
        Sh K T0 c x dx l2 ad ⟨sp2, st.base, if isEntry pic.kind then decide (pic.kind = ("clean" : Str)) || st.enter else st.anew, if isEntry pic.kind then false else st.enter⟩ H' ∧ Stp x l ad st.spots H l2 ad sp2 H' ∧ H' r = some (.tup (refs.map wv)) ∧ H' q = some (.lst (found.map V.int)) ∧ q ≠ l2 ∧
        found.length ≤ st.spots.length ∧ refs.length ≤ 200 ∧ (∀ u ∈ sp2, ∃ v ∈ st.spots, v.p = u.p) ∧ sp2.length ≤ st.spots.length ∧
        takeF c st place (some pic) = (some (place, cnt, refs, found ++ (putF' c sp2 place cnt pic.shown).1), ⟨(putF' c sp2 place cnt pic.shown).2, if pic.layer = 0 && pic.kept && !(decide (pic.kind = ("skip" : Str)) || decide (pic.kind = ("lead" : Str))) then some cnt else st.base, if isEntry pic.kind then decide (pic.kind = ("clean" : Str)) || st.enter else st.anew, if isEntry pic.kind then false else st.enter⟩)) ?_ fun key2 => ?_
      · rintro σ' H4 ⟨cnt, refs, found, sp2, r, q2, l2, rfl, S4, s4, hr4, hq4, nq4, hfl, hrl, hps, hsl, eT⟩
        rw [eT] at k
        have hpl2 : ∀ u ∈ sp2, u.p ≠ place := fun u hu => by
          obtain ⟨v, hv, e⟩ := hps u hu
          rw [← e]
          exact hpl v hv
        refine ⟨_, rfl, _, rfl, x, dx, _, rfl, S4.obj, rfl, _, rfl, _, rfl, _, rfl, c, x, dx, l2, ad, _, place, cnt, pic.shown, rfl, S4, hc.re, hpl2, Nat.lt_of_le_of_lt (Nat.succ_le_succ (Nat.le_trans hsl hlen)) (by decide), fun H5 q5 ad5 S5 s5' nq5 hq5 hl5 => ?_⟩
        have s5 := s4.trans s5'
        have o4 := S4.notOw hq4 (by intro _ _ _ z; cases z) nq4 (by intro _ z; cases z)
        have hq45 := (s5'.out hq4 o4).1
        have hr5 : H5 r = some (.tup (refs.map wv)) := s5'.fr _ _ hr4 (.inl rfl)
        have hl5' : (putF' c sp2 place cnt pic.shown).1.length ≤ st.spots.length + 1 := Nat.le_trans hl5 (Nat.succ_le_succ hsl)
        refine ⟨q2, q5, _, _, rfl, rfl, hq45, hq5, ?_, fun p hp => ?_⟩
        · rw [vi_len, vi_len]
          show found.length + (putF' c sp2 place cnt pic.shown).1.length ≤ _
          exact Nat.le_trans (by omega : _ ≤ 802) (by decide)
        have S6 := S5.new (o := .lst (found.map V.int ++ (putF' c sp2 place cnt pic.shown).1.map V.int)) hp
        have x6 : LamX.ExtN H5 (upd H5 p (.lst (found.map V.int ++ (putF' c sp2 place cnt pic.shown).1.map V.int))) := ext_new hp
        have s6 := s5.trans (ExtN.stp (sp := (putF' c sp2 place cnt pic.shown).2) x6)
        have npl : p ≠ l2 := (ne_of_none S5.lst hp).symm
        have e6 : found.map V.int ++ (putF' c sp2 place cnt pic.shown).1.map V.int = (found ++ (putF' c sp2 place cnt pic.shown).1).map V.int := List.map_append.symm
        have h6 : upd H5 p (.lst (found.map V.int ++ (putF' c sp2 place cnt pic.shown).1.map V.int)) p = some (.lst ((found ++ (putF' c sp2 place cnt pic.shown).1).map V.int)) := by rw [upd_same, e6]
        have hr6 := x6 _ _ hr5 fun _ z => by cases z
        refine gn_cut ?_
        dsimp only
        refine seq_cut (fun σ' H' => ∃ ad', σ' = [some (.ref x), some (.int place), some (.ref a), some (.str pic.kind), some (.int pic.layer), some (.int pic.low), some (.bl pic.kept), some (.bl pic.shown), some (.int cnt), some (.ref r), some (.ref p)] ∧
          Sh K T0 c x dx l2 ad' ⟨(putF' c sp2 place cnt pic.shown).2, if pic.layer = 0 && pic.kept && !(decide (pic.kind = ("skip" : Str)) || decide (pic.kind = ("lead" : Str))) then some cnt else st.base, if isEntry pic.kind then decide (pic.kind = ("clean" : Str)) || st.enter else st.anew, if isEntry pic.kind then false else st.enter⟩ H' ∧
          Stp x l ad st.spots H l2 ad' (putF' c sp2 place cnt pic.shown).2 H' ∧ H' r = some (.tup (refs.map wv)) ∧ H' p = some (.lst ((found ++ (putF' c sp2 place cnt pic.shown).1).map V.int))) ?_ fun key3 => ?_
        · rintro σ' H7 ⟨ad', rfl, S7, s7, hr7, hp7⟩
          refine ⟨_, rfl, _, rfl, _, rfl, _, rfl, p, _, rfl, .inl ⟨SqL.of hp7, fun t ht => ⟨by show 4 ≤ sizeLine; decide, fun u hu => ?_⟩⟩⟩
          have x8 : Same H7 (upd (upd H7 t (.tup ((found ++ (putF' c sp2 place cnt pic.shown).1).map V.int))) u (.tup [.int place, .int cnt, .ref r, .ref t])) := fun b o h => upd_keep (upd_keep h ht) hu
          refine k _ _ l2 ad' (S7.ext (LamX.ExtN.of x8) (S7.tabs.ext x8)) (s7.trans (ExtN.stp (LamX.ExtN.of x8))) ?_
          have ntu : t ≠ u := ne_of_none upd_same hu
          refine .tup (SqT.of upd_same) (.cons (.int _) (.cons (.int _) (.cons (.tup (SqT.of (x8 _ _ hr7)) (dp_os refs)) (.cons (.tup (SqT.of (xs := (found ++ (putF' c sp2 place cnt pic.shown).1).map V.int) ?_) (dp_ints _)) .nil))))
          rw [upd_ne ntu, upd_same]
        · refine tt_cut (fun b H' => H' = upd H5 p (.lst (found.map V.int ++ (putF' c sp2 place cnt pic.shown).1.map V.int)) ∧ b = (pic.layer = 0 && pic.kept && !(decide (pic.kind = ("skip" : Str)) || decide (pic.kind = ("lead" : Str))))) ?_ fun key4 => ?_
          · rintro b H' ⟨rfl, eb⟩
            rw [← eb] at key3
            refine ite2 (fun hb => ?_) (fun hb => ?_)
            · refine ⟨_, rfl, _, rfl, x, _, dx, _, rfl, S6.obj, T.cShelf, T.aShelf_base, len5 (by show 9 ≤ 20; decide), ?_⟩
              rw [hput_base]
              refine key3 _ _ ⟨ad5, rfl, ?_, s6.fld S6.obj, upd_off hr6 S6.obj (by intro z; cases z), upd_off h6 S6.obj (by intro z; cases z)⟩
              rw [hb]
              exact S6.fld rfl
            · have hb' : b = false := by simpa using hb
              refine key3 _ _ ⟨ad5, rfl, ?_, s6, hr6, h6⟩
              rw [hb']
              exact S6
          · refine ⟨_, rfl, rfl, _, rfl, ?_⟩
            rw [decV]
            refine ite2 (fun h1 => ?_) (fun h1 => ?_)
            · refine ⟨_, rfl, pic.kept, rfl, ?_⟩
              refine ite2 (fun h2 => ?_) (fun h2 => ?_)
              · refine ⟨_, rfl, _, _, rfl, .inr (T.q_LEADING _), rfl, rfl, _, rfl, ?_⟩
                rw [if_pos rfl, inV2]
                refine key4 _ _ ⟨rfl, ?_⟩
                rw [h1, h2]
                rfl
              · refine key4 _ _ ⟨rfl, ?_⟩
                rw [show pic.kept = false by simpa using h2]
                simp
            · refine key4 _ _ ⟨rfl, ?_⟩
              rw [show decide (pic.layer = 0) = false by simpa using h1]
              rfl
      · refine tt_cut (fun b H' => H' = H3 ∧ b = (isEntry pic.kind && anewF st pic)) ?_ fun key4 => ?_
        · rintro b H' ⟨rfl, eb⟩
          refine ite2 (fun hb => ?_) (fun hb => ?_)
          · rw [hb] at eb
            have hsub : ∀ z : Stt, z.spots = ([] : List Spt) → True := fun _ _ => trivial
            obtain ⟨ps3, pl3, vs3, ws3, g3, _⟩ := id hP3
            refine ⟨_, rfl, Nat.zero_le _, fun r hr0 => ?_⟩
            have S4 := S3.new (o := .tup []) hr0
            have s4 := s3.trans (ExtN.stp (sp := st.spots) (ext_new (o := .tup []) hr0))
            have g4 := SqT.extN g3 (ext_new (o := .tup []) hr0)
            refine ⟨_, rfl, x, dx, _, rfl, S4.obj, rfl, _, rfl, a, _, 7, _, rfl, rfl, g4, rfl, c, x, dx, l, ad, _, pic.hush, rfl, S4, fun H5 q5 l5 S5 s5' hq5 nq5 h5 hl5 => ⟨_, _, _, rfl, ?_⟩⟩
            have hr5 : H5 r = some (.tup []) := s5'.fr _ _ upd_same (.inl rfl)
            exact key2 _ _ ⟨pic.low, [], clearF st.spots pic.hush, [], r, q5, l5, rfl, S5, s4.trans s5', hr5, h5, nq5, hl5, Nat.zero_le _, fun u hu => absurd hu List.not_mem_nil, Nat.zero_le _, takeF_new hL' eb.symm⟩
          · have hb' : b = false := by simpa using hb
            rw [hb'] at eb
            obtain ⟨b0, hb0⟩ := hbase (old_enter hL' eb.symm)
            have hgd : st.base.getD 0 = b0 := by rw [hb0]; rfl
            have eT := takeF_old (place := place) hL' eb.symm
            rw [hgd] at eT
            refine ⟨_, rfl, x, _, dx, _, _, rfl, S3.obj, T.cShelf, T.aShelf_span, rfl, _, rfl, _, rfl, x, _, dx, _, _, rfl, S3.obj, T.cShelf, T.aShelf_base, rfl, c.span, pic.low, b0, ?_, hc.s0, ?_⟩
            · show [V.int c.span, V.int pic.low, wv st.base] = _
              rw [hb0]
              rfl
            refine ⟨_, rfl, x, dx, _, rfl, S3.obj, rfl, _, rfl, _, rfl, c, x, dx, l, ad, _, a, pic, _, rfl, S3, hP3, hc.s0, hc.s1, fun H5 r S5 s5' hr5 => ?_⟩
            have s5 := s3.trans s5'
            refine ⟨_, rfl, x, dx, _, rfl, S5.obj, rfl, c, x, dx, l, ad, _, rfl, S5, hc.re, hc.sz, fun H6 q6 l6 S6 s6' nq6 h6 hl6 hl6' => ?_⟩
            have ml : (markBy c st.spots pic (countOf c.span pic.low b0)).2.length = st.spots.length := markBy_len
            exact key2 _ _ ⟨_, _, _, _, r, q6, l6, rfl, S6, s5.trans s6', s6'.fr _ _ hr5 (.inl rfl), h6, nq6, Nat.le_trans hl6 (Nat.le_of_eq ml), markBy_rl pok, fun u hu => by
              obtain ⟨v, hv, e⟩ := roomF_ps u hu
              obtain ⟨w, hw, e2⟩ := markBy_ps v hv
              exact ⟨w, hw, e2.trans e⟩, Nat.le_trans hl6' (Nat.le_of_eq ml), eT⟩
        · refine ⟨_, rfl, _, _, rfl, .inr (T.q_ENTRIES _), rfl, rfl, _, rfl, ?_⟩
          rw [if_neg (by decide), inV_entry]
          refine ite2 (fun h1 => ?_) (fun h1 => ?_)
          · refine ⟨_, rfl, x, _, dx, _, _, rfl, S3.obj, T.cShelf, T.aShelf_is_anew, rfl, _, rfl, key4 _ _ ⟨rfl, ?_⟩⟩
            unfold anewF
            rw [h1]
            rfl
          · refine key4 _ _ ⟨rfl, ?_⟩
            rw [show isEntry pic.kind = false by simpa using h1]
            rfl
    · refine ⟨_, rfl, _, _, rfl, .inr (T.q_ENTRIES _), rfl, rfl, _, rfl, ?_⟩
      rw [if_neg (by decide), inV_entry]
      refine ite2 (fun h1 => ?_) (fun h1 => ?_)
      · rw [h1] at key
        refine ⟨_, rfl, rfl, _, rfl, ?_⟩
        rw [decS]
        refine ite2 (fun h2 => ?_) (fun h2 => ?_)
        · rw [h2] at key
          refine ⟨_, rfl, x, _, dx, _, rfl, S2.obj, T.cShelf, T.aShelf_is_anew, len5 (by show 9 ≤ 20; decide), ?_⟩
          rw [hput_anew]
          refine ⟨_, rfl, x, _, dx, _, rfl, upd_same, T.cShelf, T.aShelf_must_enter, len5 (by show 9 ≤ 20; decide), ?_⟩
          rw [hput_enter, upd2]
          refine key _ _ ⟨rfl, S2.fld rfl, s2.fld S2.obj, hP2.map fun b ys h => ?_⟩
          rcases h with (h | ⟨o, h⟩) | h
          · exact .inl (.inl (upd_off h S2.obj (by intro z; cases z)))
          · exact .inl (.inr ⟨o, upd_off h S2.obj (by intro z; cases z)⟩)
          · exact .inr h
        · rw [show decide (pic.kind = ("clean" : Str)) = false by simpa using h2] at key
          refine ⟨_, rfl, x, _, dx, _, _, rfl, S2.obj, T.cShelf, T.aShelf_must_enter, rfl, ?_⟩
          refine ⟨_, rfl, x, _, dx, _, rfl, S2.obj, T.cShelf, T.aShelf_is_anew, len5 (by show 9 ≤ 20; decide), ?_⟩
          rw [hput_anew]
          refine ⟨_, rfl, x, _, dx, _, rfl, upd_same, T.cShelf, T.aShelf_must_enter, len5 (by show 9 ≤ 20; decide), ?_⟩
          rw [hput_enter, upd2]
          refine key _ _ ⟨rfl, S2.fld rfl, s2.fld S2.obj, hP2.map fun b ys h => ?_⟩
          rcases h with (h | ⟨o, h⟩) | h
          · exact .inl (.inl (upd_off h S2.obj (by intro z; cases z)))
          · exact .inl (.inr ⟨o, upd_off h S2.obj (by intro z; cases z)⟩)
          · exact .inr h
      · have h1' : isEntry pic.kind = false := by simpa using h1
        rw [h1'] at key
        exact key _ _ ⟨rfl, S2, s2, hP2⟩
end

end L2.K13
set_option Elab.async false
set_option linter.all false
set_option maxRecDepth 100000
set_option maxHeartbeats 4000000
set_option pp.maxSteps 150
namespace L2.K13
open PySem PySem.Spec PyProof.Rows L2
open C8 (Cal Met Mak pe_c pe_mt pe_mt0 pe_mk)
local macro_rules | `(tactic| walk_at "hp") => `(tactic| first | assumption | exact upd_same | (refine upd_keep ?_ (by assumption); walk_at "hp") | (refine upd_off ?_ (by assumption) (by intro z; cases z); walk_at "hp"))
local macro_rules | `(tactic| walk_at "seq") => `(tactic| first | assumption | exact SqT.of (by walk_at "hp") | exact SqL.of (by walk_at "hp"))
section
theorem pressAll_ps {c : Cfg} : ∀ {n : Nat} {sp : List Spt}, (∀ u ∈ (pressAll c n sp).2, ∃ v ∈ sp, v.p = u.p) ∧ (pressAll c n sp).2.length ≤ sp.length
  | 0, sp => ⟨fun u hu => ⟨u, hu, rfl⟩, Nat.le_refl _⟩
  | n + 1, sp => by
    by_cases h : presses c sp = true
    · cases hb : best false (waiting sp) with
      | some t =>
        rw [pressAll_yes h hb]
        obtain ⟨i1, i2⟩ := @pressAll_ps c n (showS t sp)
        refine ⟨fun u hu => ?_, Nat.le_trans i2 (showS_len t sp)⟩
        obtain ⟨v, hv, e⟩ := i1 u hu
        obtain ⟨w, hw, e2⟩ := showS_ps v hv
        exact ⟨w, hw, e2.trans e⟩
      | none =>
        have e : pressAll c (n + 1) sp = ([], sp) := by
          show (if presses c sp then _ else _) = _
          rw [if_pos h, hb]
        rw [e]
        exact ⟨fun u hu => ⟨u, hu, rfl⟩, Nat.le_refl _⟩
    · rw [pressAll_no (by simpa using h)]
      exact ⟨fun u hu => ⟨u, hu, rfl⟩, Nat.le_refl _⟩
theorem ite_some {c : Bool} {x b : Int} {o : Option Int} (h : o = some b) : ∃ b, (if c = true then some x else o) = some b := by
  cases c
  · exact ⟨b, h⟩
  · exact ⟨x, rfl⟩
theorem makeRoom_len {c : Cfg} : ∀ {n : Nat} {sp : List Spt}, (makeRoom c n sp).2.length ≤ sp.length
  | 0, sp => Nat.le_refl _
  | n + 1, sp => by
    by_cases h : (presses c sp || decide (((sp.length : Nat) : Int) ≥ c.size)) = true
    · cases hb : best false (waiting sp) with
      | some t =>
        rw [makeRoom_show h hb]
        exact Nat.le_trans makeRoom_len (showS_len t sp)
      | none =>
        cases hb2 : best false sp with
        | some t =>
          rw [makeRoom_drop h (best_nil hb) hb2]
          exact Nat.le_trans makeRoom_len (List.length_filter_le ..)
        | none =>
          have e : makeRoom c (n + 1) sp = ([], sp) := by
            show (if (presses c sp || decide (((sp.length : Nat) : Int) ≥ c.size)) then _ else _) = _
            rw [if_pos h, hb, hb2]
          rw [e]
          exact Nat.le_refl _
    · rw [makeRoom_no (by simpa using h)]
      exact Nat.le_refl _
theorem putF_ps {c : Cfg} {sp : List Spt} {place count : Int} {shown : Bool} : (∀ u ∈ (putF' c sp place count shown).2, u.p = place ∨ ∃ v ∈ sp, v.p = u.p) ∧ (putF' c sp place count shown).2.length ≤ sp.length + 1 := by
  have key : ∀ sp1 : List Spt, sp1.map (·.p) = sp.map (·.p) → ∀ nw : Spt, nw.p = place → (∀ u ∈ (pressAll c (waiting (sp1 ++ [nw])).length (sp1 ++ [nw])).2, u.p = place ∨ ∃ v ∈ sp, v.p = u.p) ∧ (pressAll c (waiting (sp1 ++ [nw])).length (sp1 ++ [nw])).2.length ≤ sp.length + 1 := fun sp1 e1 nw en => by
    obtain ⟨i1, i2⟩ := @pressAll_ps c (waiting (sp1 ++ [nw])).length (sp1 ++ [nw])
    refine ⟨fun u hu => ?_, ?_⟩
    · obtain ⟨v, hv, e⟩ := i1 u hu
      rcases List.mem_append.mp hv with hv | hv
      · have hm : u.p ∈ sp.map (·.p) := by
          rw [← e1]
          exact List.mem_map.mpr ⟨v, hv, e⟩
        obtain ⟨w, hw, e⟩ := List.mem_map.mp hm
        exact .inr ⟨w, hw, e⟩
      · rw [List.mem_singleton.mp hv] at e
        exact .inl (e.symm.trans en)
    · refine Nat.le_trans i2 ?_
      have := congrArg List.length e1
      rw [List.length_map, List.length_map] at this
      rw [List.length_append, this]
      exact Nat.le_refl _
  cases shown with
  | false => exact key sp rfl _ rfl
  | true =>
    refine key _ ?_ _ rfl
    exact (congrArg (List.map (·.p)) (bumped_all (count := count) (sp := sp)).symm).trans (bumped_ps ..)
theorem entry_kinds {k : Str} (h : isEntry k = true) : (decide (k = ("skip" : Str)) || decide (k = ("lead" : Str))) = false := by
  unfold isEntry at h
  rcases Bool.or_eq_true_iff.mp h with h | h
  · rw [of_decide_eq_true h]
    decide +kernel
  · rw [of_decide_eq_true h]
    decide +kernel
/-- what holds of the state between two things, the next place n -/
structure StOk (n : Int) (st : Stt) : Prop where
  ps : ∀ u ∈ st.spots, u.p < n
  base : st.enter = false → ∃ b, st.base = some b
theorem takeF_ok {c : Cfg} {st : Stt} {place : Int} {t : Option Pic} (hok : ThingOk t) (h : StOk place st) : StOk (place + 1) (takeF c st place t).2 ∧ (takeF c st place t).2.spots.length ≤ st.spots.length + 1 := by
  have h0 : StOk (place + 1) st := ⟨fun u hu => by have := h.ps u hu; omega, h.base⟩
  cases t with
  | none => exact ⟨⟨h0.ps, fun z => by cases z⟩, Nat.le_succ _⟩
  | some pic =>
    cases hL : leftOut c st pic with
    | true =>
      have e : takeF c st place (some pic) = (none, st) := by
        show (if leftOut c st pic then _ else _) = _
        rw [if_pos hL]
      rw [e]
      exact ⟨h0, Nat.le_succ _⟩
    | false =>
      have pok : PicOk pic := hok
      cases hn : (isEntry pic.kind && anewF st pic) with
      | true =>
        rw [takeF_new hL hn]
        have he : isEntry pic.kind = true := (Bool.and_eq_true_iff.mp hn).1
        obtain ⟨p1, p2⟩ := @putF_ps c [] place pic.low pic.shown
        refine ⟨⟨fun u hu => ?_, fun _ => ⟨pic.low, ?_⟩⟩, Nat.le_trans p2 (Nat.succ_le_succ (Nat.zero_le _))⟩
        · rcases p1 u hu with e | ⟨v, hv, e⟩
          · rw [e]; omega
          · cases hv
        · show (if _ then some pic.low else st.base) = some pic.low
          rw [if_pos]
          rw [entry_kinds he, (pok.en he).2, decide_eq_true (pok.en he).1]
          rfl
      | false =>
        have hen := old_enter hL hn
        obtain ⟨b, hb⟩ := h.base hen
        rw [takeF_old hL hn]
        refine ⟨⟨fun u hu => ?_, fun _ => ?_⟩, ?_⟩
        · obtain ⟨p1, p2⟩ := @putF_ps c (roomF c (markBy c st.spots pic (countOf c.span pic.low (st.base.getD 0))).2).2 place (countOf c.span pic.low (st.base.getD 0)) pic.shown
          rcases p1 u hu with e | ⟨v, hv, e⟩
          · rw [e]; omega
          · obtain ⟨w, hw, e2⟩ := roomF_ps v hv
            obtain ⟨z, hz, e3⟩ := markBy_ps w hw
            have := h.ps z hz
            rw [← e, ← e2, ← e3]
            omega
        · exact ite_some hb
        · have p2 := (@putF_ps c (roomF c (markBy c st.spots pic (countOf c.span pic.low (st.base.getD 0))).2).2 place (countOf c.span pic.low (st.base.getD 0)) pic.shown).2
          refine Nat.le_trans p2 (Nat.succ_le_succ (Nat.le_trans makeRoom_len ?_))
          exact Nat.le_trans (List.length_filter_le ..) (Nat.le_of_eq markBy_len)
theorem runF_append {c : Cfg} : ∀ (a b : List (Option Pic)) (st : Stt) (i : Int), runF c st i (a ++ b) = ((runF c st i a).1 ++ (runF c (runF c st i a).2 (i + (a.length : Nat)) b).1, (runF c (runF c st i a).2 (i + (a.length : Nat)) b).2)
  | [], b, st, i => by
    show runF c st i b = ([] ++ (runF c st (i + ((0 : Nat) : Int)) b).1, (runF c st (i + ((0 : Nat) : Int)) b).2)
    rw [show i + ((0 : Nat) : Int) = i by omega, List.nil_append]
  | t :: a, b, st, i => by
    have ih := runF_append (c := c) a b (takeF c st i t).2 (i + 1)
    have e : i + 1 + ((a.length : Nat) : Int) = i + (((t :: a).length : Nat) : Int) := by rw [List.length_cons]; omega
    show ((takeF c st i t).1.toList ++ (runF c (takeF c st i t).2 (i + 1) (a ++ b)).1, (runF c (takeF c st i t).2 (i + 1) (a ++ b)).2) = _
    rw [ih, e]
    show (_ ++ (_ ++ _), _) = ((_ ++ _) ++ _, _)
    rw [List.append_assoc]
    rfl
theorem runF_ok {c : Cfg} : ∀ {ts : List (Option Pic)} {st : Stt} {i : Int}, (∀ t ∈ ts, ThingOk t) → StOk i st → StOk (i + (ts.length : Nat)) (runF c st i ts).2 ∧ (runF c st i ts).2.spots.length ≤ st.spots.length + ts.length ∧ (runF c st i ts).1.length ≤ ts.length
  | [], st, i, _, h => by
    rw [show i + ((([] : List (Option Pic)).length : Nat) : Int) = i by simp]
    exact ⟨h, Nat.le_refl _, Nat.le_refl _⟩
  | t :: ts, st, i, hok, h => by
    obtain ⟨h1, h2⟩ := takeF_ok (c := c) (hok t (List.mem_cons_self ..)) h
    obtain ⟨i1, i2, i3⟩ := @runF_ok c ts _ _ (fun u hu => hok u (List.mem_cons_of_mem _ hu)) h1
    rw [show i + (((t :: ts).length : Nat) : Int) = i + 1 + ((ts.length : Nat) : Int) by rw [List.length_cons]; omega]
    refine ⟨i1, Nat.le_trans i2 (by rw [List.length_cons]; omega), ?_⟩
    show ((takeF c st i t).1.toList ++ _).length ≤ _
    rw [List.length_append, List.length_cons]
    have : (takeF c st i t).1.toList.length ≤ 1 := by cases (takeF c st i t).1 <;> simp
    omega
theorem showAll_n : ∀ {n : Nat} {sp : List Spt}, (showAll n sp).1.length ≤ n
  | 0, sp => Nat.le_refl _
  | n + 1, sp => by
    unfold showAll
    split
    · exact Nat.zero_le _
    · exact Nat.succ_le_succ showAll_n
theorem pressAll_n {c : Cfg} : ∀ {n : Nat} {sp : List Spt}, (pressAll c n sp).1.length ≤ n
  | 0, sp => Nat.le_refl _
  | n + 1, sp => by
    unfold pressAll
    split
    · split
      · exact Nat.zero_le _
      · exact Nat.succ_le_succ pressAll_n
    · exact Nat.zero_le _
theorem makeRoom_n {c : Cfg} : ∀ {n : Nat} {sp : List Spt}, (makeRoom c n sp).1.length ≤ n
  | 0, sp => Nat.le_refl _
  | n + 1, sp => by
    unfold makeRoom
    split
    · split
      · exact Nat.succ_le_succ makeRoom_n
      · split
        · exact Nat.le_succ_of_le makeRoom_n
        · exact Nat.zero_le _
    · exact Nat.zero_le _
theorem wl (sp : List Spt) : (waiting sp).length ≤ sp.length := List.length_filter_le ..
theorem putF_n {c : Cfg} {sp : List Spt} {place count : Int} {shown : Bool} : (putF' c sp place count shown).1.length ≤ sp.length + 1 := by
  have key : ∀ sp1 : List Spt, sp1.length = sp.length → ∀ nw : Spt, (pressAll c (waiting (sp1 ++ [nw])).length (sp1 ++ [nw])).1.length ≤ sp.length + 1 := fun sp1 e nw => by
    refine Nat.le_trans pressAll_n (Nat.le_trans (wl _) ?_)
    rw [List.length_append, e]
    exact Nat.le_refl _
  cases shown with
  | false => exact key sp rfl _
  | true => exact key _ (List.length_map ..) _
def RowOk (r : Rw) : Prop := r.2.2.1.length ≤ 1000 ∧ r.2.2.2.length ≤ 1000
theorem takeF_row {c : Cfg} {st : Stt} {place : Int} {t : Option Pic} (hok : ThingOk t) (hl : st.spots.length ≤ 300) : ∀ r, (takeF c st place t).1 = some r → RowOk r := fun r hr => by
  cases t with
  | none => cases hr
  | some pic =>
    cases hL : leftOut c st pic with
    | true =>
      have e : takeF c st place (some pic) = (none, st) := by
        show (if leftOut c st pic then _ else _) = _
        rw [if_pos hL]
      rw [e] at hr
      cases hr
    | false =>
      cases hn : (isEntry pic.kind && anewF st pic) with
      | true =>
        rw [takeF_new hL hn] at hr
        cases hr
        refine ⟨Nat.zero_le _, ?_⟩
        show (clearF st.spots pic.hush ++ _).length ≤ 1000
        rw [List.length_append]
        have h1 := @putF_n c [] place pic.low pic.shown
        have h2 : (clearF st.spots pic.hush).length ≤ st.spots.length := by
          unfold clearF
          split
          · exact Nat.zero_le _
          · exact Nat.le_trans showAll_n (wl _)
        simp only [List.length_nil] at h1
        omega
      | false =>
        rw [takeF_old hL hn] at hr
        cases hr
        refine ⟨Nat.le_trans (markBy_rl hok) (by decide), ?_⟩
        show List.length ((_ : List Int) ++ _) ≤ 1000
        rw [List.length_append]
        have h1 := @putF_n c (roomF c (markBy c st.spots pic (countOf c.span pic.low (st.base.getD 0))).2).2 place (countOf c.span pic.low (st.base.getD 0)) pic.shown
        have h3 : ((markBy c st.spots pic (countOf c.span pic.low (st.base.getD 0))).2.filter fun t => decide (t.m ≠ ("" : Str)) || t.w.isSome).length ≤ st.spots.length := Nat.le_trans (List.length_filter_le ..) (Nat.le_of_eq markBy_len)
        have h2 : (roomF c (markBy c st.spots pic (countOf c.span pic.low (st.base.getD 0))).2).1.length ≤ 2 * st.spots.length := by
          refine Nat.le_trans makeRoom_n ?_
          have := wl ((markBy c st.spots pic (countOf c.span pic.low (st.base.getD 0))).2.filter fun t => decide (t.m ≠ ("" : Str)) || t.w.isSome)
          unfold sizeOf
          omega
        have h4 : (roomF c (markBy c st.spots pic (countOf c.span pic.low (st.base.getD 0))).2).2.length ≤ st.spots.length := Nat.le_trans makeRoom_len h3
        omega
theorem runF_rows {c : Cfg} : ∀ {ts : List (Option Pic)} {st : Stt} {i : Int}, (∀ t ∈ ts, ThingOk t) → StOk i st → st.spots.length + ts.length ≤ 300 → ∀ r ∈ (runF c st i ts).1, RowOk r
  | [], st, i, _, _, _, r, hr => by cases hr
  | t :: ts, st, i, hok, h, hl, r, hr => by
    rw [List.length_cons] at hl
    obtain ⟨h1, h2⟩ := takeF_ok (c := c) (hok t (List.mem_cons_self ..)) h
    rcases List.mem_append.mp hr with hr | hr
    · exact takeF_row (c := c) (st := st) (place := i) (hok t (List.mem_cons_self ..)) (by omega) r (by simpa using hr)
    · exact runF_rows (fun u hu => hok u (List.mem_cons_of_mem _ hu)) h1 (by omega) r hr
theorem to_row {r : Rw} (h : RowOk r) : TO 2 (encRow r) := by
  refine ⟨by show 4 ≤ 1000; decide, fun x hx => ?_⟩
  simp only [List.mem_cons, List.not_mem_nil, or_false] at hx
  rcases hx with rfl | rfl | rfl | rfl
  · trivial
  · trivial
  · exact to_map h.1 fun o _ => by cases o <;> trivial
  · exact to_map h.2 fun o _ => trivial
theorem st0_ok : StOk 0 st0 := ⟨fun u hu => absurd hu List.not_mem_nil, fun z => by cases z⟩
end

end L2.K13
set_option Elab.async false
set_option linter.all false
set_option maxRecDepth 100000
set_option maxHeartbeats 4000000
set_option pp.maxSteps 150
namespace L2.K13
open PySem PySem.Spec PyProof.Rows L2
open C8 (Cal Met Mak pe_c pe_mt pe_mt0 pe_mk)
local macro_rules | `(tactic| walk_at "hp") => `(tactic| first | assumption | exact upd_same | (refine upd_keep ?_ (by assumption); walk_at "hp") | (refine upd_off ?_ (by assumption) (by intro z; cases z); walk_at "hp"))
local macro_rules | `(tactic| walk_at "seq") => `(tactic| first | assumption | exact SqT.of (by walk_at "hp") | exact SqL.of (by walk_at "hp"))
section
variable {P : Program} {w : World} {K : PySem.W.Frag} {mg : Str → Option Value} {base : Heap}
/-- a def of the module with defaults -/
def DD (K : PySem.W.Frag) (mg : Str → Option Value) (x : Str) (st : Stmt) (ps : List Str) (dvs : List V) : Prop := ∃ f fd ds dfl, FunD K x x (defArgs st) (defBody st) (defScope st) dfl [] f fd ∧ mg x = some (.ref f) ∧ PySem.W.keepIn K (.ref f) = true ∧ Binds K fd ps ds ∧ Vals dvs ds
theorem DD.cal {x : Str} {st : Stmt} {N ps : List Str} {dvs : List V} {k : Nat} {sp : Sp} (F : DD K mg x st ps dvs) (S : FnScope N ps (defScope st)) (len : ∀ vs H Q E, sp vs H Q E → vs.length = ps.length)
    (hbody : ∀ (f : Addr) (cdv : Value) (A : Around) (outer : List Env) (s : Shared) (H : Hp) (vs : List V) (Q : VK) (E : XK), Room k (A.deeper (envOfC x (defScope st) s.heap.objs.size f cdv)) → sp vs H Q E →
      ∃ t, PSs (cxOf CX0 P w K mg base N x (defScope st) f cdv A outer s H E).nox (defBody st) t ∧ t { nx := fun _ H' => Q .non H', rt := Q } (start N vs) H) : Cal P w K mg base (k + 1) x sp dvs := by
  obtain ⟨f, fd, ds, _, F, hm, kp, b, d⟩ := F
  exact ⟨f, fd, ps, ds, F.ok S len fun cdv A outer s H vs Q E hr h => let ⟨t, ht, q⟩ := hbody f cdv A outer s H vs Q E hr h; ⟨t, ht.nox, q⟩, hm, kp, b, d⟩
def spRun (K : PySem.W.Frag) (T : List (Addr × Str)) : Sp := fun vs H Q _ => ∃ (sv tv : V) (top : Nat) (lo : Addr) (bits : Nat) (sizes : Sizes) (s : Int × Int × Option Int) (p : Pic) (ts : List (Option Pic)), vs = [sv, tv, .int top, .int 0, .ref lo] ∧ SqT K H lo [] ∧ Dp K H sv (encSetup bits sizes) ∧ Dp K H tv (encStream (some p :: ts)) ∧
  isEntry p.kind = true ∧ (∀ t ∈ some p :: ts, ThingOk t) ∧ ts.length < 300 ∧ bits ≤ 40 ∧ sizes.length ≤ 1000 ∧ sizes[top]? = some s ∧ CfgOk (cfgOf bits s top) ∧ LamX.Tabs T H ∧
  ∀ H' r ra la rvs, LamX.ExtN H H' → LamX.Tabs T H' → H' r = some (.tup [.ref ra, .ref la]) → H' ra = some (.lst rvs) → DpAll K H' rvs ((runAll (cfgOf bits s top) (some p :: ts)).1.map encRow) → H' la = some (.lst ((runAll (cfgOf bits s top) (some p :: ts)).2.map V.int)) → Q (.ref r) H'
theorem ok_run {T0 : List (Addr × Str)} {lo : Addr} (T : Fx K mg) (F : DD K mg "run" s_run ["setup", "stream", "top", "start", "lost"] [.int 0, .ref lo]) (c_as_tuples : Cal P w K mg base 6 "as_tuples" (spAs K 4) []) (c_look_for_entry : Cal P w K mg base 1 "look_for_entry" (spLook K) []) (c_Shelf : Mak P w K mg base 6 "Shelf" (cSh K) (spShelfInit K) [])
    (m_take : Met P w K mg base 6 (cSh K) "take" (spTake K T0) []) (m_over : Met P w K mg base 4 (cSh K) "over" (spOver K T0) []) : Cal P w K mg base 8 "run" (spRun K T0) [.int 0, .ref lo] := by
  refine F.cal sc_run (fun vs H Q E h => ?_) (fun f cdv A outer s H vs Q E hr h => ?_)
  · obtain ⟨_, _, _, _, _, _, _, _, _, rfl, _⟩ := h
    rfl
  obtain ⟨sv, tv, top, lo', bits, sizes, sz, p, ts, rfl, hlo, hsv, htv, hpe, hok, hlen, hb, hsl, hst, hc, hT, k⟩ := h
  have nd := sc_run.nd
  have hu64 := hu64_of hr
  have tS := to_setup (bits := bits) hsl
  have hall : (some p :: ts).length ≤ 300 := hlen
  have tT := to_stream (ts := some p :: ts) (Nat.le_trans hall (by decide)) hok
  refine ⟨_, (pss_cons (ps_set (i := 1) nd rfl (Or.inl rfl) (pe_c c_as_tuples hr (by first | decide | omega) (by rfl) (pa_cons (pv 1) pa_nil)))
  (pss_cons (ps_expr (pe_c c_look_for_entry hr (by first | decide | omega) (by rfl) (pa_cons (pv 1) (pa_cons (pv 3) pa_nil))))
  (pss_cons (ps_par (i := 5) (j := 6) rfl nd rfl rfl (by decide) rfl rfl (pa_cons (pe_mk c_Shelf hr (by first | decide | omega) (by rfl) (pa_cons (pv 0) (pa_cons (pv 2) pa_nil))) (pa_cons (pe_lst pa_nil) pa_nil)) rfl)
  (pss_cons (ps_for PassesOwn.never rfl (pi_range2 (by rfl) T.n_range (pa_cons (pv 3) (pa_cons (pe_callB call_len_seq (by rfl) T.n_len PySem.boot_len (pa_cons (pv 1) pa_nil)) pa_nil))) (pg_name (i := 7) nd rfl (by first | exact .inl rfl | exact .inr rfl)) (pss_cons (ps_set (i := 8) nd rfl (Or.inl rfl) (pe_ifExp (pt_cmpR op_notIn_seq (pv 7) (pv 4) (by with_unfolding_all rfl)) (pe_mt m_take hr (by first | decide | omega) (pv 5) (pa_cons (pv 7) (pa_cons (pe_ix ix_tup (pv 1) (pv 7) (fun _ _ => rfl)) pa_nil))) pe_non))
      (pss_one (ps_if (pt_cmp (pc_notN (pv 8))) (pss_one (ps_expr (pe_bm PySem.F.plainAttrs_list PySem.F.slot_list_append PySem.F.type_list_append mt_append (pv 6) (pa_cons (pv 8) pa_nil)))) pss_nil))))
  (pss_one (ps_ret (pe_tup (pa_cons (pv 6) (pa_cons (pe_mt0 m_over hr (by first | decide | omega) (pv 5)) pa_nil))))))))), ?_⟩
  refine ⟨_, rfl, tv, _, rfl, htv, tT, fun H1 v1 x1 hd1 => ?_⟩
  have xn1 := LamX.ExtN.of x1
  obtain ⟨a, xs, rfl, q1, q2⟩ := dp_tup hd1
  refine ⟨_, rfl, _, rfl, .ref a, p, ts, rfl, hd1, Nat.lt_of_lt_of_le hlen (by decide), hok, hpe, ?_⟩
  refine ⟨_, rfl, _, rfl, fun x dx nx ndx nex => ?_⟩
  have hs1 : ∀ b o, H1 b = some o → (upd (upd H1 dx (.own x)) x (.ins (cSh K) dx [])) b = some o := fun b o h => by
    rw [upd_ne (ne_of_none h nx), upd_ne (ne_of_none h ndx)]
    exact h
  refine ⟨x, dx, sv, bits, sizes, sz, top, rfl, upd_same, Dp.ext tS hsv (xn1.trans (LamX.ExtN.of hs1)), hb, hsl, hst, fun H2 l e1 e2 e3 e4 e5 => ⟨rfl, ?_⟩⟩
  refine ⟨Nat.zero_le _, fun rr hrr => ⟨_, _, rfl, ?_⟩⟩
  have k12 : Same H1 H2 := fun b o h => e4 b o (hs1 b o h) (ne_of_none h nx)
  have k23 : Same H2 (upd H2 rr (.lst [])) := fun b o h => upd_keep h hrr
  have k13 : Same H1 (upd H2 rr (.lst [])) := fun b o h => k23 b o (k12 b o h)
  let c : Cfg := cfgOf bits sz top
  let all : List (Option Pic) := some p :: ts
  let pre : Nat → List Rw × Stt := fun i => runF c st0 0 (all.take i)
  have S2 : Sh K T0 c x dx l (fun _ => 0) st0 H2 := ⟨e1, e2, SpR.nil, hT.ext fun b o h => k12 b o (x1 b o h), by show 0 < sizeLine; decide⟩
  have S3 := S2.new (o := .lst []) hrr
  have nrl : rr ≠ l := (ne_of_none e2 hrr).symm
  have orr := S3.notOw (b := rr) (o := .lst []) upd_same (by intro _ _ _ z; cases z) nrl (by intro _ z; cases z)
  have lx : xs.length = all.length := by rw [q2.1, List.length_map]
  have hlA : all.length ≤ 300 := hall
  refine ⟨_, rfl, _, rfl, a, _, rfl, .inr (SqT.extN q1 (LamX.ExtN.of k13)), 0, _, rfl, ⟨by decide, by decide, by omega, by omega⟩, ?_⟩
  rw [show (((xs.length : Nat) : Int) - 0).toNat = all.length by rw [lx]; omega]
  have preok : ∀ i, i ≤ all.length → StOk (i : Nat) (pre i).2 ∧ (pre i).2.spots.length ≤ i ∧ (pre i).1.length ≤ i := fun i hi => by
    obtain ⟨r1, r2, r3⟩ := @runF_ok c (all.take i) st0 0 (fun t ht => hok t (List.mem_of_mem_take ht)) st0_ok
    have el : (all.take i).length = i := by rw [List.length_take]; omega
    rw [el] at r1 r2 r3
    rw [show (0 : Int) + ((i : Nat) : Int) = (i : Nat) by omega] at r1
    exact ⟨r1, by rw [show st0.spots.length + i = i from Nat.zero_add i] at r2; exact r2, r3⟩
  have preR : ∀ i, ∀ r ∈ (pre i).1, RowOk r := fun i => runF_rows (fun t ht => hok t (List.mem_of_mem_take ht)) st0_ok (by
    rw [List.length_take]
    show 0 + _ ≤ 300
    omega)
  refine for_range (n := all.length) (fun i σ H' => ∃ (v7 v8 : Option V) (l' : Addr) (ad' : Int → Addr) (rvs : List V), σ = [some sv, some (.ref a), some (.int top), some (.int 0), some (.ref lo'), some (.ref x), some (.ref rr), v7, v8] ∧ Sh K T0 c x dx l' ad' (pre i).2 H' ∧
    Stp x l (fun _ => 0) [] H2 l' ad' (pre i).2.spots H' ∧ H' rr = some (.lst rvs) ∧ DpAll K H' rvs ((pre i).1.map encRow) ∧ rr ≠ l') ⟨none, none, l, fun _ => 0, [], rfl, S3, ExtN.stp (ext_new hrr), upd_same, .nil, nrl⟩ ?_ ?_
  · rintro i σ H4 hi ⟨v7, v8, l', ad', rvs, rfl, S4, s4, h4, hD4, nrl'⟩
    rw [show (0 : Int) + ((i : Nat) : Int) = (i : Nat) by omega]
    obtain ⟨ok1, ok2, ok3⟩ := preok i (Nat.le_of_lt hi)
    have hti : all[i]? = some all[i] := List.getElem?_eq_getElem hi
    have hxi : xs[i]? = some (xs[i]'(by rw [lx]; exact hi)) := List.getElem?_eq_getElem _
    have hTi : ThingOk all[i] := hok _ (List.getElem_mem hi)
    have tTi := to_thing hTi
    have hdi : Dp K H4 (xs[i]'(by rw [lx]; exact hi)) (encThing all[i]) := by
      have h1 := q2.2 i _ (encThing all[i]) hxi (by
        show (all.map encThing)[i]? = _
        rw [List.getElem?_map, hti]
        rfl)
      exact Dp.fr tTi (Dp.ext tTi h1 (LamX.ExtN.of k12)) s4.fr
    have hq4 := SqT.fr (SqT.extN q1 (LamX.ExtN.of k12)) s4.fr
    have hlo4 := SqT.fr (SqT.extN (SqT.extN hlo xn1) (LamX.ExtN.of k12)) s4.fr
    have estep : pre (i + 1) = ((pre i).1 ++ (takeF c (pre i).2 (i : Nat) all[i]).1.toList, (takeF c (pre i).2 (i : Nat) all[i]).2) := by
      show runF c st0 0 (all.take (i + 1)) = _
      have et : all.take (i + 1) = all.take i ++ [all[i]] := by
        rw [List.take_add_one, hti]
        rfl
      have el : (all.take i).length = i := by rw [List.length_take]; omega
      rw [et, runF_append, el, show (0 : Int) + ((i : Nat) : Int) = (i : Nat) by omega]
      show ((pre i).1 ++ ((takeF c (pre i).2 (i : Nat) all[i]).1.toList ++ []), (takeF c (pre i).2 (i : Nat) all[i]).2) = _
      rw [List.append_nil]
    refine ⟨_, rfl, _, rfl, lo', _, rfl, .inr hlo4, rfl, rfl, _, rfl, ifT rfl ?_⟩
    refine ⟨_, rfl, x, dx, _, rfl, S4.obj, rfl, _, rfl, _, rfl, _, rfl, a, _, i, _, rfl, rfl, hq4, atI_natE hxi, c, x, dx, l', ad', _, i, _, all[i], rfl, S4, hdi, hTi, hc, fun u hu => ?_, Nat.le_trans ok2 (by omega), ok1.base, fun H5 v' l5 ad5 S5 s5' hv5 => ?_⟩
    · have := ok1.ps u hu
      omega
    have s5 := s4.trans s5'
    have orr4 := S4.notOw h4 (by intro _ _ _ z; cases z) nrl' (by intro _ z; cases z)
    have h5 := (s5'.out h4 orr4).1
    have nrl5 : rr ≠ l5 := fun z => (s5'.out h4 orr4).2 (by rw [z]; exact .inr (.inl rfl))
    have tR : ∀ r ∈ (pre i).1, TO 2 (encRow r) := fun r hr => to_row (preR i r hr)
    have hD5 : DpAll K H5 rvs ((pre i).1.map encRow) := by
      have a2 := dpAll_2 hD4
      refine dpAll_of ⟨a2.1, fun j y z hy hz => ?_⟩
      obtain ⟨r, hr, rfl⟩ := List.mem_map.mp (List.mem_of_getElem? hz)
      exact Dp.fr (tR r hr) (a2.2 j y _ hy hz) s5'.fr
    refine ⟨_, rfl, _, rfl, ?_⟩
    cases hr : (takeF c (pre i).2 (i : Nat) all[i]).1 with
    | none =>
      rw [hr] at hv5
      cases hv5
      refine ifF rfl ⟨_, _, l5, ad5, rvs, rfl, ?_, ?_, h5, ?_, nrl5⟩
      · rw [estep]; exact S5
      · rw [estep]; exact s5
      · rw [estep, hr]
        show DpAll K H5 rvs (((pre i).1 ++ []).map encRow)
        rw [List.append_nil]
        exact hD5
    | some row =>
      rw [hr] at hv5
      obtain ⟨b, ys, rfl, g1, g2⟩ := dp_tup (show Dp K H5 v' (.tuple _) from hv5)
      refine ifT rfl ⟨_, rfl, .inl ⟨rfl, _, SqL.of h5⟩, _, rfl, rr, _, _, rfl, rfl, h5, ?_, ?_⟩
      · have := (dpAll_2 hD5).1
        rw [this, List.length_map]
        exact Nat.lt_of_le_of_lt ok3 (Nat.lt_of_lt_of_le hi (Nat.le_trans hlA (by decide)))
      have tRow : TO 2 (encRow row) := to_row (takeF_row hTi (Nat.le_trans ok2 (by omega)) row hr)
      have toF : ∀ {n : Nat} {w : V} {z : PyData}, TO n z → Dp K H5 w z → Dp K (upd H5 rr (.lst (rvs ++ [.ref b]))) w z := fun tz hz => Dp.to (fun b ys h => by
        rcases h with (h | ⟨o, h⟩) | h
        · exact .inl (.inl (upd_off h h5 (by intro z; cases z)))
        · exact .inl (.inr ⟨o, upd_off h h5 (by intro z; cases z)⟩)
        · exact .inr h) tz hz
      refine ⟨_, _, l5, ad5, rvs ++ [.ref b], rfl, ?_, ?_, upd_same, ?_, nrl5⟩
      · rw [estep]; exact S5.off h5 nrl5
      · rw [estep]
        exact s5.loc (.inr hrr) h5
      · rw [estep, hr]
        show DpAll K _ (rvs ++ [.ref b]) (((pre i).1 ++ [row]).map encRow)
        rw [List.map_append]
        have a2 := dpAll_2 hD5
        refine dpAll_of (All2.append ⟨a2.1, fun j y z hy hz => ?_⟩ ⟨rfl, fun j y z hy hz => ?_⟩)
        · obtain ⟨r, hr, rfl⟩ := List.mem_map.mp (List.mem_of_getElem? hz)
          exact toF (tR r hr) (a2.2 j y _ hy hz)
        · cases j with
          | zero =>
            simp only [List.map_cons, List.map_nil, List.getElem?_cons_zero, Option.some.injEq] at hy hz
            rw [← hy, ← hz]
            exact toF tRow hv5
          | succ j => simp at hy
  · rintro σ H4 ⟨v7, v8, l', ad', rvs, rfl, S4, s4, h4, hD4, nrl'⟩
    have epre : pre all.length = runF c st0 0 all := by
      show runF c st0 0 (all.take all.length) = _
      rw [List.take_length]
    have hrs := preR all.length
    have hlen4 := (preok all.length (Nat.le_refl _)).2.1
    rw [epre] at S4 s4 hD4 hrs hlen4
    refine ⟨_, rfl, _, rfl, x, dx, _, rfl, S4.obj, rfl, c, x, dx, l', ad', _, rfl, S4, fun H5 la l5 S5 s5' hla nla h5 hll => ⟨by show 2 ≤ sizeLine; decide, fun r hr' => ?_⟩⟩
    have s5 := s4.trans s5'
    have hrr5 := (s5'.out h4 (S4.notOw h4 (by intro _ _ _ z; cases z) nrl' (by intro _ z; cases z))).1
    have x6 : Same H5 (upd H5 r (.tup [.ref rr, .ref la])) := fun b o h => upd_keep h hr'
    have hx0 : H x = none := by
      cases e : H x with
      | none => rfl
      | some o =>
        rw [x1 _ _ e] at nx
        cases nx
    have hl1 : H1 l = none := by
      cases e : H1 l with
      | none => rfl
      | some o =>
        rw [hs1 _ _ e] at e3
        cases e3
    have fresh1 : ∀ b, H1 b = none → H b = none := fun b h => by
      cases e : H b with
      | none => rfl
      | some o =>
        rw [x1 _ _ e] at h
        cases h
    have eN : LamX.ExtN H H5 := fun b o h n => by
      have h2 := k12 b o (x1 b o h)
      refine s5.fr b o h2 (.inr fun z => ?_)
      rcases z with z | z | ⟨t, ht, z⟩ | ⟨ps, z⟩
      · rw [z, hx0] at h
        cases h
      · rw [z, fresh1 l hl1] at h
        cases h
      · cases ht
      · rw [h2] at z
        exact n ps (Option.some.inj z)
    refine k _ r rr la rvs (eN.trans (LamX.ExtN.of x6)) (S5.tabs.ext x6) upd_same (x6 _ _ hrr5) ?_ (x6 _ _ h5)
    · have a2 := dpAll_2 hD4
      refine dpAll_of ⟨a2.1, fun j y z hy hz => ?_⟩
      obtain ⟨w, hw, rfl⟩ := List.mem_map.mp (List.mem_of_getElem? hz)
      have tw := to_row (hrs w hw)
      exact Dp.ext tw (Dp.fr tw (a2.2 j y _ hy hz) s5'.fr) (LamX.ExtN.of x6)
end

end L2.K13
set_option Elab.async false
set_option linter.all false
set_option maxRecDepth 100000
set_option maxHeartbeats 4000000
set_option pp.maxSteps 150
namespace L2.K13
open PySem PySem.Spec PyProof.Rows L2
open C8 (Cal Met Mak pe_c pe_mt pe_mt0 pe_mk)
local macro_rules | `(tactic| walk_at "hp") => `(tactic| first | assumption | exact upd_same | (refine upd_keep ?_ (by assumption); walk_at "hp") | (refine upd_off ?_ (by assumption) (by intro z; cases z); walk_at "hp"))
local macro_rules | `(tactic| walk_at "seq") => `(tactic| first | assumption | exact SqT.of (by walk_at "hp") | exact SqL.of (by walk_at "hp"))
section
theorem kLt_eq (a b : Int × Int) : kLt a b = (decide (a.1 < b.1) || (!decide (b.1 < a.1) && (decide (a.2 < b.2)))) := by
  have e : kLt a b = (decide ((1 : Int) < 1) || (!decide ((1 : Int) < 1) && (decide (a.1 < b.1) || (!decide (b.1 < a.1) && (decide ((1 : Int) < 1) || (!decide ((1 : Int) < 1) && (decide (a.2 < b.2) || (!decide (b.2 < a.2) && (decide ((0 : Int) < 0) || (!decide ((0 : Int) < 0) && false)))))))))) := by
    unfold kLt kD PySem.W.dataLt
    simp only [PySem.W.keyToks, PySem.W.keyToksAll, List.cons_append, List.nil_append]
    rfl
  rw [e]
  simp
theorem kLt_shift (a b : Int × Int) (k : Int) : kLt (a.1, a.2 + k) (b.1, b.2 + k) = kLt a b := by
  rw [kLt_eq, kLt_eq]
  simp
/-! ### the mirror moved on -/
def sh (k : Int) (s : Spt) : Spt := { s with p := s.p + k }
theorem kB_shift (mx : Bool) (a b : Int × Int) (k : Int) : kB mx (a.1, a.2 + k) (b.1, b.2 + k) = kB mx a b := by
  cases mx <;> exact kLt_shift _ _ k
theorem argBest_congr {f g : Nat → Nat → Bool} {n : Nat} (h : ∀ i j, i ≤ n → j ≤ n → f i j = g i j) : ∀ k, k ≤ n → argBest f k = argBest g k
  | 0, _ => rfl
  | k + 1, hk => by
    have ih := argBest_congr h k (Nat.le_of_succ_le hk)
    show (if f (k + 1) (argBest f k) then k + 1 else argBest f k) = (if g (k + 1) (argBest g k) then k + 1 else argBest g k)
    rw [ih, h (k + 1) (argBest g k) hk (Nat.le_trans (argBest_le g k) (Nat.le_of_succ_le hk))]
theorem best_sh (k : Int) (mx : Bool) (l : List Spt) : best mx (l.map (sh k)) = (best mx l).map (sh k) := by
  unfold best
  rw [List.length_map, List.getElem?_map]
  cases l with
  | nil => rfl
  | cons a r =>
    have e : argBest (kBt mx (((a :: r).map (sh k)).map Spt.key)) ((a :: r).length - 1) = argBest (kBt mx ((a :: r).map Spt.key)) ((a :: r).length - 1) := by
      refine argBest_congr (n := (a :: r).length - 1) (fun i j hi hj => ?_) _ (Nat.le_refl _)
      have gi : ∀ i, i ≤ (a :: r).length - 1 → (((a :: r).map (sh k)).map Spt.key).getD i (0, 0) = ((((a :: r).map Spt.key).getD i (0, 0)).1, (((a :: r).map Spt.key).getD i (0, 0)).2 + k) := fun i hi => by
        have hlt : i < (a :: r).length := by rw [List.length_cons] at hi ⊢; omega
        rw [List.getD_eq_getElem?_getD, List.getD_eq_getElem?_getD, List.getElem?_map, List.getElem?_map, List.getElem?_map, List.getElem?_eq_getElem hlt]
        rfl
      unfold kBt
      rw [gi i hi, gi j hj]
      exact kB_shift mx _ _ k
    rw [e]
theorem filter_sh {q : Spt → Bool} (k : Int) (h : ∀ s, q (sh k s) = q s) (l : List Spt) : (l.map (sh k)).filter q = (l.filter q).map (sh k) := by
  rw [List.filter_map]
  exact congrArg (List.map (sh k)) (List.filter_congr fun s _ => h s)
theorem waiting_sh (k : Int) (l : List Spt) : waiting (l.map (sh k)) = (waiting l).map (sh k) := filter_sh k (fun _ => rfl) l
theorem eqp (k a b : Int) : (a + k = b + k) ↔ a = b := by omega
theorem showS_sh (k : Int) (t : Spt) (l : List Spt) : showS (sh k t) (l.map (sh k)) = (showS t l).map (sh k) := by
  have e1 : chg (sh k t).p unw (l.map (sh k)) = (chg t.p unw l).map (sh k) := by
    unfold chg
    rw [List.map_map, List.map_map]
    refine List.map_congr_left fun u _ => ?_
    show (if u.p + k = t.p + k then unw (sh k u) else sh k u) = sh k (if u.p = t.p then unw u else u)
    by_cases h : u.p = t.p
    · rw [if_pos h, if_pos (by rw [h])]
      rfl
    · rw [if_neg h, if_neg fun z => h ((eqp k _ _).mp z)]
  rw [showS_chg, showS_chg, e1]
  show (if t.m = ("" : Str) then _ else _) = _
  split
  · rw [List.filter_map]
    refine congrArg (List.map (sh k)) (List.filter_congr fun u _ => ?_)
    show decide (u.p + k ≠ t.p + k) = decide (u.p ≠ t.p)
    exact decide_eq_decide.mpr (not_congr (eqp k _ _))
  · rfl
theorem presses_sh (c : Cfg) (k : Int) (l : List Spt) : presses c (l.map (sh k)) = presses c l := by
  unfold presses
  rw [waiting_sh, List.length_map]
  cases c.wait with
  | none => rfl
  | some b =>
    show (_ || ((waiting l).map (sh k)).any _) = _
    rw [List.any_map]
    rfl
theorem showAll_sh (k : Int) : ∀ (n : Nat) (l : List Spt), showAll n (l.map (sh k)) = ((showAll n l).1.map (· + k), (showAll n l).2.map (sh k))
  | 0, l => rfl
  | n + 1, l => by
    unfold showAll
    rw [waiting_sh, best_sh]
    cases best false (waiting l) with
    | none => rfl
    | some t =>
      show ((sh k t).p :: (showAll n (showS (sh k t) (l.map (sh k)))).1, (showAll n (showS (sh k t) (l.map (sh k)))).2) = _
      rw [showS_sh, showAll_sh k n]
      rfl
theorem pressAll_sh (c : Cfg) (k : Int) : ∀ (n : Nat) (l : List Spt), pressAll c n (l.map (sh k)) = ((pressAll c n l).1.map (· + k), (pressAll c n l).2.map (sh k))
  | 0, l => rfl
  | n + 1, l => by
    unfold pressAll
    rw [presses_sh, waiting_sh, best_sh]
    cases presses c l with
    | false => rfl
    | true =>
      cases best false (waiting l) with
      | none => rfl
      | some t =>
        show ((sh k t).p :: (pressAll c n (showS (sh k t) (l.map (sh k)))).1, (pressAll c n (showS (sh k t) (l.map (sh k)))).2) = _
        rw [showS_sh, pressAll_sh c k n]
        rfl
theorem makeRoom_sh (c : Cfg) (k : Int) : ∀ (n : Nat) (l : List Spt), makeRoom c n (l.map (sh k)) = ((makeRoom c n l).1.map (· + k), (makeRoom c n l).2.map (sh k))
  | 0, l => rfl
  | n + 1, l => by
    unfold makeRoom
    rw [presses_sh, waiting_sh, best_sh, best_sh, List.length_map]
    cases (presses c l || decide (((l.length : Nat) : Int) ≥ c.size)) with
    | false => rfl
    | true =>
      cases best false (waiting l) with
      | some t =>
        show ((sh k t).p :: (makeRoom c n (showS (sh k t) (l.map (sh k)))).1, (makeRoom c n (showS (sh k t) (l.map (sh k)))).2) = _
        rw [showS_sh, makeRoom_sh c k n]
        rfl
      | none =>
        cases best false l with
        | none => rfl
        | some t =>
          show makeRoom c n ((l.map (sh k)).filter fun u => decide (u.p ≠ t.p + k)) = _
          have e : ((l.map (sh k)).filter fun u => decide (u.p ≠ t.p + k)) = (l.filter fun u => decide (u.p ≠ t.p)).map (sh k) := by
            rw [List.filter_map]
            refine congrArg (List.map (sh k)) (List.filter_congr fun u _ => ?_)
            show decide (u.p + k ≠ t.p + k) = decide (u.p ≠ t.p)
            exact decide_eq_decide.mpr (not_congr (eqp k _ _))
          rw [e, makeRoom_sh c k n]
          rfl
theorem showF_sh (k : Int) (l : List Spt) : showF (l.map (sh k)) = ((showF l).1.map (· + k), (showF l).2.map (sh k)) := by
  unfold showF
  rw [waiting_sh, List.length_map, showAll_sh]
theorem roomF_sh (c : Cfg) (k : Int) (l : List Spt) : roomF c (l.map (sh k)) = ((roomF c l).1.map (· + k), (roomF c l).2.map (sh k)) := by
  unfold roomF
  dsimp only
  rw [filter_sh (q := fun t => decide (t.m ≠ ("" : Str)) || t.w.isSome) k (fun _ => rfl)]
  have e : sizeOf ((l.filter fun t => decide (t.m ≠ ("" : Str)) || t.w.isSome).map (sh k)) = sizeOf (l.filter fun t => decide (t.m ≠ ("" : Str)) || t.w.isSome) := by
    unfold sizeOf
    rw [waiting_sh, List.length_map, List.length_map]
  rw [e, makeRoom_sh]
theorem putF_sh (c : Cfg) (k : Int) (l : List Spt) (place count : Int) (shown : Bool) : putF' c (l.map (sh k)) (place + k) count shown = ((putF' c l place count shown).1.map (· + k), (putF' c l place count shown).2.map (sh k)) := by
  have key : ∀ (l1 l2 : List Spt), l1 = l2.map (sh k) → ∀ wt : Option Int, pressAll c (waiting (l1 ++ [⟨count, place + k, "short", wt⟩])).length (l1 ++ [⟨count, place + k, "short", wt⟩]) = ((pressAll c (waiting (l2 ++ [⟨count, place, "short", wt⟩])).length (l2 ++ [⟨count, place, "short", wt⟩])).1.map (· + k), (pressAll c (waiting (l2 ++ [⟨count, place, "short", wt⟩])).length (l2 ++ [⟨count, place, "short", wt⟩])).2.map (sh k)) := fun l1 l2 e wt => by
    have e2 : l1 ++ [⟨count, place + k, "short", wt⟩] = (l2 ++ [(⟨count, place, "short", wt⟩ : Spt)]).map (sh k) := by
      rw [e, List.map_append]
      rfl
    rw [e2, waiting_sh, List.length_map, pressAll_sh]
  cases shown with
  | false => exact key _ _ rfl _
  | true =>
    refine key _ _ ?_ _
    show (l.map (sh k)).map _ = (l.map _).map (sh k)
    rw [List.map_map, List.map_map]
    refine List.map_congr_left fun u _ => ?_
    show (match u.w with | some i => if u.c > count then { sh k u with w := some (i + 1) } else sh k u | none => sh k u) = sh k (match u.w with | some i => if u.c > count then { u with w := some (i + 1) } else u | none => u)
    cases u.w with
    | none => rfl
    | some i =>
      show (if u.c > count then _ else _) = sh k (if u.c > count then _ else _)
      split <;> rfl
theorem longN_sh (c : Cfg) (k : Int) (l : List Spt) (count : Int) (n : Int × Int × Bool) : longN c (l.map (sh k)) count n = (longN c l count n).map (sh k) := by
  unfold longN
  dsimp only
  rw [filter_sh (q := fun t => decide (t.m ≠ ("" : Str)) && decide (t.c % c.span = n.1)) k (fun _ => rfl)]
  split
  · rw [filter_sh (q := fun t => decide (t.c = count - count % c.span - n.2.1 * c.span + n.1)) k (fun _ => rfl), best_sh]
  · rw [best_sh]
theorem shortN_sh (k : Int) (l : List Spt) (count : Int) (tk : List (Option Int)) (n : Int × Bool) : shortN (l.map (sh k)) count (tk.map (·.map (· + k))) n = (shortN l count tk n).map (sh k) := by
  unfold shortN
  rw [filter_sh (q := fun t => decide (t.m = ("short" : Str)) && decide (t.c = count + n.1)) k (fun _ => rfl), List.filter_map, List.getLast?_map]
  refine congrArg (Option.map (sh k)) (congrArg List.getLast? (List.filter_congr fun u _ => ?_))
  show (!decide (some (u.p + k) ∈ tk.map (·.map (· + k)))) = !decide (some u.p ∈ tk)
  refine congrArg (! ·) (decide_eq_decide.mpr ?_)
  rw [List.mem_map]
  constructor
  · rintro ⟨o, ho, e⟩
    cases o with
    | none => cases e
    | some p =>
      have : p + k = u.p + k := Option.some.inj e
      rw [(eqp k _ _).mp this] at ho
      exact ho
  · intro h
    exact ⟨_, h, rfl⟩
theorem optmap (k : Int) (o : Option Spt) : (o.map (sh k)).map Spt.p = (o.map Spt.p).map (· + k) := by cases o <;> rfl
theorem mem_os (k : Int) (tk : List (Option Int)) (p : Int) : (some (p + k) ∈ tk.map (·.map (· + k))) ↔ some p ∈ tk := by
  rw [List.mem_map]
  constructor
  · rintro ⟨o, ho, e⟩
    cases o with
    | none => cases e
    | some q =>
      have : q + k = p + k := Option.some.inj e
      rw [(eqp k _ _).mp this] at ho
      exact ho
  · intro h
    exact ⟨_, h, rfl⟩
theorem markBy_sh (c : Cfg) (k : Int) (l : List Spt) (pic : Pic) (count : Int) : markBy c (l.map (sh k)) pic count = ((markBy c l pic count).1.map (·.map (· + k)), (markBy c l pic count).2.map (sh k)) := by
  unfold markBy
  dsimp only
  have e1 : pic.longs.map (fun n => (longN c (l.map (sh k)) count n).map Spt.p) = (pic.longs.map fun n => (longN c l count n).map Spt.p).map (·.map (· + k)) := by
    rw [List.map_map]
    refine List.map_congr_left fun n _ => ?_
    rw [longN_sh, optmap]
    rfl
  have e2 : ∀ LO : List (Option Int), pic.shorts.map (fun n => (shortN (l.map (sh k)) count (LO.map (·.map (· + k))) n).map Spt.p) = (pic.shorts.map fun n => (shortN l count LO n).map Spt.p).map (·.map (· + k)) := fun LO => by
    rw [List.map_map]
    refine List.map_congr_left fun n _ => ?_
    rw [shortN_sh, optmap]
    rfl
  have e3 : ∀ LO SO : List (Option Int), (l.map (sh k)).map (fun t => { t with m := if some t.p ∈ LO.map (·.map (· + k)) then ("long" : Str) else if some t.p ∈ SO.map (·.map (· + k)) then ("short" : Str) else ("" : Str) }) = (l.map fun t => { t with m := if some t.p ∈ LO then ("long" : Str) else if some t.p ∈ SO then ("short" : Str) else ("" : Str) }).map (sh k) := fun LO SO => by
    rw [List.map_map, List.map_map]
    refine List.map_congr_left fun u _ => ?_
    show ({ sh k u with m := if some (u.p + k) ∈ LO.map (·.map (· + k)) then ("long" : Str) else if some (u.p + k) ∈ SO.map (·.map (· + k)) then ("short" : Str) else ("" : Str) } : Spt) = sh k { u with m := if some u.p ∈ LO then ("long" : Str) else if some u.p ∈ SO then ("short" : Str) else ("" : Str) }
    simp only [mem_os]
    rfl
  rw [e1, e2]
  refine Prod.ext ?_ (e3 _ _)
  show (List.filter (·.2) (List.zip (_ ++ _) _)).map (·.1) = ((List.filter (·.2) (List.zip (_ ++ _) _)).map (·.1)).map _
  rw [← List.map_append, List.zip_map_left, List.filter_map, List.map_map, List.map_map]
  rfl
def shR (k : Int) (r : Rw) : Rw := (r.1 + k, r.2.1, r.2.2.1.map (·.map (· + k)), r.2.2.2.map (· + k))
def shT (k : Int) (st : Stt) : Stt := { st with spots := st.spots.map (sh k) }
theorem takeF_sh (c : Cfg) (k : Int) (st : Stt) (place : Int) (t : Option Pic) : takeF c (shT k st) (place + k) t = ((takeF c st place t).1.map (shR k), shT k (takeF c st place t).2) := by
  cases t with
  | none => rfl
  | some pic =>
    have eL : leftOut c (shT k st) pic = leftOut c st pic := rfl
    have eA : anewF (shT k st) pic = anewF st pic := rfl
    cases hL : leftOut c st pic with
    | true =>
      have e : ∀ st, leftOut c st pic = true → ∀ p, takeF c st p (some pic) = (none, st) := fun st h p => by
        show (if leftOut c st pic then _ else _) = _
        rw [if_pos h]
      rw [e st hL, e (shT k st) (eL.trans hL)]
      rfl
    | false =>
      cases hn : (isEntry pic.kind && anewF st pic) with
      | true =>
        rw [takeF_new hL hn, takeF_new (eL.trans hL) (by rw [eA]; exact hn)]
        have e1 := putF_sh c k [] place pic.low pic.shown
        rw [List.map_nil] at e1
        have e2 : clearF (shT k st).spots pic.hush = (clearF st.spots pic.hush).map (· + k) := by
          unfold clearF
          split
          · rfl
          · show (showF (st.spots.map (sh k))).1 = _
            rw [showF_sh]
        rw [e1, e2]
        rw [← List.map_append]
        rfl
      | false =>
        rw [takeF_old hL hn, takeF_old (eL.trans hL) (by rw [eA]; exact hn)]
        show (some (place + k, _, (markBy c (st.spots.map (sh k)) pic (countOf c.span pic.low (st.base.getD 0))).1, (roomF c (markBy c (st.spots.map (sh k)) pic (countOf c.span pic.low (st.base.getD 0))).2).1 ++ (putF' c (roomF c (markBy c (st.spots.map (sh k)) pic (countOf c.span pic.low (st.base.getD 0))).2).2 (place + k) (countOf c.span pic.low (st.base.getD 0)) pic.shown).1),
          ({ spots := (putF' c (roomF c (markBy c (st.spots.map (sh k)) pic (countOf c.span pic.low (st.base.getD 0))).2).2 (place + k) (countOf c.span pic.low (st.base.getD 0)) pic.shown).2, base := _, anew := _, enter := _ } : Stt)) = _
        rw [markBy_sh]
        dsimp only
        rw [roomF_sh]
        dsimp only
        rw [putF_sh]
        dsimp only
        rw [← List.map_append]
        rfl
theorem runF_sh (c : Cfg) (k : Int) : ∀ (ts : List (Option Pic)) (st : Stt) (i : Int), runF c (shT k st) (i + k) ts = ((runF c st i ts).1.map (shR k), shT k (runF c st i ts).2)
  | [], _, _ => rfl
  | t :: ts, st, i => by
    show ((takeF c (shT k st) (i + k) t).1.toList ++ (runF c (takeF c (shT k st) (i + k) t).2 (i + k + 1) ts).1, (runF c (takeF c (shT k st) (i + k) t).2 (i + k + 1) ts).2) = _
    rw [takeF_sh]
    dsimp only
    rw [show i + k + 1 = i + 1 + k by omega, runF_sh c k ts]
    show (_ ++ List.map (shR k) (runF c (takeF c st i t).2 (i + 1) ts).1, _) = (List.map (shR k) (_ ++ (runF c (takeF c st i t).2 (i + 1) ts).1), _)
    rw [List.map_append]
    cases (takeF c st i t).1 <;> rfl
def dueR (k : Int) (pre : List Int) : List Rw → List Rw
  | [] => []
  | r :: rs => (r.1 + k, r.2.1, r.2.2.1.map (·.map (· + k)), pre ++ r.2.2.2.map (· + k)) :: rs.map (shR k)
theorem runAll_both {c : Cfg} {A mid bs : List (Option Pic)} {b0 : Pic} (ht : 0 ≤ c.top) (ok : PicOk b0) (he : isEntry b0.kind = true) (hm : mid = [none] ∨ (mid = [] ∧ b0.kind = ("clean" : Str))) :
    runAll c (A ++ mid ++ (some b0 :: bs)) = ((runAll c A).1 ++ dueR (((A ++ mid).length : Nat) : Int) (if b0.hush then [] else (runAll c A).2) (runAll c (some b0 :: bs)).1, (runAll c (some b0 :: bs)).2.map (· + (((A ++ mid).length : Nat) : Int))) := by
  obtain ⟨stM, eM, eS, eA⟩ : ∃ stM, runF c st0 0 (A ++ mid) = ((runF c st0 0 A).1, stM) ∧ stM.spots = (runF c st0 0 A).2.spots ∧ (decide (b0.kind = ("clean" : Str)) || stM.enter) = true := by
    rcases hm with rfl | ⟨rfl, hk⟩
    · refine ⟨{ (runF c st0 0 A).2 with enter := true }, ?_, rfl, Bool.or_true _⟩
      rw [runF_append]
      show ((runF c st0 0 A).1 ++ ([] ++ []), _) = _
      rw [List.append_nil, List.append_nil]
      rfl
    · refine ⟨(runF c st0 0 A).2, by rw [List.append_nil], rfl, by rw [decide_eq_true hk]; rfl⟩
  have hleft : ∀ st : Stt, leftOut c st b0 = false := fun st => by
    unfold leftOut
    rw [he, (ok.en he).1, decide_eq_false (by omega)]
    rfl
  have hnew : ∀ st : Stt, (decide (b0.kind = ("clean" : Str)) || st.enter) = true → (isEntry b0.kind && anewF st b0) = true := fun st h => by
    unfold anewF
    rw [he, if_pos rfl, h]
    rfl
  generalize hk : (((A ++ mid).length : Nat) : Int) = k
  have e0 := @takeF_new c st0 0 b0 (hleft _) (hnew _ (Bool.or_true _))
  have e1 := @takeF_new c stM k b0 (hleft _) (hnew _ eA)
  have ep := putF_sh c k [] 0 b0.low b0.shown
  rw [List.map_nil, show (0 : Int) + k = k by omega] at ep
  rw [ep] at e1
  have eB0 : (if b0.layer = 0 && b0.kept && !(decide (b0.kind = ("skip" : Str)) || decide (b0.kind = ("lead" : Str))) then some b0.low else stM.base) = some b0.low := by
    rw [if_pos]
    rw [entry_kinds he, (ok.en he).2, decide_eq_true (ok.en he).1]
    rfl
  have eB1 : (if b0.layer = 0 && b0.kept && !(decide (b0.kind = ("skip" : Str)) || decide (b0.kind = ("lead" : Str))) then some b0.low else st0.base) = some b0.low := by
    rw [if_pos]
    rw [entry_kinds he, (ok.en he).2, decide_eq_true (ok.en he).1]
    rfl
  rw [eB0, he, if_pos rfl, if_pos rfl, eA] at e1
  rw [eB1, he, if_pos rfl, if_pos rfl, show (decide (b0.kind = ("clean" : Str)) || st0.enter) = true from Bool.or_true _] at e0
  have ecl : clearF st0.spots b0.hush = [] := by
    unfold clearF
    split <;> rfl
  rw [ecl, List.nil_append] at e0
  have es : (⟨(putF' c [] 0 b0.low b0.shown).2.map (sh k), some b0.low, true, false⟩ : Stt) = shT k ⟨(putF' c [] 0 b0.low b0.shown).2, some b0.low, true, false⟩ := rfl
  have hrun0 : runF c st0 0 (some b0 :: bs) = ((0, b0.low, [], (putF' c [] 0 b0.low b0.shown).1) :: (runF c ⟨(putF' c [] 0 b0.low b0.shown).2, some b0.low, true, false⟩ (0 + 1) bs).1, (runF c ⟨(putF' c [] 0 b0.low b0.shown).2, some b0.low, true, false⟩ (0 + 1) bs).2) := by
    show ((takeF c st0 0 (some b0)).1.toList ++ (runF c (takeF c st0 0 (some b0)).2 (0 + 1) bs).1, (runF c (takeF c st0 0 (some b0)).2 (0 + 1) bs).2) = _
    rw [e0]
    rfl
  have hrun1 : runF c stM k (some b0 :: bs) = ((k, b0.low, [], clearF stM.spots b0.hush ++ (putF' c [] 0 b0.low b0.shown).1.map (· + k)) :: (runF c ⟨(putF' c [] 0 b0.low b0.shown).2, some b0.low, true, false⟩ (0 + 1) bs).1.map (shR k), shT k (runF c ⟨(putF' c [] 0 b0.low b0.shown).2, some b0.low, true, false⟩ (0 + 1) bs).2) := by
    show ((takeF c stM k (some b0)).1.toList ++ (runF c (takeF c stM k (some b0)).2 (k + 1) bs).1, (runF c (takeF c stM k (some b0)).2 (k + 1) bs).2) = _
    rw [e1]
    dsimp only
    rw [es, show k + 1 = 0 + 1 + k by omega, runF_sh]
    rfl
  unfold runAll
  dsimp only
  rw [runF_append, eM, show (0 : Int) + (((A ++ mid).length : Nat) : Int) = k by rw [← hk]; omega]
  dsimp only
  rw [hrun1, hrun0]
  dsimp only
  have eC : clearF stM.spots b0.hush = if b0.hush then [] else (showF (runF c st0 0 A).2.spots).1 := by
    unfold clearF
    rw [eS]
  refine Prod.ext ?_ ?_
  · show (runF c st0 0 A).1 ++ _ = (runF c st0 0 A).1 ++ _
    refine congrArg ((runF c st0 0 A).1 ++ ·) ?_
    rw [eC]
    show (_ :: _) = (_ :: _)
    rw [show (0 : Int) + k = k by omega]
    rfl
  · show (showF ((runF c _ (0 + 1) bs).2.spots.map (sh k))).1 = _
    rw [showF_sh]
end

end L2.K13
set_option Elab.async false
set_option linter.all false
set_option maxRecDepth 100000
set_option maxHeartbeats 4000000
set_option pp.maxSteps 150
namespace L2.K13
open PySem PySem.Spec PyProof.Rows L2
open C8 (Cal Met Mak pe_c pe_mt pe_mt0 pe_mk)
local macro_rules | `(tactic| walk_at "hp") => `(tactic| first | assumption | exact upd_same | (refine upd_keep ?_ (by assumption); walk_at "hp") | (refine upd_off ?_ (by assumption) (by intro z; cases z); walk_at "hp"))
local macro_rules | `(tactic| walk_at "seq") => `(tactic| first | assumption | exact SqT.of (by walk_at "hp") | exact SqL.of (by walk_at "hp"))
section
def bxV (a0 a1 a2 : Int) : List V := [.int a0, .int a1, .int a2]
/-- the box: the script's number, its rest, how many were taken (at most n) -/
def Box (H : Hp) (b : Addr) (n : Nat) : Prop := ∃ a0 a1 a2 : Int, H b = some (.lst (bxV a0 a1 a2)) ∧ 0 ≤ a0 ∧ 0 ≤ a1 ∧ 0 ≤ a2 ∧ a2 ≤ n
abbrev only (b : Addr) : Addr → Prop := fun y => y = b
theorem Box.le {H : Hp} {b : Addr} {n m : Nat} (h : Box H b n) (e : n ≤ m) : Box H b m := by
  obtain ⟨a0, a1, a2, h1, h2, h3, h4, h5⟩ := h
  exact ⟨a0, a1, a2, h1, h2, h3, h4, by omega⟩
theorem Box.fr {S : Addr → Prop} {H H' : Hp} {b : Addr} {n : Nat} (h : Box H b n) (f : Fr S H H') (e : ¬ S b) : Box H' b n := by
  obtain ⟨a0, a1, a2, h1, h2⟩ := h
  exact ⟨a0, a1, a2, f _ _ h1 (.inr e), h2⟩
theorem Box.new {H : Hp} {b p : Addr} {o : HO} {n : Nat} (h : Box H b n) (hp : H p = none) : Box (upd H p o) b n := by
  obtain ⟨a0, a1, a2, h1, h2⟩ := h
  exact ⟨a0, a1, a2, upd_keep h1 hp, h2⟩
theorem Box.ne {H : Hp} {b p : Addr} {n : Nat} (h : Box H b n) (hp : H p = none) : p ≠ b := fun e => by
  obtain ⟨a0, a1, a2, h1, h2⟩ := h
  rw [e, h1] at hp
  cases hp
theorem cmul01 (i : Int) (b : Bool) : CMul i (if b = true then 1 else 0) := by
  cases b
  · exact .inr ⟨by decide, by decide⟩
  · exact .inr ⟨by decide, by decide⟩
theorem nn01 (b : Bool) : (0 : Int) ≤ if b = true then 1 else 0 := by cases b <;> decide
theorem cmS {i j : Int} (h1 : 0 ≤ j) (h2 : j < 2 ^ 63) : CMul i j := .inr ⟨by omega, by omega⟩
theorem cmL {i j : Int} (h1 : 0 ≤ i) (h2 : i < 2 ^ 63) : CMul i j := .inl ⟨by omega, by omega⟩
end
section
variable {P : Program} {w : World} {K : PySem.W.Frag} {mg : Str → Option Value} {base : Heap}
def spCell (K : PySem.W.Frag) : Sp := fun vs H Q _ => ∃ (a : Addr) (ns : List Int) (k : Nat), vs = [.ref a, .int k] ∧ SqL K H a (ns.map V.int) ∧ ∀ i : Int, Q (.int i) H
theorem ok_cell (T : Fx K mg) (F : DF K mg "_law_cell_at" s_cell_at ["_law_script", "_law_k"]) : Cal P w K mg base 1 "_law_cell_at" (spCell K) [] := by
  refine F.cal sc_cell_at (fun vs H Q E h => ?_) (fun f cdv A outer s H vs Q E hr h => ?_)
  · obtain ⟨_, _, _, rfl, _⟩ := h
    rfl
  obtain ⟨a, ns, k, rfl, hs, q⟩ := h
  have nd := sc_cell_at.nd
  refine ⟨_, (pss_cons (ps_if (pt_cmpR op_lt (pv 1) (pe_callB call_len_seq (by rfl) T.n_len PySem.boot_len (pa_cons (pv 0) pa_nil)) (nomark _)) (pss_one (ps_ret (pe_ix ix_list (pv 0) (pv 1) (fun _ _ => rfl)))) pss_nil)
  (pss_one (ps_ret pe_int))), ?_⟩
  refine ⟨_, rfl, _, rfl, a, _, rfl, .inl hs, _, _, rfl, rfl, _, rfl, ?_⟩
  refine ite2 (fun h => ?_) (fun h => q _)
  have h1 := of_decide_eq_true h
  rw [List.length_map] at h1
  have hk : k < ns.length := by omega
  refine ⟨_, rfl, _, rfl, a, _, k, .int ns[k], rfl, rfl, hs, atI_natE ?_, q _⟩
  rw [List.getElem?_map, List.getElem?_eq_getElem hk]
  rfl
def spBox (K : PySem.W.Frag) : Sp := fun vs H Q _ => ∃ (a : Addr) (ns : List Int) (k : Nat), vs = [.ref a, .int k] ∧ SqL K H a (ns.map V.int) ∧ ∀ b H', H b = none → Same H H' → Box H' b 0 → Q (.ref b) H'
theorem ok_box (T : Fx K mg) (F : DF K mg "_law_box" s_box ["_law_script", "_law_k"]) (c_cell_at : Cal P w K mg base 1 "_law_cell_at" (spCell K) []) : Cal P w K mg base 2 "_law_box" (spBox K) [] := by
  refine F.cal sc_box (fun vs H Q E h => ?_) (fun f cdv A outer s H vs Q E hr h => ?_)
  · obtain ⟨_, _, _, rfl, _⟩ := h
    rfl
  obtain ⟨a, ns, k, rfl, hs, q⟩ := h
  have nd := sc_box.nd
  refine ⟨_, (pss_cons (ps_set (i := 2) nd rfl (Or.inl rfl) (pe_c c_cell_at hr (by first | decide | omega) (by rfl) (pa_cons (pv 0) (pa_cons (pv 1) pa_nil))))
  (pss_one (ps_ret (pe_lst (pa_cons (pe_op op_mul (pe_callB call_abs (by rfl) T.n_abs boot_abs (pa_cons (pv 2) pa_nil)) (pe_callTy call_int1 (by rfl) T.n_int boot_int (pa_cons (pe_cmpR op_ge (pe_callB call_abs (by rfl) T.n_abs boot_abs (pa_cons (pv 2) pa_nil)) (pe_op op_pow pe_int pe_int) (nomark _)) pa_nil))) (pa_cons (pe_op op_add (pe_op op_add (pe_op op_mod (pe_callTy call_int1 (by rfl) T.n_int boot_int (pa_cons (pv 2) pa_nil)) pe_int) (pe_op op_mul pe_int (pv 1))) pe_int) (pa_cons pe_int pa_nil))))))), ?_⟩
  refine ⟨_, rfl, _, rfl, a, ns, k, rfl, hs, fun c => ?_⟩
  have hab : (0 : Int) ≤ if c < 0 then -c else c := by split <;> omega
  refine ⟨_, rfl, c, rfl, _, rfl, c, rfl, 10, 18, rfl, rfl, ⟨by decide, by decide, by decide⟩, _, _, rfl, rfl, .inr ⟨_, rfl, ?_⟩⟩
  refine ⟨_, _, rfl, rfl, cmul01 _ _, ?_⟩
  refine ⟨_, rfl, .inl ⟨c, rfl, c, _, rfl, rfl, by show (0 : Int) < 2305843009213693951; decide, ?_⟩⟩
  refine ⟨_, rfl, 39373, _, rfl, rfl, cmL (by decide) (by decide), _, _, rfl, rfl, _, _, rfl, rfl, by show 3 ≤ sizeLine; decide, fun b hb => q b _ hb (fun y o h => upd_keep h hb) ⟨_, _, 0, upd_same, Int.mul_nonneg hab (nn01 _), ?_, Int.le_refl _, Int.le_refl _⟩⟩
  have h1 : (0 : Int) ≤ c % 2305843009213693951 := Int.emod_nonneg _ (by decide)
  omega
def spTk (K : PySem.W.Frag) : Sp := fun vs H Q _ => ∃ (b : Addr) (n : Nat) (m : Int), vs = [.ref b, .int m] ∧ Box H b n ∧ n < 2 ^ 30 ∧ 0 < m ∧ m ≤ 1000 ∧ ∀ (H' : Hp) (r : Int), Box H' b (n + 1) → Fr (only b) H H' → 0 ≤ r → r < m → Q (.int r) H'
theorem ok_tk (T : Fx K mg) (F : DF K mg "_law_take" s_take ["_law_box_here", "_law_below"]) : Cal P w K mg base 2 "_law_take" (spTk K) [] := by
  have c_take : Cal P w K mg base 1 "_law_take" (fun _ _ _ _ => False) [] := Cal.none F sc_take
  refine F.cal sc_take (fun vs H Q E h => ?_) (fun f cdv A outer s H vs Q E hr h => ?_)
  · obtain ⟨_, _, _, rfl, _⟩ := h
    rfl
  obtain ⟨b, n, m, rfl, ⟨a0, a1, a2, hb, p0, p1, p2, p3⟩, hn, hm0, hm1, q⟩ := h
  have nd := sc_take.nd
  have cd : CDiv a0 m := ⟨hm0, by omega⟩
  refine ⟨_, (pss_cons (ps_if (pt_cmpR op_gt (pe_ix ix_list (pv 0) pe_int (fun _ _ => rfl)) pe_int (nomark _)) (pss_cons (ps_set (i := 2) nd rfl (Or.inl rfl) (pe_op op_mod (pe_callTy call_int1 (by rfl) T.n_int boot_int (pa_cons (pe_ix ix_list (pv 0) pe_int (fun _ _ => rfl)) pa_nil)) (pv 1)))
      (pss_cons (ps_asg (pe_op op_fdiv (pe_ix ix_list (pv 0) pe_int (fun _ _ => rfl)) (pv 1)) (pg_sub (pv 0) pe_int set_list))
      (pss_one (ps_ret (pv 2))))) pss_nil)
  (pss_cons (ps_if (pt_cmpR op_gt (pv 1) (pe_op op_pow pe_int pe_int) (nomark _)) (pss_one (ps_ret (pe_op op_mod (pe_callTy call_int1 (by rfl) T.n_int boot_int (pa_cons (pe_op op_add (pe_c c_take hr (by first | decide | omega) (by rfl) (pa_cons (pv 0) (pa_cons (pe_op op_pow pe_int pe_int) pa_nil))) (pe_op op_mul (pe_op op_pow pe_int pe_int) (pe_c c_take hr (by first | decide | omega) (by rfl) (pa_cons (pv 0) (pa_cons (pe_op op_add (pe_op op_fdiv (pv 1) (pe_op op_pow pe_int pe_int)) pe_int) pa_nil))))) pa_nil)) (pv 1)))) pss_nil)
  (pss_cons (ps_asg (pe_op op_add (pe_ix ix_list (pv 0) pe_int (fun _ _ => rfl)) pe_int) (pg_sub (pv 0) pe_int set_list))
  (pss_cons (ps_set (i := 3) nd rfl (Or.inl rfl) (pe_op op_mod (pe_callTy call_int1 (by rfl) T.n_int boot_int (pa_cons (pe_op op_mul (pe_op op_add (pe_ix ix_list (pv 0) pe_int (fun _ _ => rfl)) (pe_op op_mul pe_int (pe_ix ix_list (pv 0) pe_int (fun _ _ => rfl)))) (pe_op op_add pe_int (pe_ix ix_list (pv 0) pe_int (fun _ _ => rfl)))) pa_nil)) pe_int))
  (pss_cons (ps_set (i := 4) nd rfl (Or.inl rfl) (pe_op op_add (pe_op op_add (pv 3) (pe_ix ix_list (pv 0) pe_int (fun _ _ => rfl))) (pe_op op_fdiv (pe_ix ix_list (pv 0) pe_int (fun _ _ => rfl)) pe_int)))
  (pss_cons (ps_set (i := 5) nd rfl (Or.inl rfl) (pe_op op_mod (pe_callTy call_int1 (by rfl) T.n_int boot_int (pa_cons (pe_op op_mul (pv 4) (pe_op op_add (pe_op op_mod (pe_callTy call_int1 (by rfl) T.n_int boot_int (pa_cons (pv 3) pa_nil)) pe_int) pe_int)) pa_nil)) pe_int))
  (pss_one (ps_ret (pe_op op_mod (pe_callTy call_int1 (by rfl) T.n_int boot_int (pa_cons (pe_op op_fdiv (pe_op op_mod (pe_callTy call_int1 (by rfl) T.n_int boot_int (pa_cons (pe_op op_add (pe_op op_mul (pv 5) pe_int) (pv 3)) pa_nil)) pe_int) pe_int) pa_nil)) (pv 1)))))))))), ?_⟩
  refine ⟨_, rfl, b, _, 0, _, rfl, rfl, SqL.of hb, rfl, _, _, rfl, rfl, _, rfl, ?_⟩
  refine ite2 (fun h => ?_) (fun h => ?_)
  · refine ⟨_, rfl, b, _, 0, _, rfl, rfl, SqL.of hb, rfl, .inl ⟨a0, rfl, _, rfl, _, _, rfl, rfl, hm0, ?_⟩⟩
    refine ⟨_, rfl, b, _, 0, _, rfl, rfl, SqL.of hb, rfl, _, rfl, _, _, rfl, rfl, cd, _, rfl, b, _, 0, 0, rfl, rfl, hb, rfl, ?_⟩
    refine ⟨_, rfl, q _ _ ⟨a0 / m, a1, a2, upd_same, Int.ediv_nonneg p0 (by omega), p1, p2, by omega⟩ ((Fr.refl _ _).put hb rfl (.inl rfl)) (Int.emod_nonneg _ (by omega)) (Int.emod_lt_of_pos _ hm0)⟩
  · refine ⟨_, rfl, 10, 7, rfl, rfl, ⟨by decide, by decide, by decide⟩, _, _, rfl, rfl, _, rfl, ?_⟩
    rw [decide_eq_false (show ¬ (10 : Int) ^ (7 : Int).toNat < m by
      have : (10 : Int) ^ (7 : Int).toNat = 10000000 := by decide
      omega)]
    refine ifF rfl ?_
    refine ⟨_, rfl, b, _, 2, _, rfl, rfl, SqL.of hb, rfl, _, _, rfl, rfl, _, rfl, b, _, 2, 2, rfl, rfl, hb, rfl, ?_⟩
    have hb' : upd H b (.lst (bxV a0 a1 (a2 + 1))) b = some (.lst (bxV a0 a1 (a2 + 1))) := upd_same
    refine ⟨_, rfl, b, _, 1, _, rfl, rfl, SqL.of hb', rfl, _, rfl, b, _, 2, _, rfl, rfl, SqL.of hb', rfl, _, _, rfl, rfl, cmL (by decide) (by decide), _, _, rfl, rfl, _, rfl, b, _, 2, _, rfl, rfl, SqL.of hb', rfl, _, _, rfl, rfl, _, _, rfl, rfl, cmS (by omega) (by omega), .inl ⟨_, rfl, ?_⟩⟩
    refine ⟨_, _, rfl, rfl, by show (0 : Int) < 2147483647; decide, ?_⟩
    refine ⟨_, rfl, _, rfl, b, _, 2, _, rfl, rfl, SqL.of hb', rfl, _, _, rfl, rfl, _, rfl, b, _, 1, _, rfl, rfl, SqL.of hb', rfl, _, _, rfl, rfl, ⟨by show (0 : Int) < 1000003; decide, by show (1000003 : Int) < _; decide⟩, _, _, rfl, rfl, ?_⟩
    have e2 : ∀ x : Int, (0 : Int) ≤ x % 40009 ∧ x % 40009 < 40009 := fun x => ⟨Int.emod_nonneg _ (by decide), Int.emod_lt_of_pos _ (by decide)⟩
    refine ⟨_, rfl, _, rfl, .inl ⟨_, rfl, _, _, rfl, rfl, by show (0 : Int) < 40009; decide, _, _, rfl, rfl, _, _, rfl, rfl, cmS (by have := (e2 ((a1 + 48271 * (a2 + 1)) * (39373 + (a2 + 1)) % 2147483647)).1; omega) (by have := (e2 ((a1 + 48271 * (a2 + 1)) * (39373 + (a2 + 1)) % 2147483647)).2; omega), .inl ⟨_, rfl, _, _, rfl, rfl, by show (0 : Int) < 2147483629; decide, ?_⟩⟩⟩
    refine ⟨_, rfl, _, _, rfl, rfl, .inr ⟨by decide, by decide⟩, _, rfl, _, _, rfl, rfl, .inl ⟨_, rfl, _, _, rfl, rfl, by show (0 : Int) < 2147483587; decide, _, _, rfl, rfl, ⟨by show (0 : Int) < 64; decide, by show (64 : Int) < _; decide⟩, .inl ⟨_, rfl, _, rfl, _, _, rfl, rfl, hm0, ?_⟩⟩⟩
    exact q _ _ ⟨a0, a1, a2 + 1, upd_same, p0, p1, by omega, by omega⟩ ((Fr.refl _ _).put hb rfl (.inl rfl)) (Int.emod_nonneg _ (by omega)) (Int.emod_lt_of_pos _ hm0)
/-- one of a list's items -/
def spOf (K : PySem.W.Frag) : Sp := fun vs H Q _ => ∃ (b p : Addr) (n : Nat) (xs : List V), vs = [.ref b, .ref p] ∧ Box H b n ∧ n < 2 ^ 30 ∧ H p = some (.lst xs) ∧ xs ≠ [] ∧ xs.length ≤ 1000 ∧ p ≠ b ∧ ∀ (H' : Hp) (v : V), Box H' b (n + 1) → Fr (only b) H H' → v ∈ xs → Q v H'
theorem ok_of (T : Fx K mg) (F : DF K mg "_law_of" s_of ["_law_box_here", "_law_some"]) (c_take : Cal P w K mg base 2 "_law_take" (spTk K) []) : Cal P w K mg base 3 "_law_of" (spOf K) [] := by
  refine F.cal sc_of (fun vs H Q E h => ?_) (fun f cdv A outer s H vs Q E hr h => ?_)
  · obtain ⟨_, _, _, _, rfl, _⟩ := h
    rfl
  obtain ⟨b, p, n, xs, rfl, hb, hn, hp, hne, hl, npb, q⟩ := h
  have nd := sc_of.nd
  have hpos := List.length_pos_iff.mpr hne
  refine ⟨_, (pss_one (ps_ret (pe_ix ix_list (pv 1) (pe_c c_take hr (by first | decide | omega) (by rfl) (pa_cons (pv 0) (pa_cons (pe_callB call_len_seq (by rfl) T.n_len PySem.boot_len (pa_cons (pv 1) pa_nil)) pa_nil))) (fun _ _ => rfl)))), ?_⟩
  refine ⟨_, rfl, _, rfl, _, rfl, p, _, rfl, .inl (SqL.of hp), b, n, _, rfl, hb, hn, by omega, by omega, fun H' r hb' fr h0 h1 => ?_⟩
  have hr : ((r.toNat : Nat) : Int) = r := Int.toNat_of_nonneg h0
  have hlt : r.toNat < xs.length := by omega
  refine ⟨p, _, r, xs[r.toNat], rfl, rfl, SqL.of (fr.out hp npb), ?_, q _ _ hb' fr (List.getElem_mem hlt)⟩
  have e := atI_natE (List.getElem?_eq_getElem hlt)
  rw [hr] at e
  exact e
end

end L2.K13
set_option Elab.async false
set_option linter.all false
set_option maxRecDepth 100000
set_option maxHeartbeats 4000000
set_option pp.maxSteps 150
namespace L2.K13
open PySem PySem.Spec PyProof.Rows L2
open C8 (Cal Met Mak pe_c pe_mt pe_mt0 pe_mk)
local macro_rules | `(tactic| walk_at "hp") => `(tactic| first | assumption | exact upd_same | (refine upd_keep ?_ (by assumption); walk_at "hp") | (refine upd_off ?_ (by assumption) (by intro z; cases z); walk_at "hp"))
local macro_rules | `(tactic| walk_at "seq") => `(tactic| first | assumption | exact SqT.of (by walk_at "hp") | exact SqL.of (by walk_at "hp"))
section
theorem dp_lst {K : PySem.W.Frag} {H : Hp} {l : Addr} {xs : List V} {o : HO} (h : H l = some (.lst xs)) {n : Nat} {d : PyData} {v : V} (t : TO n d) (hd : Dp K H v d) : Dp K (upd H l o) v d := Dp.to (fun b ys g => by
  rcases g with (g | ⟨o, g⟩) | g
  · exact .inl (.inl (upd_off g h (by intro z; cases z)))
  · exact .inl (.inr ⟨o, upd_off g h (by intro z; cases z)⟩)
  · exact .inr g) t hd
theorem dp_new {K : PySem.W.Frag} {H : Hp} {p : Addr} {o : HO} (h : H p = none) {n : Nat} {d : PyData} {v : V} (t : TO n d) (hd : Dp K H v d) : Dp K (upd H p o) v d := Dp.ext t hd (ext_new h)
/-- a list of such data -/
def LD (K : PySem.W.Frag) (m : Nat) (H : Hp) (l : Addr) (ds : List PyData) : Prop := ∃ rvs, H l = some (.lst rvs) ∧ All2 (Dp K H) rvs ds ∧ ∀ d ∈ ds, TO m d
theorem all2_e {α β : Type} {R : α → β → Prop} : All2 R [] [] := ⟨rfl, fun i x y h => by simp at h⟩
theorem all2_s {α β : Type} {R : α → β → Prop} {x : α} {y : β} (h : R x y) : All2 R [x] [y] := ⟨rfl, fun i a b ha hb => by
  cases i with
  | zero =>
    simp only [List.getElem?_cons_zero, Option.some.injEq] at ha hb
    rw [← ha, ← hb]
    exact h
  | succ i => simp at ha⟩
theorem LD.fr {K : PySem.W.Frag} {m : Nat} {S : Addr → Prop} {H H' : Hp} {l : Addr} {ds : List PyData} (h : LD K m H l ds) (f : Fr S H H') (n : ¬ S l) : LD K m H' l ds := by
  obtain ⟨rvs, h1, h2, h3⟩ := h
  exact ⟨rvs, f.out h1 n, ⟨h2.1, fun i x y hx hy => Dp.fr (h3 y (List.mem_of_getElem? hy)) (h2.2 i x y hx hy) f⟩, h3⟩
theorem LD.ext {K : PySem.W.Frag} {m : Nat} {H H' : Hp} {l : Addr} {ds : List PyData} (h : LD K m H l ds) (f : LamX.ExtN H H') : LD K m H' l ds := by
  obtain ⟨rvs, h1, h2, h3⟩ := h
  exact ⟨rvs, f _ _ h1 fun _ z => (by cases z), ⟨h2.1, fun i x y hx hy => Dp.ext (h3 y (List.mem_of_getElem? hy)) (h2.2 i x y hx hy) f⟩, h3⟩
theorem LD.nil {K : PySem.W.Frag} {m : Nat} {H : Hp} {l : Addr} (h : H l = some (.lst [])) : LD K m H l [] := ⟨[], h, all2_e, fun d hd => absurd hd List.not_mem_nil⟩
theorem LD.push {K : PySem.W.Frag} {m : Nat} {H : Hp} {l : Addr} {ds : List PyData} {rvs : List V} {v : V} {d : PyData} (h1 : H l = some (.lst rvs)) (h2 : All2 (Dp K H) rvs ds) (h3 : ∀ d ∈ ds, TO m d) (hd : Dp K H v d) (ht : TO m d) : LD K m (upd H l (.lst (rvs ++ [v]))) l (ds ++ [d]) :=
  ⟨rvs ++ [v], upd_same, All2.append ⟨h2.1, fun i x y hx hy => dp_lst h1 (h3 y (List.mem_of_getElem? hy)) (h2.2 i x y hx hy)⟩ (all2_s (dp_lst h1 ht hd)), fun e he => by
    rcases List.mem_append.mp he with he | he
    · exact h3 e he
    · rw [List.mem_singleton.mp he]; exact ht⟩
structure SetupOk (bits : Nat) (sizes : Sizes) : Prop where
  b0 : 2 ≤ bits
  b1 : bits ≤ 5
  l0 : 1 ≤ sizes.length
  l1 : sizes.length ≤ 3
  sz : ∀ s ∈ sizes, 1 ≤ s.1 ∧ 0 ≤ s.2.1
theorem lt30 {n m k : Nat} (h : n + m < 2 ^ 30) (e : k ≤ m) : n + k < 2 ^ 30 := Nat.lt_of_le_of_lt (Nat.add_le_add_left e n) h
end
section
variable {P : Program} {w : World} {K : PySem.W.Frag} {mg : Str → Option Value} {base : Heap}
def spSetup (K : PySem.W.Frag) : Sp := fun vs H Q _ => ∃ (b : Addr) (n : Nat), vs = [.ref b] ∧ Box H b n ∧ n + 20 < 2 ^ 30 ∧ ∀ H' v bits sizes, Box H' b (n + 20) → Fr (only b) H H' → Dp K H' v (encSetup bits sizes) → SetupOk bits sizes → Q v H'
theorem ok_setup (T : Fx K mg) (F : DF K mg "_law_some_setup" s_some_setup ["_law_box_here"]) (c_take : Cal P w K mg base 2 "_law_take" (spTk K) []) (c_of : Cal P w K mg base 3 "_law_of" (spOf K) []) : Cal P w K mg base 4 "_law_some_setup" (spSetup K) [] := by
  refine F.cal sc_some_setup (fun vs H Q E h => ?_) (fun f cdv A outer s H vs Q E hr h => ?_)
  · obtain ⟨_, _, rfl, _⟩ := h
    rfl
  obtain ⟨b, n, rfl, hb, hn, k⟩ := h
  have nd := sc_some_setup.nd
  refine ⟨_, (pss_cons (ps_set (i := 1) nd rfl (Or.inl rfl) (pe_lst pa_nil))
  (pss_cons (ps_for PassesOwn.never rfl (pi_range1 (by rfl) T.n_range (pa_cons (pe_op op_add pe_int (pe_c c_take hr (by first | decide | omega) (by rfl) (pa_cons (pv 0) (pa_cons pe_int pa_nil)))) pa_nil)) (pg_name (i := 2) nd rfl (by first | exact .inl rfl | exact .inr rfl)) (pss_cons (ps_set (i := 3) nd rfl (Or.inl rfl) (pe_op op_add pe_int (pe_c c_take hr (by first | decide | omega) (by rfl) (pa_cons (pv 0) (pa_cons pe_int pa_nil)))))
      (pss_one (ps_expr (pe_bm PySem.F.plainAttrs_list PySem.F.slot_list_append PySem.F.type_list_append mt_append (pv 1) (pa_cons (pe_tup (pa_cons (pv 3) (pa_cons (pe_c c_take hr (by first | decide | omega) (by rfl) (pa_cons (pv 0) (pa_cons (pv 3) pa_nil))) (pa_cons (pe_c c_of hr (by first | decide | omega) (by rfl) (pa_cons (pv 0) (pa_cons (pe_lst (pa_cons pe_non (pa_cons (pe_op op_add pe_int (pe_c c_take hr (by first | decide | omega) (by rfl) (pa_cons (pv 0) (pa_cons pe_int pa_nil)))) pa_nil))) pa_nil))) pa_nil)))) pa_nil))))))
  (pss_one (ps_ret (pe_tup (pa_cons (pe_op op_add pe_int (pe_c c_take hr (by first | decide | omega) (by rfl) (pa_cons (pv 0) (pa_cons pe_int pa_nil)))) (pa_cons (pe_callTy call_tuple_of (by rfl) T.n_tuple boot_tuple (pa_cons (pv 1) pa_nil)) pa_nil))))))), ?_⟩
  refine ⟨Nat.zero_le _, fun l hl => ?_⟩
  have hb1 := hb.new (o := .lst []) hl
  have nlb : l ≠ b := hb.ne hl
  refine ⟨_, rfl, b, n, 3, rfl, hb1, by omega, by decide, by decide, fun H2 r hb2 fr2 r0 r1 => ⟨_, _, rfl, rfl, 1 + r, rfl, by omega, by omega, ?_⟩⟩
  have f2 : Fr (only b) H H2 := ((Fr.refl _ _).new hl).tr fr2
  have h2l : H2 l = some (.lst []) := fr2.out upd_same nlb
  have e2 : (1 + r).toNat ≤ 3 ∧ 1 ≤ (1 + r).toNat := by omega
  generalize hm : (1 + r).toNat = m at e2
  refine for_range (n := m) (fun i σ H' => ∃ (v2 v3 : Option V) (sizes : Sizes), σ = [some (.ref b), some (.ref l), v2, v3] ∧ Box H' b (n + 1 + 4 * i) ∧ Fr (only b) H H' ∧ LD K 1 H' l (sizes.map encSize) ∧ sizes.length = i ∧ (∀ s ∈ sizes, 1 ≤ s.1 ∧ 0 ≤ s.2.1)) ⟨none, none, [], rfl, hb2, f2, .nil h2l, rfl, fun s hs => absurd hs List.not_mem_nil⟩ ?_ ?_
  · rintro i σ H3 hi ⟨v2, v3, sizes, rfl, hb3, f3, ld3, hlen, hsz⟩
    refine ⟨_, rfl, b, _, 6, rfl, hb3, by omega, by decide, by decide, fun H4 r4 hb4 fr4 r40 r41 => ⟨_, _, rfl, rfl, ?_⟩⟩
    have ld4 := ld3.fr fr4 nlb
    obtain ⟨rvs, g1, g2, g3⟩ := id ld4
    refine ⟨_, rfl, .inl ⟨rfl, _, SqL.of g1⟩, _, rfl, _, rfl, _, rfl, b, _, 1 + r4, rfl, hb4, by omega, by omega, by omega, fun H5 r5 hb5 fr5 r50 r51 => ?_⟩
    refine ⟨_, rfl, _, rfl, b, _, 4, rfl, hb5, by omega, by decide, by decide, fun H6 r6 hb6 fr6 r60 r61 => ⟨_, _, rfl, rfl, by show 2 ≤ sizeLine; decide, fun p hp => ?_⟩⟩
    refine ⟨b, p, _, _, rfl, hb6.new hp, by omega, upd_same, by simp, by show 2 ≤ 1000; decide, hb6.ne hp, fun H7 v hb7 fr7 hv => ⟨by show 3 ≤ sizeLine; decide, fun t ht => ?_⟩⟩
    have f45 : Fr (only b) H4 H7 := ((fr5.tr fr6).new hp).tr fr7
    have ld7 := ld4.fr f45 nlb
    obtain ⟨o, eo⟩ : ∃ o : Option Int, v = wv o := by
      rcases List.mem_cons.mp hv with rfl | hv
      · exact ⟨none, rfl⟩
      · rw [List.mem_singleton.mp hv]; exact ⟨some _, rfl⟩
    subst eo
    have ld8 := ld7.ext (ext_new (o := .tup [.int (1 + r4), .int r5, wv o]) ht)
    obtain ⟨rvs, g1, g2, g3⟩ := ld8
    have hd : Dp K (upd H7 t (.tup [.int (1 + r4), .int r5, wv o])) (.ref t) (encSize (1 + r4, r5, o)) := .tup (SqT.of upd_same) (.cons (.int _) (.cons (.int _) (dp_os [o])))
    refine ⟨l, _, _, rfl, rfl, g1, ?_, _, _, sizes ++ [(1 + r4, r5, o)], rfl, ?_, ?_, ?_, by rw [List.length_append, hlen]; rfl, fun s hs => ?_⟩
    · rw [g2.1, List.length_map, hlen]
      exact Nat.lt_of_lt_of_le (show i < 3 by omega) (by decide)
    · refine ((hb7.new ht).fr (S := only l) ((Fr.refl _ _).put g1 rfl (.inl rfl)) fun z => nlb z.symm).le (by omega)
    · have f8 : Fr (only b) H (upd H7 t (.tup [.int (1 + r4), .int r5, wv o])) := ((f3.tr fr4).tr f45).new ht
      exact f8.put g1 rfl (.inr hl)
    · rw [List.map_append]
      exact LD.push g1 g2 g3 hd (to_size _)
    · rcases List.mem_append.mp hs with hs | hs
      · exact hsz s hs
      · rw [List.mem_singleton.mp hs]
        exact ⟨by show (1 : Int) ≤ 1 + r4; omega, r50⟩
  · rintro σ H3 ⟨v2, v3, sizes, rfl, hb3, f3, ld3, hlen, hsz⟩
    refine ⟨_, rfl, b, _, 3, rfl, hb3, by omega, by decide, by decide, fun H4 r4 hb4 fr4 r40 r41 => ⟨_, _, rfl, rfl, ?_⟩⟩
    obtain ⟨rvs, g1, g2, g3⟩ := ld3.fr fr4 nlb
    refine ⟨_, rfl, l, _, rfl, .inl ⟨SqL.of g1, fun t ht => ⟨by show 2 ≤ sizeLine; decide, fun u hu => ?_⟩⟩⟩
    have x : Same H4 (upd (upd H4 t (.tup rvs)) u (.tup [.int (2 + r4), .ref t])) := fun y o h => upd_keep (upd_keep h ht) hu
    have hdA : DpAll K (upd (upd H4 t (.tup rvs)) u (.tup [.int (2 + r4), .ref t])) rvs (sizes.map encSize) := dpAll_of ⟨g2.1, fun i x' y hx hy => Dp.ext (g3 y (List.mem_of_getElem? hy)) (g2.2 i x' y hx hy) (LamX.ExtN.of x)⟩
    have e3 : (2 : Int) + r4 = ((2 + r4.toNat : Nat) : Int) := by omega
    have ntu : t ≠ u := ne_of_none upd_same hu
    refine k _ (.ref u) (2 + r4.toNat) sizes (((hb4.new ht).new hu).le (by omega)) (((f3.tr fr4).new ht).new hu) ?_ ⟨by omega, by omega, by omega, by omega, hsz⟩
    refine .tup (SqT.of upd_same) (.cons ?_ (.cons (.tup (SqT.of (xs := rvs) (by rw [upd_ne ntu, upd_same])) hdA) .nil))
    show Dp K _ (V.int (2 + r4)) _
    rw [← e3]
    exact .int _
def spNames (K : PySem.W.Frag) : Sp := fun vs H Q _ => ∃ (b : Addr) (n : Nat) (span : Int), vs = [.ref b, .int span] ∧ Box H b n ∧ n + 200 < 2 ^ 30 ∧ 0 < span ∧ span ≤ 1000 ∧
  ∀ (H' : Hp) (r ps pl : Addr) (shorts : List (Int × Bool)) (longs : List (Int × Int × Bool)), Box H' b (n + 200) → Fr (only b) H H' → H' r = some (.tup [.ref ps, .ref pl]) → Dp K H' (.ref ps) (.tuple (shorts.map encN)) → Dp K H' (.ref pl) (.tuple (longs.map encL)) → shorts.length ≤ 100 → longs.length ≤ 100 → Q (.ref r) H'
theorem ok_names (T : Fx K mg) (F : DF K mg "_law_some_names" s_some_names ["_law_box_here", "_law_span_so"]) (c_take : Cal P w K mg base 2 "_law_take" (spTk K) []) : Cal P w K mg base 3 "_law_some_names" (spNames K) [] := by
  refine F.cal sc_some_names (fun vs H Q E h => ?_) (fun f cdv A outer s H vs Q E hr h => ?_)
  · obtain ⟨_, _, _, rfl, _⟩ := h
    rfl
  obtain ⟨b, n, span, rfl, hb, hn, hs0, hs1, k⟩ := h
  have nd := sc_some_names.nd
  have hu64 := hu64_of hr
  refine ⟨_, (pss_cons (ps_set (i := 2) nd rfl (Or.inl rfl) (pe_callB (cr_sortedSet rfl) (by rfl) T.n_sorted boot_sorted (pa_cons (pe_callTy (cr_setLI rfl) (by rfl) T.n_set boot_set (pa_cons (pe_lc (own := [("_law_lap", 5)]) (g := (gName 5)) (tt := tYes) (te := (tOp _ (tCall _ _ E0 (tCons (tVar 0) (tCons _ tNil))) _)) rfl nd (pi_range1 (by rfl) T.n_range (pa_cons (pe_c c_take hr (by first | decide | omega) (by rfl) (pa_cons (pv 0) (pa_cons pe_int pa_nil))) pa_nil)) (blkOk_by (N := ["_law_box_here", "_law_span_so", "_law_short_so", "_law_long_so", "_law_first_here", "_law_lap", "_law_delta_so", "_law_pair"]) (sc := defScope s_some_names) (by decide +kernel)) (fun _ _ _ _ _ => (pg_name (i := 5) nd rfl (by first | exact .inl rfl | exact .inr rfl))) (fun _ _ _ _ _ => pts_nil) (fun _ _ _ _ _ => (pe_op op_sub (pe_c c_take hr (by first | decide | omega) (by rfl) (pa_cons (pv 0) (pa_cons pe_int pa_nil))) pe_int))) pa_nil)) pa_nil)))
  (pss_cons (ps_setLc (i := 3) (own := [("_law_lap", 5)]) (g := (gName 5)) (tt := tYes) (te := (tTup (tCons (tCall _ _ E0 (tCons (tVar 0) (tCons (tVar 1) tNil))) (tCons (tOp _ (tCall _ _ E0 (tCons (tVar 0) (tCons _ tNil))) _) tNil)))) rfl nd rfl rfl (sw_true rfl rfl rfl (by decide +kernel)) (pi_range1 (by rfl) T.n_range (pa_cons (pe_c c_take hr (by first | decide | omega) (by rfl) (pa_cons (pv 0) (pa_cons pe_int pa_nil))) pa_nil)) (blkOk_by (N := ["_law_box_here", "_law_span_so", "_law_short_so", "_law_long_so", "_law_first_here", "_law_lap", "_law_delta_so", "_law_pair"]) (sc := defScope s_some_names) (by decide +kernel)) (fun _ _ _ _ _ => (pg_name (i := 5) nd rfl (by first | exact .inl rfl | exact .inr rfl))) (fun _ _ _ _ _ => pts_nil) (fun _ _ _ _ _ => (pe_tup (pa_cons (pe_c c_take hr (by first | decide | omega) (by rfl) (pa_cons (pv 0) (pa_cons (pv 1) pa_nil))) (pa_cons (pe_op op_sub (pe_c c_take hr (by first | decide | omega) (by rfl) (pa_cons (pv 0) (pa_cons pe_int pa_nil))) pe_int) pa_nil)))))
  (pss_cons (ps_set (i := 4) nd rfl (Or.inl rfl) (pe_callTy call_tuple_of (by rfl) T.n_tuple boot_tuple (pa_cons (pe_lc (own := [("_law_delta_so", 6)]) (g := (gName 6)) (tt := (tTest (tOp _ (tVar 6) _))) (te := (tTup (tCons (tVar 6) (tCons (tOp _ (tCall _ _ E0 (tCons (tVar 0) (tCons _ tNil))) _) tNil)))) rfl nd (pi_list (pv 2)) (blkOk_by (N := ["_law_box_here", "_law_span_so", "_law_short_so", "_law_long_so", "_law_first_here", "_law_lap", "_law_delta_so", "_law_pair"]) (sc := defScope s_some_names) (by decide +kernel)) (fun _ _ _ _ _ => (pg_name (i := 6) nd rfl (by first | exact .inl rfl | exact .inr rfl))) (fun _ _ _ _ _ => (pts_one (pt_cmpR op_ne (pv 6) pe_int (nomark _)))) (fun _ _ _ _ _ => (pe_tup (pa_cons (pv 6) (pa_cons (pe_cmpR op_eq (pe_c c_take hr (by first | decide | omega) (by rfl) (pa_cons (pv 0) (pa_cons pe_int pa_nil))) pe_int (nomark _)) pa_nil))))) pa_nil)))
  (pss_one (ps_ret (pe_tup (pa_cons (pv 4) (pa_cons (pe_callTy call_tuple_of (by rfl) T.n_tuple boot_tuple (pa_cons (pe_lc (own := [("_law_pair", 7)]) (g := (gName 7)) (tt := tYes) (te := (tOp (rCatA K) (tVar 7) (tTup (tCons (tOp _ (tCall _ _ E0 (tCons (tVar 0) (tCons _ tNil))) _) tNil)))) rfl nd (pi_list (pe_callB (cr_sortedTW rfl hu64) (by rfl) T.n_sorted boot_sorted (pa_cons (pe_callTy (cr_setOfT rfl hu64) (by rfl) T.n_set boot_set (pa_cons (pv 3) pa_nil)) pa_nil))) (blkOk_by (N := ["_law_box_here", "_law_span_so", "_law_short_so", "_law_long_so", "_law_first_here", "_law_lap", "_law_delta_so", "_law_pair"]) (sc := defScope s_some_names) (by decide +kernel)) (fun _ _ _ _ _ => (pg_name (i := 7) nd rfl (by first | exact .inl rfl | exact .inr rfl))) (fun _ _ _ _ _ => pts_nil) (fun _ _ _ _ _ => (pe_op op_catA (pv 7) (pe_tup (pa_cons (pe_cmpR op_eq (pe_c c_take hr (by first | decide | omega) (by rfl) (pa_cons (pv 0) (pa_cons pe_int pa_nil))) pe_int (nomark _)) pa_nil))))) pa_nil)) pa_nil)))))))), ?_⟩
  -- the deltas
  refine ⟨_, rfl, b, n, 4, rfl, hb, by omega, by decide, by decide, fun H1 r1 hb1 fr1 r10 r11 => ⟨_, rfl, by omega, by omega, fun D hD => ?_⟩⟩
  obtain ⟨m1, hm1⟩ : ∃ m, r1.toNat = m := ⟨_, rfl⟩
  rw [hm1]
  have hm1' : m1 ≤ 3 := by omega
  refine lc_range (n := m1) (fun i H' => Box H' b (n + 1 + i) ∧ Fr (only b) H H' ∧ ∃ ns : List Int, H' D = some (.lst (ns.map V.int)) ∧ ns.length = i) ⟨hb1.new hD, fr1.new hD, [], upd_same, rfl⟩ (fun i H2 hi ⟨hb2, f2, ns, h2, hl2⟩ => ?_) fun H2 ⟨hb2, f2, ns, h2, hl2⟩ => ?_
  · refine ⟨rfl, _, rfl, b, _, 13, rfl, hb2, by omega, by decide, by decide, fun H3 r3 hb3 fr3 r30 r31 => ⟨_, _, rfl, rfl, ns.map V.int, fr3.out h2 (hb1.ne hD), ?_, ?_, ?_, ns ++ [r3 - 6], ?_, by rw [List.length_append, hl2]; rfl⟩⟩
    · rw [List.length_map, hl2]
      exact Nat.lt_of_lt_of_le (show i < 3 by omega) (by decide)
    · exact (hb3.fr (S := only D) ((Fr.refl _ _).put (fr3.out h2 (hb1.ne hD)) rfl (.inl rfl)) fun z => hb1.ne hD z.symm).le (by omega)
    · refine (f2.tr fr3).put (fr3.out h2 (hb1.ne hD)) rfl (fr1.free hD (hb1.ne hD) |> .inr)
    · rw [upd_same, List.map_append]
      rfl
  refine ⟨D, ns, rfl, SqL.of h2, by omega, fun a Sf cn ha hcn => ⟨a, Sf, cn, rfl, upd_same, hcn, fun ds p _ _ hdl hp => ?_⟩⟩
  have hb3 := (hb2.new (o := SetO w a Sf cn) ha).new (o := .lst (ds.map V.int)) hp
  have f3 : Fr (only b) H (upd (upd H2 a (SetO w a Sf cn)) p (.lst (ds.map V.int))) := (f2.new ha).new hp
  have npb : p ≠ b := (hb2.new (o := SetO w a Sf cn) ha).ne hp
  have h3p : upd (upd H2 a (SetO w a Sf cn)) p (.lst (ds.map V.int)) p = some (.lst (ds.map V.int)) := upd_same
  -- the pairs
  refine ⟨_, rfl, b, _, 3, rfl, hb3, by omega, by decide, by decide, fun H4 r4 hb4 fr4 r40 r41 => ⟨_, rfl, by omega, by omega, fun D2 hD2 => ?_⟩⟩
  obtain ⟨m2, hm2⟩ : ∃ m, r4.toNat = m := ⟨_, rfl⟩
  rw [hm2]
  have hm2' : m2 ≤ 2 := by omega
  have h4p := fr4.out h3p npb
  have nD2b := hb4.ne hD2
  have nD2p : D2 ≠ p := (ne_of_none h4p hD2).symm
  refine lc_range (n := m2) (fun i H' => Box H' b (n + 1 + m1 + 1 + 2 * i) ∧ Fr (only b) H H' ∧ H' p = some (.lst (ds.map V.int)) ∧ ∃ ks : List (Addr × List Int), H' D2 = some (.lst (ks.map fun q => V.ref q.1)) ∧ (∀ q ∈ ks, SqT K H' q.1 (q.2.map V.int)) ∧ (∀ q ∈ ks, ∃ x y, q.2 = [x, y]) ∧ ks.length = i)
    ⟨hb4.new hD2, (f3.tr fr4).new hD2, upd_keep h4p hD2, [], upd_same, fun q hq => absurd hq List.not_mem_nil, fun q hq => absurd hq List.not_mem_nil, rfl⟩ (fun i H5 hi ⟨hb5, f5, h5p, ks, h5, hk5, hx5, hl5⟩ => ?_) fun H5 ⟨hb5, f5, h5p, ks, h5, hk5, hx5, hl5⟩ => ?_
  · refine ⟨rfl, _, rfl, _, rfl, b, _, span, rfl, hb5, by omega, hs0, hs1, fun H6 r6 hb6 fr6 r60 r61 => ?_⟩
    refine ⟨_, rfl, b, _, 4, rfl, hb6, by omega, by decide, by decide, fun H7 r7 hb7 fr7 r70 r71 => ⟨_, _, rfl, rfl, by show 2 ≤ sizeLine; decide, fun t ht => ?_⟩⟩
    have f57 : Fr (only b) H5 H7 := fr6.tr fr7
    have f58 : Fr (only b) H5 (upd H7 t (.tup [.int r6, .int (r7 - 1)])) := f57.new ht
    have h8 := f58.out h5 nD2b
    refine ⟨_, h8, ?_, ?_, ?_, ?_, ks ++ [(t, [r6, r7 - 1])], ?_, fun q hq => ?_, fun q hq => ?_, by rw [List.length_append, hl5]; rfl⟩
    · rw [List.length_map, hl5]
      exact Nat.lt_of_lt_of_le (show i < 2 by omega) (by decide)
    · exact ((hb7.new ht).fr (S := only D2) ((Fr.refl _ _).put h8 rfl (.inl rfl)) fun z => nD2b z.symm).le (by omega)
    · refine (f5.tr f58).put h8 rfl (.inr ((f3.tr fr4).free hD2 nD2b))
    · rw [upd_ne nD2p.symm]
      exact f58.out h5p npb
    · rw [upd_same, List.map_append]
      rfl
    · have toT : ∀ {y : Addr} {ys : List V}, SqT K (upd H7 t (.tup [.int r6, .int (r7 - 1)])) y ys → SqT K (upd (upd H7 t (.tup [.int r6, .int (r7 - 1)])) D2 (.lst (ks.map (fun q => V.ref q.1) ++ [.ref t]))) y ys := fun g => by
        rcases g with (g | ⟨o, g⟩) | g
        · exact .inl (.inl (upd_off g h8 (by intro z; cases z)))
        · exact .inl (.inr ⟨o, upd_off g h8 (by intro z; cases z)⟩)
        · exact .inr g
      rcases List.mem_append.mp hq with hq | hq
      · exact toT (SqT.fr (hk5 q hq) f58)
      · rw [List.mem_singleton.mp hq]
        exact toT (SqT.of upd_same)
    · rcases List.mem_append.mp hq with hq | hq
      · exact hx5 q hq
      · rw [List.mem_singleton.mp hq]
        exact ⟨_, _, rfl⟩
  refine gn_cut ?_
  dsimp only
  -- the short names
  refine ⟨_, rfl, p, rfl, ⟨_, SqL.of h5p⟩, fun D3 hD3 => ?_⟩
  have nD3b := hb5.ne hD3
  have nD3p : D3 ≠ p := (ne_of_none h5p hD3).symm
  have nD32 : D3 ≠ D2 := (ne_of_none h5 hD3).symm
  have hdl64 : ds.length < 64 := by rw [hdl]; exact hcn
  refine lc_list (xs := ds.map V.int) (fun i H' => Box H' b (n + 10 + i) ∧ Fr (only b) H5 H' ∧ H' D2 = some (.lst (ks.map fun q => V.ref q.1)) ∧ H' p = some (.lst (ds.map V.int)) ∧ ∃ sh : List (Int × Bool), LD K 1 H' D3 (sh.map encN) ∧ sh.length ≤ i)
    ⟨(hb5.new hD3).le (by omega), (Fr.refl _ _).new hD3, upd_keep h5 hD3, upd_keep h5p hD3, [], .nil upd_same, Nat.le_refl _⟩ (fun i H' _ ⟨_, _, _, h, _⟩ => SqL.of h) (fun i v H6 hv ⟨hb6, f6, h6, h6p, sh, ld6, hl6⟩ => ?_) fun H6 ⟨hb6, f6, h6, h6p, sh, ld6, hl6⟩ => ?_
  · rw [List.getElem?_map] at hv
    cases ed : ds[i]? with
    | none => rw [ed] at hv; cases hv
    | some dl =>
      rw [ed] at hv
      cases hv
      have hi : i < ds.length := (List.getElem?_eq_some_iff.mp ed).1
      refine ⟨rfl, _, rfl, rfl, _, rfl, ?_⟩
      refine ite2 (fun hc => ?_) (fun hc => ⟨hb6.le (by omega), f6, h6, h6p, sh, ld6, Nat.le_succ_of_le hl6⟩)
      refine ⟨_, rfl, _, rfl, b, _, 2, rfl, hb6, by omega, by decide, by decide, fun H7 r7 hb7 fr7 r70 r71 => ⟨rfl, by show 2 ≤ sizeLine; decide, fun t ht => ?_⟩⟩
      have f68 : Fr (only b) H6 (upd H7 t (.tup [.int dl, .bl (decide (V.int r7 = V.int 0))])) := fr7.new ht
      obtain ⟨rvs, g1, g2, g3⟩ := ld6.fr f68 nD3b
      refine ⟨rvs, g1, ?_, ?_, ?_, ?_, ?_, sh ++ [(dl, decide (V.int r7 = V.int 0))], ?_, ?_⟩
      · rw [g2.1, List.length_map]
        exact Nat.lt_of_le_of_lt hl6 (Nat.lt_trans hi (Nat.lt_of_lt_of_le hdl64 (by decide)))
      · exact ((hb7.new ht).fr (S := only D3) ((Fr.refl _ _).put g1 rfl (.inl rfl)) fun z => nD3b z.symm).le (by omega)
      · exact (f6.tr f68).put g1 rfl (.inr hD3)
      · rw [upd_ne nD32.symm]
        exact f68.out h6 nD2b
      · rw [upd_ne nD3p.symm]
        exact f68.out h6p npb
      · rw [List.map_append]
        exact LD.push g1 g2 g3 (.tup (SqT.of upd_same) (.cons (.int _) (.cons (.bl _) .nil))) (to_encN _)
      · rw [List.length_append]
        exact Nat.succ_le_succ hl6
  · obtain ⟨rvs, g1, g2, g3⟩ := id ld6
    have hl6' : sh.length ≤ 64 := by
      rw [List.length_map] at hl6
      omega
    refine ⟨D3, _, rfl, .inl ⟨SqL.of g1, fun ps hps => ?_⟩⟩
    have f67 : Fr (only b) H5 (upd H6 ps (.tup rvs)) := f6.new hps
    have dps : Dp K (upd H6 ps (.tup rvs)) (.ref ps) (.tuple (sh.map encN)) := .tup (SqT.of upd_same) (dpAll_of ⟨g2.1, fun j x y hx hy => Dp.ext (g3 y (List.mem_of_getElem? hy)) (g2.2 j x y hx hy) (ext_new hps)⟩)
    have tps : TO 2 (.tuple (sh.map encN)) := to_map (by omega) fun x _ => to_encN x
    have h7 : upd H6 ps (.tup rvs) D2 = _ := upd_keep h6 hps
    -- the long names
    refine ⟨_, rfl, _, rfl, D2, ks, rfl, SqL.of h7, fun q hq => SqT.fr (hk5 q hq) f67, by omega, fun a2 L ha2 hL _ => ⟨a2, L, rfl, upd_same, fun q hq => SqT.extN (SqT.fr (hk5 q (hL q hq)) f67) (ext_new ha2), fun q hq => hx5 q (hL q hq), fun L' p2 hL' hl' hp2 => ⟨p2, rfl, ⟨_, SqL.of upd_same⟩, fun D4 hD4 => ?_⟩⟩⟩
    have f7 : Fr (only b) H (upd H6 ps (.tup rvs)) := (f5.tr f6).new hps
    have f9 : Fr (only b) H (upd (upd (upd H6 ps (.tup rvs)) a2 (SetTO P w a2 L)) p2 (.lst (L'.map fun q => V.ref q.1))) := (f7.new ha2).new hp2
    have x9 : Same (upd H6 ps (.tup rvs)) (upd (upd (upd H6 ps (.tup rvs)) a2 (SetTO P w a2 L)) p2 (.lst (L'.map fun q => V.ref q.1))) := fun y o h => upd_keep (upd_keep h ha2) hp2
    have hb9 : Box (upd (upd (upd H6 ps (.tup rvs)) a2 (SetTO P w a2 L)) p2 (.lst (L'.map fun q => V.ref q.1))) b (n + 10 + ds.length) := by
      rw [List.length_map] at hb6
      exact ((hb6.new hps).new ha2).new hp2
    have h9p : (upd (upd (upd H6 ps (.tup rvs)) a2 (SetTO P w a2 L)) p2 (.lst (L'.map fun q => V.ref q.1))) p2 = some (.lst (L'.map fun q => V.ref q.1)) := upd_same
    have np2b : p2 ≠ b := ((hb6.new hps).new (o := SetTO P w a2 L) ha2).ne hp2
    have hk9 : ∀ q ∈ L', SqT K (upd (upd (upd H6 ps (.tup rvs)) a2 (SetTO P w a2 L)) p2 (.lst (L'.map fun q => V.ref q.1))) q.1 (q.2.map V.int) := fun q hq => SqT.extN (SqT.fr (hk5 q (hL q (hL' q hq))) f67) (LamX.ExtN.of x9)
    have dps9 := Dp.ext tps dps (LamX.ExtN.of x9)
    have nD4b := hb9.ne hD4
    have nD4p : D4 ≠ p2 := (ne_of_none h9p hD4).symm
    refine lc_list (xs := L'.map fun q => V.ref q.1) (fun i H' => Box H' b (n + 10 + ds.length + i) ∧ Fr (only b) H H' ∧ Fr (only b) (upd (upd (upd H6 ps (.tup rvs)) a2 (SetTO P w a2 L)) p2 (.lst (L'.map fun q => V.ref q.1))) H' ∧ H' p2 = some (.lst (L'.map fun q => V.ref q.1)) ∧ ∃ lo : List (Int × Int × Bool), LD K 1 H' D4 (lo.map encL) ∧ lo.length ≤ i)
      ⟨hb9.new hD4, f9.new hD4, (Fr.refl _ _).new hD4, upd_keep h9p hD4, [], .nil upd_same, Nat.le_refl _⟩ (fun i H' _ ⟨_, _, _, h, _⟩ => SqL.of h) (fun i v H10 hv ⟨hb10, f10, g10, h10, lo, ld10, hl10⟩ => ?_) fun H10 ⟨hb10, f10, g10, h10, lo, ld10, hl10⟩ => ?_
    · rw [List.getElem?_map] at hv
      cases eq : L'[i]? with
      | none => rw [eq] at hv; cases hv
      | some q =>
        rw [eq] at hv
        cases hv
        have hi : i < L'.length := (List.getElem?_eq_some_iff.mp eq).1
        have hq := mem_at eq
        obtain ⟨x, y, exy⟩ := hx5 q (hL q (hL' q hq))
        have hq10 := SqT.fr (hk9 q hq) g10
        rw [exy] at hq10
        refine ⟨rfl, _, rfl, _, rfl, b, _, 2, rfl, hb10, by omega, by decide, by decide, fun H11 r11 hb11 fr11 r110 r111 => ⟨rfl, by show 1 ≤ sizeLine; decide, fun u hu => ?_⟩⟩
        refine catA_of (SqT.extN (SqT.fr hq10 fr11) (ext_new hu)) (SqT.of upd_same) (by show 3 ≤ sizeLine; decide) fun r12 H12 x12 hr12 => ?_
        have f1012 : Fr (only b) H10 H12 := (fr11.new hu).tr (Same.fr x12 _)
        obtain ⟨rvs, g1, g2, g3⟩ := ld10.fr f1012 nD4b
        have hb12 : Box H12 b (n + 10 + ds.length + i + 1) := (hb11.new hu).fr (Same.fr x12 (only D4)) fun z => nD4b z.symm
        refine ⟨rvs, g1, ?_, ?_, ?_, ?_, ?_, lo ++ [(x, y, decide (V.int r11 = V.int 0))], ?_, ?_⟩
        · rw [g2.1, List.length_map]
          exact Nat.lt_of_le_of_lt hl10 (Nat.lt_trans hi (Nat.lt_of_lt_of_le hl' (by decide)))
        · exact (hb12.fr (S := only D4) ((Fr.refl _ _).put g1 rfl (.inl rfl)) fun z => nD4b z.symm).le (by omega)
        · exact (f10.tr f1012).put g1 rfl (.inr (f9.free hD4 nD4b))
        · exact (g10.tr f1012).put g1 rfl (.inr hD4)
        · rw [upd_ne nD4p.symm]
          exact f1012.out h10 np2b
        · rw [List.map_append]
          exact LD.push g1 g2 g3 (.tup hr12 (.cons (.int _) (.cons (.int _) (.cons (.bl _) .nil)))) (to_encL _)
        · rw [List.length_append]
          exact Nat.succ_le_succ hl10
    · obtain ⟨rvs, g1, g2, g3⟩ := id ld10
      rw [List.length_map] at hl10 hb10
      refine ⟨D4, _, rfl, .inl ⟨SqL.of g1, fun pl hpl => ⟨by show 2 ≤ sizeLine; decide, fun r hr0 => ?_⟩⟩⟩
      have dpl : Dp K (upd H10 pl (.tup rvs)) (.ref pl) (.tuple (lo.map encL)) := .tup (SqT.of upd_same) (dpAll_of ⟨g2.1, fun j x y hx hy => Dp.ext (g3 y (List.mem_of_getElem? hy)) (g2.2 j x y hx hy) (ext_new hpl)⟩)
      have tpl : TO 2 (.tuple (lo.map encL)) := to_map (by omega) fun x _ => to_encL x
      exact k _ r ps pl sh lo (((hb10.new hpl).new hr0).le (by omega)) ((f10.new hpl).new hr0) upd_same (Dp.ext tps (Dp.ext tps (Dp.fr tps dps9 g10) (ext_new hpl)) (ext_new hr0)) (Dp.ext tpl dpl (ext_new hr0)) (by omega) (by omega)
end

end L2.K13
set_option Elab.async false
set_option linter.all false
set_option maxRecDepth 100000
set_option maxHeartbeats 4000000
set_option pp.maxSteps 150
namespace L2.K13
open PySem PySem.Spec PyProof.Rows L2
open C8 (Cal Met Mak pe_c pe_mt pe_mt0 pe_mk)
local macro_rules | `(tactic| walk_at "hp") => `(tactic| first | assumption | exact upd_same | (refine upd_keep ?_ (by assumption); walk_at "hp") | (refine upd_off ?_ (by assumption) (by intro z; cases z); walk_at "hp"))
local macro_rules | `(tactic| walk_at "seq") => `(tactic| first | assumption | exact SqT.of (by walk_at "hp") | exact SqL.of (by walk_at "hp"))
section
theorem or_cut {ta tb : TE} {σ : L2.St} {H : Hp} {Q : VK} (M : VK) (hQ : ∀ v H1, M v H1 → Q v H1) (h : (∀ v H1, M v H1 → Q v H1) → tOrV ta tb σ H Q) : tOrV ta tb σ H Q := h hQ
theorem and_cut {ta tb : TE} {σ : L2.St} {H : Hp} {Q : VK} (M : VK) (hQ : ∀ v H1, M v H1 → Q v H1) (h : (∀ v H1, M v H1 → Q v H1) → tAndV ta tb σ H Q) : tAndV ta tb σ H Q := h hQ
theorem if_cut {tA : TT} {ta tb : TE} {σ : L2.St} {H : Hp} {Q : VK} (M : VK) (hQ : ∀ v H1, M v H1 → Q v H1) (h : (∀ v H1, M v H1 → Q v H1) → tIf tA ta tb σ H Q) : tIf tA ta tb σ H Q := h hQ
theorem spans : ∀ n : Nat, n < 7 → ([V.int 4, .int 8, .int 16, .int 32, .int 64, .int 128, .int 256] : List V)[n]? = some (.int ((2 ^ (n + 2) : Nat) : Int))
  | 0, _ => rfl
  | 1, _ => rfl
  | 2, _ => rfl
  | 3, _ => rfl
  | 4, _ => rfl
  | 5, _ => rfl
  | 6, _ => rfl
  | n + 7, h => absurd h (by omega)
theorem pow_le {n : Nat} (h : n ≤ 5) : (0 : Int) < ((2 ^ n : Nat) : Int) ∧ ((2 ^ n : Nat) : Int) ≤ 32 := by
  have h1 : 2 ^ n ≤ 2 ^ 5 := Nat.pow_le_pow_right (by decide) h
  have h2 : 0 < 2 ^ n := Nat.pow_pos (by decide)
  omega
end
section
variable {P : Program} {w : World} {K : PySem.W.Frag} {mg : Str → Option Value} {base : Heap}
def spSpan (K : PySem.W.Frag) : Sp := fun vs H Q _ => ∃ (a : Addr) (bits : Nat) (v : V), vs = [.ref a] ∧ SqT K H a [.int bits, v] ∧ 2 ≤ bits ∧ bits ≤ 8 ∧ ∀ H', Same H H' → Q (.int ((2 ^ bits : Nat) : Int)) H'
theorem ok_span (T : Fx K mg) (F : DF K mg "_law_span" s_span ["_law_setup_so"]) : Cal P w K mg base 1 "_law_span" (spSpan K) [] := by
  refine F.cal sc_span (fun vs H Q E h => ?_) (fun f cdv A outer s H vs Q E hr h => ?_)
  · obtain ⟨_, _, _, rfl, _⟩ := h
    rfl
  obtain ⟨a, bits, v, rfl, ha, h2, h8, k⟩ := h
  have nd := sc_span.nd
  refine ⟨_, (pss_one (ps_ret (pe_ix ix_list (pe_lst (pa_cons pe_int (pa_cons pe_int (pa_cons pe_int (pa_cons pe_int (pa_cons pe_int (pa_cons pe_int (pa_cons pe_int pa_nil)))))))) (pe_op op_sub (pe_ix ix_tup (pv 0) pe_int (fun _ _ => rfl)) pe_int) (fun _ _ => rfl)))), ?_⟩
  refine ⟨by show 7 ≤ sizeLine; decide, fun p hp => ?_⟩
  have x : ∀ o : HO, Same H (upd H p o) := fun o y o' h => upd_keep h hp
  refine ⟨_, rfl, a, _, 0, _, rfl, rfl, SqT.extN ha (ext_new hp), rfl, _, _, rfl, rfl, p, _, (bits : Int) - 2, _, rfl, rfl, SqL.of upd_same, ?_, k _ (x _)⟩
  have e := atI_natE (spans (bits - 2) (by omega))
  rw [show ((bits - 2 : Nat) : Int) = (bits : Int) - 2 by omega, show bits - 2 + 2 = bits by omega] at e
  exact e
def spPic (K : PySem.W.Frag) : Sp := fun vs H Q _ => ∃ (b : Addr) (n : Nat) (sv : V) (bits : Nat) (sizes : Sizes) (e : Bool), vs = [.ref b, sv, .bl e] ∧ Box H b n ∧ n + 300 < 2 ^ 30 ∧ Dp K H sv (encSetup bits sizes) ∧ SetupOk bits sizes ∧
  ∀ H' v pic, Box H' b (n + 300) → Fr (only b) H H' → Dp K H' v (encPic pic) → PicOk pic → (e = true → isEntry pic.kind = true) → Q v H'
theorem ok_pic (T : Fx K mg) (F : DF K mg "_law_some_picture" s_some_picture ["_law_box_here", "_law_setup_so", "_law_is_entry"]) (c_take : Cal P w K mg base 2 "_law_take" (spTk K) []) (c_of : Cal P w K mg base 3 "_law_of" (spOf K) []) (c_span : Cal P w K mg base 1 "_law_span" (spSpan K) []) (c_some_names : Cal P w K mg base 3 "_law_some_names" (spNames K) []) : Cal P w K mg base 4 "_law_some_picture" (spPic K) [] := by
  refine F.cal sc_some_picture (fun vs H Q E h => ?_) (fun f cdv A outer s H vs Q E hr h => ?_)
  · obtain ⟨_, _, _, _, _, _, rfl, _⟩ := h
    rfl
  obtain ⟨b, n, sv, bits, sizes, e, rfl, hb, hn, hsv, ok, k⟩ := h
  have nd := sc_some_picture.nd
  have tS := to_setup (bits := bits) (Nat.le_trans ok.l1 (by decide))
  refine ⟨_, (pss_cons (ps_set (i := 3) nd rfl (Or.inl rfl) (pe_c c_of hr (by first | decide | omega) (by rfl) (pa_cons (pv 0) (pa_cons (pe_ifExp (pt_val (pv 2)) (pe_lst (pa_cons pe_str (pa_cons pe_str pa_nil))) (pe_lst (pa_cons pe_str (pa_cons pe_str (pa_cons pe_str (pa_cons pe_str (pa_cons pe_str pa_nil))))))) pa_nil))))
  (pss_cons (ps_par (i := 4) (j := 5) rfl nd rfl rfl (by decide) rfl rfl (pa_cons (pe_c c_span hr (by first | decide | omega) (by rfl) (pa_cons (pv 1) pa_nil)) (pa_cons (pe_ifExp (pt_val (pv 2)) pe_int (pe_c c_take hr (by first | decide | omega) (by rfl) (pa_cons (pv 0) (pa_cons (pe_callB call_len_seq (by rfl) T.n_len PySem.boot_len (pa_cons (pe_ix ix_tup (pv 1) pe_int (fun _ _ => rfl)) pa_nil)) pa_nil)))) pa_nil)) rfl)
  (pss_cons (ps_if (pt_cmpR op_eq (pv 3) pe_str (nomark _)) (pss_one (ps_ret (pe_tup (pa_cons (pv 3) (pa_cons pe_int (pa_cons pe_int (pa_cons pe_bl (pa_cons (pe_cmpR op_gt (pe_c c_take hr (by first | decide | omega) (by rfl) (pa_cons (pv 0) (pa_cons pe_int pa_nil))) pe_int (nomark _)) (pa_cons (pe_tup pa_nil) (pa_cons (pe_tup pa_nil) (pa_cons (pe_cmpR op_eq (pe_c c_take hr (by first | decide | omega) (by rfl) (pa_cons (pv 0) (pa_cons pe_int pa_nil))) pe_int (nomark _)) pa_nil))))))))))) pss_nil)
  (pss_cons (ps_set (i := 6) nd rfl (Or.inl rfl) (pe_c c_some_names hr (by first | decide | omega) (by rfl) (pa_cons (pv 0) (pa_cons (pv 4) pa_nil))))
  (pss_cons (ps_set (i := 7) nd rfl (Or.inl rfl) (pe_tup (pa_cons (pe_or (pv 2) (pe_one (pe_cmpR op_gt (pe_c c_take hr (by first | decide | omega) (by rfl) (pa_cons (pv 0) (pa_cons pe_int pa_nil))) pe_int (nomark _)))) (pa_cons (pe_cmpR op_gt (pe_c c_take hr (by first | decide | omega) (by rfl) (pa_cons (pv 0) (pa_cons pe_int pa_nil))) pe_int (nomark _)) pa_nil))))
  (pss_one (ps_ret (pe_op op_catA (pe_op op_catA (pe_op op_catA (pe_tup (pa_cons (pv 3) (pa_cons (pv 5) (pa_cons (pe_c c_take hr (by first | decide | omega) (by rfl) (pa_cons (pv 0) (pa_cons (pv 4) pa_nil))) pa_nil)))) (pv 7)) (pv 6)) (pe_tup (pa_cons (pe_and (pv 2) (pe_one (pe_cmpR op_eq (pe_c c_take hr (by first | decide | omega) (by rfl) (pa_cons (pv 0) (pa_cons pe_int pa_nil))) pe_int (nomark _)))) pa_nil)))))))))), ?_⟩
  refine ⟨_, rfl, ?_⟩
  change tIf _ _ _ _ _ _
  refine if_cut (fun v H1 => ∃ p xs, v = .ref p ∧ Box H1 b n ∧ Fr (only b) H H1 ∧ H1 p = some (.lst xs) ∧ xs ≠ [] ∧ xs.length ≤ 5 ∧ p ≠ b ∧ ∀ v ∈ xs, ∃ kd : Str, v = .str kd ∧ kd ∈ kinds ∧ isEntry kd = e) ?_ fun key => ?_
  · rintro v H1 ⟨p, xs, rfl, hb1, f1, h1, hne, hxl, npb, hxs⟩
    refine ⟨b, p, n, xs, rfl, hb1, by omega, h1, hne, Nat.le_trans hxl (by decide), npb, fun H2 v2 hb2 fr2 hv => ?_⟩
    obtain ⟨kd, rfl, hkd, hke⟩ := hxs v2 hv
    have f2 := f1.tr fr2
    have hsv2 := Dp.fr tS hsv f2
    obtain ⟨sa, sb, ss, rfl, q1, q2, q3⟩ := dp_setup hsv2
    refine gn_cut ?_
    dsimp only
    refine ⟨_, rfl, sa, bits, _, rfl, q1, ok.b0, Nat.le_trans ok.b1 (by decide), fun H3 x3 => ?_⟩
    have hb3 : Box H3 b (n + 1) := hb2.fr (Same.fr x3 (fun _ => False)) id
    have f3 : Fr (only b) H H3 := f2.tr (Same.fr x3 _)
    have hpw := pow_le (n := bits) ok.b1
    change tIf _ _ _ _ _ _
    refine if_cut (fun v H4 => ∃ ly : Int, v = .int ly ∧ Box H4 b (n + 2) ∧ Fr (only b) H3 H4 ∧ (e = true → ly = 0)) ?_ fun key2 => ?_
    · rintro v H4 ⟨ly, rfl, hb4, f34, hly⟩
      have f4 := f3.tr f34
      refine ⟨_, _, rfl, ?_⟩
      refine ⟨_, rfl, rfl, _, rfl, ?_⟩
      rw [decS]
      refine ite2 (fun hc => ?_) (fun hc => ?_)
      · have ek : kd = ("clean" : Str) := of_decide_eq_true hc
        refine ⟨_, rfl, _, rfl, b, _, 5, rfl, hb4, by omega, by decide, by decide, fun H5 r5 hb5 fr5 r50 r51 => ⟨_, _, rfl, rfl, Nat.zero_le _, fun t1 ht1 => ⟨Nat.zero_le _, fun t2 ht2 => ?_⟩⟩⟩
        refine ⟨_, rfl, b, _, 3, rfl, (hb5.new ht1).new ht2, by omega, by decide, by decide, fun H6 r6 hb6 fr6 r60 r61 => ⟨rfl, by show 8 ≤ sizeLine; decide, fun u hu => ?_⟩⟩
        have g1 : H6 t1 = some (.tup []) := fr6.tup (upd_keep upd_same ht2)
        have g2 : H6 t2 = some (.tup []) := fr6.tup upd_same
        refine k _ (.ref u) ⟨kd, 0, 0, true, decide (0 < r5), [], [], decide (V.int r6 = V.int 0)⟩ ((hb6.new hu).le (by omega)) ((((((f4.tr fr5).new ht1).new ht2).tr fr6).new hu)) ?_ ⟨hkd, Nat.zero_le _, Nat.zero_le _, fun _ => ⟨rfl, rfl⟩⟩ fun he => hke.trans he
        exact .tup (SqT.of upd_same) (.cons (.str _) (.cons (.int _) (.cons (.int _) (.cons (.bl _) (.cons (.bl _) (.cons (.tup (SqT.of (upd_keep g1 hu)) .nil) (.cons (.tup (SqT.of (upd_keep g2 hu)) .nil) (.cons (.bl _) .nil))))))))
      · have nk : kd ≠ ("clean" : Str) := fun z => hc (decide_eq_true z)
        refine ⟨_, rfl, _, rfl, b, _, _, rfl, hb4, by omega, hpw.1, by omega, fun H5 rn ps pl shs los hb5 fr5 hrn dps dpl hl1 hl2 => ?_⟩
        refine gn_cut ?_
        dsimp only
        have tps : TO 2 (.tuple (shs.map encN)) := to_map (by omega) fun x _ => to_encN x
        have tpl : TO 2 (.tuple (los.map encL)) := to_map (by omega) fun x _ => to_encL x
        have f5 := f4.tr fr5
        -- the flags
        change tOrV _ _ _ _ _
        refine or_cut (fun v H6 => ∃ kp : Bool, v = .bl kp ∧ Box H6 b (n + 203) ∧ Fr (only b) H5 H6 ∧ (e = true → kp = true)) ?_ fun key3 => ?_
        · rintro v H6 ⟨kp, rfl, hb6, f56, hkp⟩
          refine ⟨_, rfl, b, _, 5, rfl, hb6, by omega, by decide, by decide, fun H7 r7 hb7 fr7 r70 r71 => ⟨_, _, rfl, rfl, by show 2 ≤ sizeLine; decide, fun fl hfl => ?_⟩⟩
          refine gn_cut ?_
          dsimp only
          refine ⟨_, rfl, _, rfl, _, rfl, _, rfl, b, _, _, rfl, hb7.new hfl, by omega, hpw.1, by omega, fun H8 r8 hb8 fr8 r80 r81 => ⟨by show 3 ≤ sizeLine; decide, fun u hu => ?_⟩⟩
          have f58 : Fr (only b) H5 (upd H8 u (.tup [.str kd, .int ly, .int r8])) := ((((f56.tr fr7).new hfl).tr fr8).new hu)
          have gfl : upd H8 u (.tup [.str kd, .int ly, .int r8]) fl = _ := upd_keep (fr8.tup upd_same) hu
          refine ⟨_, rfl, ?_⟩
          refine catA_of (SqT.of upd_same) (SqT.of gfl) (by show 5 ≤ sizeLine; decide) fun r9 H9 x9 hr9 => ?_
          have grn : H9 rn = some (.tup [.ref ps, .ref pl]) := x9 _ _ (f58.tup hrn)
          refine ⟨_, rfl, catA_of hr9 (SqT.of grn) (by show 7 ≤ sizeLine; decide) fun r10 H10 x10 hr10 => ?_⟩
          have hb10 : Box H10 b (n + 205) := ((hb8.new hu).fr (Same.fr x9 (fun _ => False)) id).fr (Same.fr x10 (fun _ => False)) id
          have f510 : Fr (only b) H5 H10 := (f58.tr (Same.fr x9 _)).tr (Same.fr x10 _)
          change tAndV _ _ _ _ _
          refine and_cut (fun v H11 => ∃ hs : Bool, v = .bl hs ∧ Box H11 b (n + 206) ∧ Fr (only b) H10 H11) ?_ fun key4 => ?_
          · rintro v H11 ⟨hs, rfl, hb11, f1011⟩
            refine ⟨by show 1 ≤ sizeLine; decide, fun q hq => ?_⟩
            refine catA_of (SqT.extN (SqT.fr hr10 f1011) (ext_new hq)) (SqT.of upd_same) (by show 8 ≤ sizeLine; decide) fun r12 H12 x12 hr12 => ?_
            have f512 : Fr (only b) H5 H12 := ((f510.tr f1011).new hq).tr (Same.fr x12 _)
            refine k _ (.ref r12) ⟨kd, ly, r8, kp, decide (0 < r7), shs, los, hs⟩ (((hb11.new hq).fr (Same.fr x12 (fun _ => False)) id).le (by omega)) (f5.tr f512) ?_ ⟨hkd, hl1, hl2, fun he => ?_⟩ fun he => hke.trans he
            · exact .tup hr12 (.cons (.str _) (.cons (.int _) (.cons (.int _) (.cons (.bl _) (.cons (.bl _) (.cons (Dp.fr tps dps f512) (.cons (Dp.fr tpl dpl f512) (.cons (.bl _) .nil))))))))
            · have he' : e = true := hke.symm.trans he
              exact ⟨hly he', hkp he'⟩
          · refine ⟨_, rfl, e, rfl, ?_⟩
            cases e with
            | false => exact ifF rfl (key4 _ _ ⟨false, rfl, hb10.le (by omega), Fr.refl _ _⟩)
            | true =>
              refine ifT rfl ⟨_, rfl, b, _, 3, rfl, hb10, by omega, by decide, by decide, fun H11 r11 hb11 fr11 _ _ => ⟨rfl, key4 _ _ ⟨_, rfl, hb11, fr11⟩⟩⟩
        · refine ⟨_, rfl, e, rfl, ?_⟩
          cases e with
          | true => exact ifT rfl (key3 _ _ ⟨true, rfl, hb5.le (by omega), Fr.refl _ _, fun _ => rfl⟩)
          | false => exact ifF rfl ⟨_, rfl, b, _, 4, rfl, hb5, by omega, by decide, by decide, fun H6 r6 hb6 fr6 _ _ => ⟨_, _, rfl, rfl, key3 _ _ ⟨_, rfl, hb6.le (by omega), fr6, fun z => by cases z⟩⟩⟩
    · refine ⟨_, rfl, e, rfl, ?_⟩
      cases e with
      | true => exact ifT rfl (key2 _ _ ⟨0, rfl, hb3.le (by omega), Fr.refl _ _, fun _ => rfl⟩)
      | false =>
        have q2' : SqT K H3 sb ss := SqT.extN q2 (LamX.ExtN.of x3)
        have q1' := SqT.extN q1 (LamX.ExtN.of x3)
        have hl := q3.1
        have := ok.l0
        have := ok.l1
        refine ifF rfl ⟨_, rfl, _, rfl, sa, _, 1, _, rfl, rfl, q1', rfl, sb, _, rfl, .inr q2', b, _, _, rfl, hb3, by omega, by omega, by omega, fun H4 r4 hb4 fr4 _ _ => key2 _ _ ⟨_, rfl, hb4.le (by omega), fr4, fun z => by cases z⟩⟩
  · refine ⟨_, rfl, e, rfl, ?_⟩
    cases e with
    | true =>
      refine ifT rfl ⟨by show 2 ≤ sizeLine; decide, fun p hp => key _ _ ⟨p, _, rfl, hb.new hp, (Fr.refl _ _).new hp, upd_same, by simp, by show 2 ≤ 5; decide, hb.ne hp, fun v hv => ?_⟩⟩
      rcases List.mem_cons.mp hv with rfl | hv
      · exact ⟨"open", rfl, by decide +kernel, by decide +kernel⟩
      · rw [List.mem_singleton.mp hv]
        exact ⟨"clean", rfl, by decide +kernel, by decide +kernel⟩
    | false =>
      refine ifF rfl ⟨by show 5 ≤ sizeLine; decide, fun p hp => key _ _ ⟨p, _, rfl, hb.new hp, (Fr.refl _ _).new hp, upd_same, by simp, by show 5 ≤ 5; decide, hb.ne hp, fun v hv => ?_⟩⟩
      simp only [List.mem_cons, List.not_mem_nil, or_false] at hv
      rcases hv with rfl | rfl | rfl | rfl | rfl
      · exact ⟨"trail", rfl, by decide +kernel, by decide +kernel⟩
      · exact ⟨"trail", rfl, by decide +kernel, by decide +kernel⟩
      · exact ⟨"lead", rfl, by decide +kernel, by decide +kernel⟩
      · exact ⟨"skip", rfl, by decide +kernel, by decide +kernel⟩
      · exact ⟨"trail", rfl, by decide +kernel, by decide +kernel⟩
end

end L2.K13
set_option Elab.async false
set_option linter.all false
set_option maxRecDepth 100000
set_option maxHeartbeats 4000000
set_option pp.maxSteps 150
namespace L2.K13
open PySem PySem.Spec PyProof.Rows L2
open C8 (Cal Met Mak pe_c pe_mt pe_mt0 pe_mk)
local macro_rules | `(tactic| walk_at "hp") => `(tactic| first | assumption | exact upd_same | (refine upd_keep ?_ (by assumption); walk_at "hp") | (refine upd_off ?_ (by assumption) (by intro z; cases z); walk_at "hp"))
local macro_rules | `(tactic| walk_at "seq") => `(tactic| first | assumption | exact SqT.of (by walk_at "hp") | exact SqL.of (by walk_at "hp"))
section
/-- the first thing is an entry -/
def HeadEn (ts : List (Option Pic)) : Prop := ∃ p rest, ts = some p :: rest ∧ isEntry p.kind = true
theorem HeadEn.app {ts : List (Option Pic)} (h : HeadEn ts) (us : List (Option Pic)) : HeadEn (ts ++ us) := by
  obtain ⟨p, r, rfl, h⟩ := h
  exact ⟨p, r ++ us, rfl, h⟩
end
section
variable {P : Program} {w : World} {K : PySem.W.Frag} {mg : Str → Option Value} {base : Heap}
def spStream (K : PySem.W.Frag) : Sp := fun vs H Q _ => ∃ (b : Addr) (n : Nat) (sv : V) (bits : Nat) (sizes : Sizes) (many : Nat), vs = [.ref b, sv, .int many] ∧ Box H b n ∧ n + 20000 < 2 ^ 30 ∧ Dp K H sv (encSetup bits sizes) ∧ SetupOk bits sizes ∧ 1 ≤ many ∧ many ≤ 50 ∧
  ∀ H' v ts, Box H' b (n + 20000) → Fr (only b) H H' → Dp K H' v (encStream ts) → ts.length = many → (∀ t ∈ ts, ThingOk t) → HeadEn ts → Q v H'
theorem ok_stream (T : Fx K mg) (F : DF K mg "_law_some_stream" s_some_stream ["_law_box_here", "_law_setup_so", "_law_many"]) (c_take : Cal P w K mg base 2 "_law_take" (spTk K) []) (c_some_picture : Cal P w K mg base 4 "_law_some_picture" (spPic K) []) : Cal P w K mg base 5 "_law_some_stream" (spStream K) [] := by
  refine F.cal sc_some_stream (fun vs H Q E h => ?_) (fun f cdv A outer s H vs Q E hr h => ?_)
  · obtain ⟨_, _, _, _, _, _, rfl, _⟩ := h
    rfl
  obtain ⟨b, n, sv, bits, sizes, many, rfl, hb, hn, hsv, ok, hm0, hm1, k⟩ := h
  have nd := sc_some_stream.nd
  have tS := to_setup (bits := bits) (Nat.le_trans ok.l1 (by decide))
  refine ⟨_, (pss_cons (ps_par (i := 3) (j := 4) rfl nd rfl rfl (by decide) rfl rfl (pa_cons (pe_lst pa_nil) (pa_cons pe_bl pa_nil)) rfl)
  (pss_cons (ps_for PassesOwn.never rfl (pi_range1 (by rfl) T.n_range (pa_cons (pv 2) pa_nil)) (pg_name (i := 5) nd rfl (by first | exact .inl rfl | exact .inr rfl)) (pss_one (ps_if (PW.pt (pw_and (pt_not (pt_val (pv 4))) (pw_and1 (pt_cmpR op_eq (pe_c c_take hr (by first | decide | omega) (by rfl) (pa_cons (pv 0) (pa_cons pe_int pa_nil))) pe_int (nomark _))))) (pss_cons (ps_expr (pe_bm PySem.F.plainAttrs_list PySem.F.slot_list_append PySem.F.type_list_append mt_append (pv 3) (pa_cons (pe_tup (pa_cons pe_str pa_nil)) pa_nil)))
          (pss_one (ps_set (i := 4) nd rfl (Or.inl rfl) pe_bl))) (pss_cons (ps_expr (pe_bm PySem.F.plainAttrs_list PySem.F.slot_list_append PySem.F.type_list_append mt_append (pv 3) (pa_cons (pe_c c_some_picture hr (by first | decide | omega) (by rfl) (pa_cons (pv 0) (pa_cons (pv 1) (pa_cons (pe_or (pv 4) (pe_one (pe_cmpR op_eq (pe_c c_take hr (by first | decide | omega) (by rfl) (pa_cons (pv 0) (pa_cons pe_int pa_nil))) pe_int (nomark _)))) pa_nil)))) pa_nil)))
          (pss_one (ps_set (i := 4) nd rfl (Or.inl rfl) pe_bl))))))
  (pss_one (ps_ret (pe_callTy call_tuple_of (by rfl) T.n_tuple boot_tuple (pa_cons (pv 3) pa_nil)))))), ?_⟩
  refine ⟨Nat.zero_le _, fun l hl => ⟨_, _, rfl, ?_⟩⟩
  have nlb := hb.ne hl
  refine ⟨_, rfl, many, rfl, by omega, by omega, ?_⟩
  rw [show ((many : Nat) : Int).toNat = many by omega]
  refine for_range (n := many) (fun i σ H' => ∃ (v5 : Option V) (must : Bool) (ts : List (Option Pic)), σ = [some (.ref b), some sv, some (.int many), some (.ref l), some (.bl must), v5] ∧ Box H' b (n + 302 * i) ∧ Fr (only b) H H' ∧ LD K 3 H' l (ts.map encThing) ∧ ts.length = i ∧ (∀ t ∈ ts, ThingOk t) ∧ ((ts = [] ∧ must = true) ∨ HeadEn ts))
    ⟨none, true, [], rfl, hb.new hl, (Fr.refl _ _).new hl, .nil upd_same, rfl, fun t ht => absurd ht List.not_mem_nil, .inl ⟨rfl, rfl⟩⟩ ?_ ?_
  · rintro i σ H1 hi ⟨v5, must, ts, rfl, hb1, f1, ld1, hlen, hok, hhd⟩
    have push : ∀ {H2 : Hp} {v : V} {t : Option Pic}, Fr (only b) H1 H2 → Dp K H2 v (encThing t) → ThingOk t → ∃ rvs, H2 l = some (.lst rvs) ∧ rvs.length < sizeLine ∧ LD K 3 (upd H2 l (.lst (rvs ++ [v]))) l ((ts ++ [t]).map encThing) ∧ Fr (only b) H (upd H2 l (.lst (rvs ++ [v]))) ∧ (∀ m, Box H2 b m → Box (upd H2 l (.lst (rvs ++ [v]))) b m) := fun {H2 v t} f12 hv ht => by
      obtain ⟨rvs, g1, g2, g3⟩ := ld1.fr f12 nlb
      refine ⟨rvs, g1, ?_, ?_, (f1.tr f12).put g1 rfl (.inr hl), fun m hm => hm.fr (S := only l) ((Fr.refl _ _).put g1 rfl (.inl rfl)) fun z => nlb z.symm⟩
      · rw [g2.1, List.length_map, hlen]
        exact Nat.lt_of_lt_of_le hi (Nat.le_trans hm1 (by decide))
      · rw [List.map_append]
        exact LD.push g1 g2 g3 hv (to_thing ht)
    have hok' : ∀ {t : Option Pic}, ThingOk t → ∀ u ∈ ts ++ [t], ThingOk u := fun ht u hu => by
      rcases List.mem_append.mp hu with hu | hu
      · exact hok u hu
      · rw [List.mem_singleton.mp hu]; exact ht
    -- the picture
    have pic : ∀ {H2 : Hp} {m : Nat}, Fr (only b) H1 H2 → Box H2 b m → m ≤ n + 302 * i + 2 → True := fun _ _ _ => trivial
    change tAnd _ _ _ _ _
    refine tt_cut (fun c H2 => Fr (only b) H1 H2 ∧ Box H2 b (n + 302 * i + 1) ∧ (c = true → must = false)) ?_ fun key => ?_
    · rintro c H2 ⟨f12, hb2, hc⟩
      have ld2 := ld1.fr f12 nlb
      obtain ⟨r2, g21, _⟩ := id ld2
      refine ite2 (fun hcc => ?_) (fun hcc => ?_)
      · refine ⟨_, rfl, .inl ⟨rfl, _, SqL.of g21⟩, by show 1 ≤ sizeLine; decide, fun t ht => ?_⟩
        obtain ⟨rvs, g1, gl, gd, gf, gb⟩ := push (t := none) (f12.new (o := .tup [.str "end"]) ht) (.tup (SqT.of upd_same) (.cons (.str _) .nil)) trivial
        refine ⟨l, _, _, rfl, rfl, g1, gl, _, true, ts ++ [none], rfl, (gb _ (hb2.new ht)).le (by omega), gf, gd, by rw [List.length_append, hlen]; rfl, hok' trivial, .inr ?_⟩
        rcases hhd with ⟨_, e⟩ | e
        · rw [hc hcc] at e
          cases e
        · exact e.app _
      · refine ⟨_, rfl, .inl ⟨rfl, _, SqL.of g21⟩, _, rfl, _, rfl, ?_⟩
        change tOrV _ _ _ _ _
        refine or_cut (fun v H3 => ∃ eb : Bool, v = .bl eb ∧ Box H3 b (n + 302 * i + 2) ∧ Fr (only b) H2 H3 ∧ (must = true → eb = true)) ?_ fun key2 => ?_
        · rintro v H3 ⟨eb, rfl, hb3, f23, heb⟩
          refine ⟨b, _, sv, bits, sizes, eb, rfl, hb3, by omega, Dp.fr tS (Dp.fr tS hsv f1) (f12.tr f23), ok, fun H4 v4 pc hb4 f34 hd4 pok he => ?_⟩
          obtain ⟨rvs, g1, gl, gd, gf, gb⟩ := push (t := some pc) ((f12.tr f23).tr f34) hd4 pok
          refine ⟨l, _, _, rfl, rfl, g1, gl, _, false, ts ++ [some pc], rfl, (gb _ hb4).le (by omega), gf, gd, by rw [List.length_append, hlen]; rfl, hok' pok, .inr ?_⟩
          rcases hhd with ⟨e1, e2⟩ | e
          · rw [e1]
            exact ⟨pc, [], rfl, he (heb e2)⟩
          · exact e.app _
        · refine ⟨_, rfl, must, rfl, ?_⟩
          cases must with
          | true => exact ifT rfl (key2 _ _ ⟨true, rfl, hb2.le (by omega), Fr.refl _ _, fun _ => rfl⟩)
          | false => exact ifF rfl ⟨_, rfl, b, _, 6, rfl, hb2, by omega, by decide, by decide, fun H3 r3 hb3 fr3 _ _ => ⟨rfl, key2 _ _ ⟨_, rfl, hb3, fr3, fun z => by cases z⟩⟩⟩
    · refine ⟨_, rfl, must, rfl, ?_⟩
      cases must with
      | true => exact key false _ ⟨Fr.refl _ _, hb1.le (by omega), fun z => by cases z⟩
      | false =>
        refine ⟨_, rfl, b, _, 9, rfl, hb1, by omega, by decide, by decide, fun H2 r2 hb2 fr2 _ _ => ⟨rfl, _, rfl, key _ _ ⟨fr2, hb2, fun _ => rfl⟩⟩⟩
  · rintro σ H1 ⟨v5, must, ts, rfl, hb1, f1, ld1, hlen, hok, hhd⟩
    obtain ⟨rvs, g1, g2, g3⟩ := id ld1
    refine ⟨_, rfl, l, _, rfl, .inl ⟨SqL.of g1, fun t ht => ?_⟩⟩
    refine k _ (.ref t) ts ((hb1.new ht).le (by omega)) (f1.new ht) (.tup (SqT.of upd_same) (dpAll_of ⟨g2.1, fun i x y hx hy => Dp.ext (g3 y (List.mem_of_getElem? hy)) (g2.2 i x y hx hy) (ext_new ht)⟩)) hlen hok ?_
    rcases hhd with ⟨e, _⟩ | e
    · rw [e] at hlen
      simp at hlen
      omega
    · exact e
def spSecond (K : PySem.W.Frag) : Sp := fun vs H Q _ => ∃ (b : Addr) (n : Nat) (sv : V) (bits : Nat) (sizes : Sizes), vs = [.ref b, sv] ∧ Box H b n ∧ n + 20001 < 2 ^ 30 ∧ Dp K H sv (encSetup bits sizes) ∧ SetupOk bits sizes ∧
  ∀ H' v ts, Box H' b (n + 20001) → Fr (only b) H H' → Dp K H' v (encStream ts) → ts.length ≤ 14 → (∀ t ∈ ts, ThingOk t) → HeadEn ts → Q v H'
theorem ok_second (T : Fx K mg) (F : DF K mg "_law_second" s_second ["_law_box_here", "_law_setup_so"]) (c_take : Cal P w K mg base 2 "_law_take" (spTk K) []) (c_some_stream : Cal P w K mg base 5 "_law_some_stream" (spStream K) []) : Cal P w K mg base 6 "_law_second" (spSecond K) [] := by
  refine F.cal sc_second (fun vs H Q E h => ?_) (fun f cdv A outer s H vs Q E hr h => ?_)
  · obtain ⟨_, _, _, _, _, rfl, _⟩ := h
    rfl
  obtain ⟨b, n, sv, bits, sizes, rfl, hb, hn, hsv, ok, k⟩ := h
  have nd := sc_second.nd
  have tS := to_setup (bits := bits) (Nat.le_trans ok.l1 (by decide))
  refine ⟨_, (pss_cons (ps_set (i := 2) nd rfl (Or.inl rfl) (pe_c c_some_stream hr (by first | decide | omega) (by rfl) (pa_cons (pv 0) (pa_cons (pv 1) (pa_cons (pe_op op_add pe_int (pe_c c_take hr (by first | decide | omega) (by rfl) (pa_cons (pv 0) (pa_cons pe_int pa_nil)))) pa_nil)))))
  (pss_one (ps_ret (pv 2)))), ?_⟩
  refine ⟨_, rfl, _, rfl, _, rfl, b, n, 14, rfl, hb, by omega, by decide, by decide, fun H1 r1 hb1 fr1 r10 r11 => ⟨_, _, rfl, rfl, b, n + 1, sv, bits, sizes, 1 + r1.toNat, ?_, hb1, by omega, Dp.fr tS hsv fr1, ok, by omega, by omega, fun H2 v ts hb2 fr2 hd hl hok hh => ⟨_, rfl, k _ v ts (hb2.le (by omega)) (fr1.tr fr2) hd (by omega) hok hh⟩⟩⟩
  show [V.ref b, sv, V.int (1 + r1)] = _
  rw [show ((1 + r1.toNat : Nat) : Int) = 1 + r1 by omega]
end

end L2.K13
set_option Elab.async false
set_option linter.all false
set_option maxRecDepth 100000
set_option maxHeartbeats 4000000
set_option pp.maxSteps 150
namespace L2.K13
open PySem PySem.Spec PyProof.Rows L2
open C8 (Cal Met Mak pe_c pe_mt pe_mt0 pe_mk)
local macro_rules | `(tactic| walk_at "hp") => `(tactic| first | assumption | exact upd_same | (refine upd_keep ?_ (by assumption); walk_at "hp") | (refine upd_off ?_ (by assumption) (by intro z; cases z); walk_at "hp"))
local macro_rules | `(tactic| walk_at "seq") => `(tactic| first | assumption | exact SqT.of (by walk_at "hp") | exact SqL.of (by walk_at "hp"))
section
structure RwK where
  r : Addr
  c : Int
  p : Int
  m : Str
  w : Option Int
def RwK.vs (t : RwK) : List V := [.int t.c, .int t.p, .str t.m, wv t.w]
structure KS where
  bits : Nat
  su : Addr
  top : Nat
  l : Addr
  bv : Option Int
  an : Bool
  en : Bool
  rows : List RwK
def kdl (s : KS) : List (Key × V) := [(.inr "setup", .ref s.su), (.inr "top", .int s.top), (.inr "rows", .ref s.l), (.inr "base", wv s.bv), (.inr "anew", .bl s.an), (.inr "enter", .bl s.en)]
theorem kd_setup (s : KS) : valV (kdl s) (.inr "setup") = some (.ref s.su) := by kernel_rfl
theorem kd_top (s : KS) : valV (kdl s) (.inr "top") = some (.int s.top) := by kernel_rfl
theorem kd_rows (s : KS) : valV (kdl s) (.inr "rows") = some (.ref s.l) := by kernel_rfl
theorem kd_base (s : KS) : valV (kdl s) (.inr "base") = some (wv s.bv) := by kernel_rfl
theorem kd_anew (s : KS) : valV (kdl s) (.inr "anew") = some (.bl s.an) := by kernel_rfl
theorem kd_enter (s : KS) : valV (kdl s) (.inr "enter") = some (.bl s.en) := by kernel_rfl
theorem kp_rows (s : KS) (l' : Addr) (rs : List RwK) : putK (kdl s) (.inr "rows") (.ref l') = kdl { s with l := l', rows := rs } := by kernel_rfl
theorem kp_base (s : KS) (b : Option Int) : putK (kdl s) (.inr "base") (wv b) = kdl { s with bv := b } := by kernel_rfl
theorem kp_anew (s : KS) (b : Bool) : putK (kdl s) (.inr "anew") (.bl b) = kdl { s with an := b } := by kernel_rfl
theorem kp_enter (s : KS) (b : Bool) : putK (kdl s) (.inr "enter") (.bl b) = kdl { s with en := b } := by kernel_rfl
abbrev rrf (rs : List RwK) : List V := rs.map fun t => V.ref t.r
def big : Sizes := [(99, 98, none), (99, 98, none), (99, 98, none)]
def mks : List Str := ["long", "short", ""]
theorem strOk_mks : ∀ k ∈ mks, PyData.canLay0 (.str k) = true := by decide +kernel
structure Ker (K : PySem.W.Frag) (H0 H : Hp) (a : Addr) (s : KS) : Prop where
  same : Same H0 H
  a0 : H0 a = none
  ha : H a = some (.dK (kdl s))
  l0 : H0 s.l = none
  hl : H s.l = some (.lst (rrf s.rows))
  r0 : ∀ t ∈ s.rows, H0 t.r = none ∧ H t.r = some (.lst t.vs)
  nd : (s.rows.map RwK.r).Nodup
  su : Dp K H (.ref s.su) (encSetup s.bits big)
  b0 : 2 ≤ s.bits
  b1 : s.bits ≤ 5
  top : s.top ≤ 2
  len : s.rows.length ≤ 90
  mok : ∀ t ∈ s.rows, t.m ∈ mks
theorem toBig {bits : Nat} : TO 3 (encSetup bits big) := to_setup (by decide)
def modR (r : Addr) (f : RwK → RwK) (rs : List RwK) : List RwK := rs.map fun u => if u.r = r then f u else u
theorem modR_r {r : Addr} {f : RwK → RwK} (hf : ∀ u, (f u).r = u.r) (rs : List RwK) : (modR r f rs).map RwK.r = rs.map RwK.r := by
  unfold modR
  rw [List.map_map]
  refine List.map_congr_left fun u _ => ?_
  show (if u.r = r then f u else u).r = u.r
  split
  · exact hf u
  · rfl
theorem nd_eq {rs : List RwK} (h : (rs.map RwK.r).Nodup) {t u : RwK} (ht : t ∈ rs) (hu : u ∈ rs) (e : u.r = t.r) : u = t := by
  induction rs with
  | nil => cases ht
  | cons x xs ih =>
    rw [List.map_cons, List.nodup_cons] at h
    rcases List.mem_cons.mp ht with q | ht'
    · rcases List.mem_cons.mp hu with q' | hu'
      · exact q'.trans q.symm
      · subst q
        exact absurd (List.mem_map.mpr ⟨u, hu', e⟩) h.1
    · rcases List.mem_cons.mp hu with q' | hu'
      · subst q'
        exact absurd (List.mem_map.mpr ⟨t, ht', e.symm⟩) h.1
      · exact ih h.2 ht' hu'
variable {K : PySem.W.Frag} {H0 H H' : Hp} {a : Addr} {s : KS}
theorem Ker.ext (k : Ker K H0 H a s) (x : Same H H') : Ker K H0 H' a s :=
  ⟨fun b o h => x b o (k.same b o h), k.a0, x _ _ k.ha, k.l0, x _ _ k.hl, fun t ht => ⟨(k.r0 t ht).1, x _ _ (k.r0 t ht).2⟩, k.nd, Dp.ext toBig k.su (LamX.ExtN.of x), k.b0, k.b1, k.top, k.len, k.mok⟩
theorem Ker.new (k : Ker K H0 H a s) {p : Addr} {o : HO} (hp : H p = none) : Ker K H0 (upd H p o) a s := k.ext fun y o' h => upd_keep h hp
/-- a thing of one's own, held below -/
theorem Ker.newH (k : Ker K H0 H a s) {p : Addr} {o : HO} (hp : H p = none) : Ker K (upd H0 p o) (upd H p o) a s := by
  have e := k.new (o := o) hp
  have n : ∀ b o', H b = some o' → b ≠ p := fun b o' h => ne_of_none h hp
  refine ⟨fun b o' h => ?_, by rw [upd_ne (n _ _ k.ha)]; exact k.a0, e.ha, by rw [upd_ne (n _ _ k.hl)]; exact k.l0, e.hl, fun t ht => ⟨by rw [upd_ne (n _ _ (k.r0 t ht).2)]; exact (k.r0 t ht).1, (e.r0 t ht).2⟩, k.nd, e.su, k.b0, k.b1, k.top, k.len, k.mok⟩
  by_cases q : b = p
  · subst q; rw [upd_same] at h ⊢; exact h
  · rw [upd_ne q] at h ⊢; exact k.same b o' h
theorem Ker.chg {p : Addr} {o o' : HO} (k : Ker K (upd H0 p o) H a s) (hi : imm o = false) : Ker K (upd H0 p o') (upd H p o') a s := by
  have hp : H p = some o := k.same p o upd_same
  have n : ∀ {b : Addr}, upd H0 p o b = none → b ≠ p ∧ H0 b = none := fun {b} h => by
    by_cases q : b = p
    · subst q; rw [upd_same] at h; cases h
    · rw [upd_ne q] at h; exact ⟨q, h⟩
  have at' : ∀ {b : Addr} {x : HO}, upd H0 p o b = none → H b = some x → upd H p o' b = some x ∧ upd H0 p o' b = none := fun {b x} h h' => by
    rw [upd_ne (n h).1, upd_ne (n h).1]; exact ⟨h', (n h).2⟩
  refine ⟨fun b x h => ?_, (at' k.a0 k.ha).2, (at' k.a0 k.ha).1, (at' k.l0 k.hl).2, (at' k.l0 k.hl).1, fun t ht => ⟨(at' (k.r0 t ht).1 (k.r0 t ht).2).2, (at' (k.r0 t ht).1 (k.r0 t ht).2).1⟩, k.nd, Dp.fr toBig k.su ((Fr.refl (only p) H).put hp hi (.inl rfl)), k.b0, k.b1, k.top, k.len, k.mok⟩
  by_cases q : b = p
  · subst q; rw [upd_same] at h ⊢; exact h
  · rw [upd_ne q] at h ⊢
    exact k.same b x (by rw [upd_ne q]; exact h)
theorem Ker.drop {H1 : Hp} (k : Ker K H1 H a s) (x : Same H0 H1) : Ker K H0 H a s := by
  have n : ∀ {b : Addr}, H1 b = none → H0 b = none := fun {b} h => by
    cases e : H0 b with
    | none => rfl
    | some o => rw [x b o e] at h; cases h
  exact ⟨fun b o h => k.same b o (x b o h), n k.a0, k.ha, n k.l0, k.hl, fun t ht => ⟨n (k.r0 t ht).1, (k.r0 t ht).2⟩, k.nd, k.su, k.b0, k.b1, k.top, k.len, k.mok⟩
theorem Ker.free (k : Ker K H0 H a s) {p : Addr} (hp : H p = none) : H0 p = none := by
  cases e : H0 p with
  | none => rfl
  | some o => rw [k.same p o e] at hp; cases hp
theorem Ker.nla (k : Ker K H0 H a s) : s.l ≠ a := ne_of k.hl k.ha (by intro z; cases z)
theorem Ker.nra (k : Ker K H0 H a s) {t : RwK} (ht : t ∈ s.rows) : t.r ≠ a := ne_of (k.r0 t ht).2 k.ha (by intro z; cases z)
theorem Ker.nrl (k : Ker K H0 H a s) {t : RwK} (ht : t ∈ s.rows) : t.r ≠ s.l := fun e => by
  have h := (k.r0 t ht).2
  rw [e, k.hl] at h
  cases hr : s.rows with
  | nil => rw [hr] at ht; cases ht
  | cons u us =>
    rw [hr] at h
    injection h with h
    injection h with h
    injection h with h _
    cases h
theorem Ker.upSame (k : Ker K H0 H a s) {p : Addr} {o : HO} (hp : H0 p = none) : Same H0 (upd H p o) := fun b x h => by
  rw [upd_ne (fun e => by rw [e, hp] at h; cases h)]
  exact k.same b x h
theorem Ker.suAt (k : Ker K H0 H a s) {p : Addr} {o o' : HO} (hp : H p = some o) (hi : imm o = false) : Dp K (upd H p o') (.ref s.su) (encSetup s.bits big) := Dp.fr toBig k.su ((Fr.refl (only p) H).put hp hi (.inl rfl))
/-- the kernel's other fields -/
theorem Ker.fld (k : Ker K H0 H a s) (bv : Option Int) (an en : Bool) : Ker K H0 (upd H a (.dK (kdl { s with bv := bv, an := an, en := en }))) a { s with bv := bv, an := an, en := en } :=
  ⟨k.upSame k.a0, k.a0, upd_same, k.l0, by show upd H a _ s.l = _; rw [upd_ne k.nla]; exact k.hl, fun t ht => ⟨(k.r0 t ht).1, by rw [upd_ne (k.nra ht)]; exact (k.r0 t ht).2⟩, k.nd, k.suAt k.ha rfl, k.b0, k.b1, k.top, k.len, k.mok⟩
/-- another list of rows -/
theorem Ker.rowsTo (k : Ker K H0 H a s) {l' : Addr} {rs : List RwK} (hl : H l' = some (.lst (rrf rs))) (l0 : H0 l' = none) (hs : rs.Sublist s.rows) : Ker K H0 (upd H a (.dK (kdl { s with l := l', rows := rs }))) a { s with l := l', rows := rs } :=
  ⟨k.upSame k.a0, k.a0, upd_same, l0, by show upd H a _ l' = _; rw [upd_ne (ne_of hl k.ha (by intro z; cases z))]; exact hl, fun t ht => ⟨(k.r0 t (hs.subset ht)).1, by rw [upd_ne (k.nra (hs.subset ht))]; exact (k.r0 t (hs.subset ht)).2⟩, (hs.map RwK.r).nodup k.nd, k.suAt k.ha rfl, k.b0, k.b1, k.top, Nat.le_trans hs.length_le k.len, fun t ht => k.mok t (hs.subset ht)⟩
/-- a row changed -/
theorem Ker.mod (k : Ker K H0 H a s) {t : RwK} (ht : t ∈ s.rows) {f : RwK → RwK} (hf : ∀ u, (f u).r = u.r) (hm : (f t).m ∈ mks) : Ker K H0 (upd H t.r (.lst (f t).vs)) a { s with rows := modR t.r f s.rows } := by
  refine ⟨k.upSame (k.r0 t ht).1, k.a0, by rw [upd_ne (k.nra ht).symm]; exact k.ha, k.l0, ?_, fun u hu => ?_, ?_, k.suAt (k.r0 t ht).2 rfl, k.b0, k.b1, k.top, ?_, fun u hu => ?_⟩
  · show upd H t.r _ s.l = _
    rw [upd_ne (k.nrl ht).symm, k.hl]
    congr 2
    show rrf s.rows = rrf (modR t.r f s.rows)
    have e := congrArg (List.map V.ref) (modR_r (r := t.r) hf s.rows)
    rw [List.map_map, List.map_map] at e
    exact e.symm
  · obtain ⟨v, hv, rfl⟩ := List.mem_map.mp hu
    by_cases q : v.r = t.r
    · rw [if_pos q]
      have e := nd_eq k.nd ht hv q
      subst e
      refine ⟨by rw [hf]; exact (k.r0 v hv).1, ?_⟩
      rw [hf, upd_same]
    · rw [if_neg q]
      exact ⟨(k.r0 v hv).1, by rw [upd_ne q]; exact (k.r0 v hv).2⟩
  · show ((modR t.r f s.rows).map RwK.r).Nodup
    rw [modR_r hf]
    exact k.nd
  · show (modR t.r f s.rows).length ≤ 90
    unfold modR
    rw [List.length_map]
    exact k.len
  · obtain ⟨v, hv, rfl⟩ := List.mem_map.mp hu
    by_cases q : v.r = t.r
    · rw [if_pos q, nd_eq k.nd ht hv q]
      exact hm
    · rw [if_neg q]
      exact k.mok v hv
/-- a new row -/
theorem Ker.push (k : Ker K H0 H a s) {t : RwK} (h0 : H0 t.r = none) (h1 : H t.r = some (.lst t.vs)) (hn : ∀ u ∈ s.rows, u.r ≠ t.r) (hl : s.l ≠ t.r) (le : s.rows.length < 90) (hm : t.m ∈ mks) : Ker K H0 (upd H s.l (.lst (rrf s.rows ++ [.ref t.r]))) a { s with rows := s.rows ++ [t] } := by
  refine ⟨k.upSame k.l0, k.a0, by rw [upd_ne k.nla.symm]; exact k.ha, k.l0, ?_, fun u hu => ?_, ?_, k.suAt k.hl rfl, k.b0, k.b1, k.top, by show (s.rows ++ [t]).length ≤ 90; rw [List.length_append]; exact le, fun u hu => ?_⟩
  · show upd H s.l _ s.l = _
    rw [upd_same]
    show _ = some (HO.lst (rrf (s.rows ++ [t])))
    rw [show rrf (s.rows ++ [t]) = rrf s.rows ++ [.ref t.r] from List.map_append]
  · rcases List.mem_append.mp hu with hu | hu
    · exact ⟨(k.r0 u hu).1, by rw [upd_ne (k.nrl hu)]; exact (k.r0 u hu).2⟩
    · rw [List.mem_singleton.mp hu]
      exact ⟨h0, by rw [upd_ne hl.symm]; exact h1⟩
  · show ((s.rows ++ [t]).map RwK.r).Nodup
    rw [List.map_append, List.nodup_append]
    refine ⟨k.nd, by simp, fun x hx y hy e => ?_⟩
    obtain ⟨u, hu, rfl⟩ := List.mem_map.mp hx
    simp only [List.map_cons, List.map_nil, List.mem_singleton] at hy
    exact hn u hu (e.trans hy)
  · rcases List.mem_append.mp hu with hu | hu
    · exact k.mok u hu
    · rw [List.mem_singleton.mp hu]; exact hm
theorem Ker.setup (k : Ker K H0 H a s) : ∃ sb ss, SqT K H s.su [.int s.bits, .ref sb] ∧ SqT K H sb ss ∧ ss.length = 3 ∧ ∀ i, i < 3 → ∃ q, ss[i]? = some (.ref q) ∧ SqT K H q [.int 99, .int 98, .non] := by
  obtain ⟨sa, sb, ss, e, q1, q2, q3⟩ := dp_setup k.su
  cases e
  refine ⟨sb, ss, q1, q2, q3.1, fun i hi => ?_⟩
  have h1 : i < ss.length := by rw [q3.1]; exact hi
  have hb : big[i]? = some (99, 98, none) := by
    rcases i with _ | _ | _ | i
    · rfl
    · rfl
    · rfl
    · omega
  obtain ⟨q, e, h⟩ := q3.2 i _ _ (List.getElem?_eq_getElem h1) hb
  exact ⟨q, by rw [List.getElem?_eq_getElem h1, e], h⟩
theorem Ker.gSetup (k : Ker K H0 H a s) : DGet H a (.str "setup") (some (.ref s.su)) := by
  have := DGet.k (k := .inr "setup") k.ha
  rwa [kd_setup] at this
theorem Ker.gTop (k : Ker K H0 H a s) : DGet H a (.str "top") (some (.int s.top)) := by
  have := DGet.k (k := .inr "top") k.ha
  rwa [kd_top] at this
theorem Ker.gRows (k : Ker K H0 H a s) : DGet H a (.str "rows") (some (.ref s.l)) := by
  have := DGet.k (k := .inr "rows") k.ha
  rwa [kd_rows] at this
theorem Ker.gBase (k : Ker K H0 H a s) : DGet H a (.str "base") (some (wv s.bv)) := by
  have := DGet.k (k := .inr "base") k.ha
  rwa [kd_base] at this
theorem Ker.gAnew (k : Ker K H0 H a s) : DGet H a (.str "anew") (some (.bl s.an)) := by
  have := DGet.k (k := .inr "anew") k.ha
  rwa [kd_anew] at this
theorem Ker.gEnter (k : Ker K H0 H a s) : DGet H a (.str "enter") (some (.bl s.en)) := by
  have := DGet.k (k := .inr "enter") k.ha
  rwa [kd_enter] at this
theorem Ker.pRows (k : Ker K H0 H a s) (l' : Addr) (rs : List RwK) : DPut H a (.str "rows") (.ref l') (upd H a (.dK (kdl { s with l := l', rows := rs }))) := by
  have := DPut.k (k := .inr "rows") (v := .ref l') k.ha (by show 6 < sizeLine; decide)
  rwa [kp_rows s l' rs] at this
theorem Ker.pBase (k : Ker K H0 H a s) (b : Option Int) : DPut H a (.str "base") (wv b) (upd H a (.dK (kdl { s with bv := b }))) := by
  have := DPut.k (k := .inr "base") (v := wv b) k.ha (by show 6 < sizeLine; decide)
  rwa [kp_base s b] at this
theorem Ker.pAnew (k : Ker K H0 H a s) (b : Bool) : DPut H a (.str "anew") (.bl b) (upd H a (.dK (kdl { s with an := b }))) := by
  have := DPut.k (k := .inr "anew") (v := .bl b) k.ha (by show 6 < sizeLine; decide)
  rwa [kp_anew s b] at this
theorem Ker.pEnter (k : Ker K H0 H a s) (b : Bool) : DPut H a (.str "enter") (.bl b) (upd H a (.dK (kdl { s with en := b }))) := by
  have := DPut.k (k := .inr "enter") (v := .bl b) k.ha (by show 6 < sizeLine; decide)
  rwa [kp_enter s b] at this
/-- rows as data -/
def encR (t : RwK) : PyData := .list [.int t.c, .int t.p, .str t.m, encO t.w]
theorem dp_encO {w : Option Int} : Dp K H (wv w) (encO w) := by
  cases w with
  | none => exact .non
  | some i => exact .int i
theorem Ker.dpR (k : Ker K H0 H a s) {t : RwK} (ht : t ∈ s.rows) : Dp K H (.ref t.r) (encR t) := .lst (SqL.of (k.r0 t ht).2) (.cons (.int _) (.cons (.int _) (.cons (.str _) (.cons dp_encO .nil))))
theorem Ker.dpRs (k : Ker K H0 H a s) : ∀ {rs : List RwK}, (∀ t ∈ rs, t ∈ s.rows) → DpAll K H (rrf rs) (rs.map encR)
  | [], _ => .nil
  | t :: rs, h => .cons (k.dpR (h t (List.mem_cons_self ..))) (k.dpRs fun u hu => h u (List.mem_cons_of_mem _ hu))
theorem layAll {ds : List PyData} (h : ∀ d ∈ ds, d.canLay0 = true) : PyData.canLayAll0 ds = true := by
  induction ds with
  | nil => rfl
  | cons x xs ih =>
    show (PyData.canLay0 x && PyData.canLayAll0 xs) = true
    rw [h x (List.mem_cons_self ..), ih fun d hd => h d (List.mem_cons_of_mem _ hd)]
    rfl
theorem depAll {ds : List PyData} {n : Nat} (h : ∀ d ∈ ds, d.depth ≤ n) : PyData.depthAll ds ≤ n := by
  induction ds with
  | nil => exact Nat.zero_le _
  | cons x xs ih =>
    show max (PyData.depth x) (PyData.depthAll xs) ≤ n
    exact Nat.max_le.mpr ⟨h x (List.mem_cons_self ..), ih fun d hd => h d (List.mem_cons_of_mem _ hd)⟩
theorem shaped_l {ds : List PyData} (h : ∀ d ∈ ds, d.canLay0 = true ∧ d.depth ≤ 60) : SeqAt.shaped (.list ds) = true := by
  have h1 := layAll fun d hd => (h d hd).1
  have h2 := depAll fun d hd => (h d hd).2
  show (PyData.canLayAll0 ds && decide (PyData.depthAll ds + 1 ≤ 64)) = true
  rw [h1, decide_eq_true (by omega)]
  rfl
theorem layR {t : RwK} (h : t.m ∈ mks) : (encR t).canLay0 = true ∧ (encR t).depth = 1 := by
  have e : PyData.canLay0 (.str t.m) = true := strOk_mks _ h
  cases hw : t.w with
  | none =>
    refine ⟨?_, ?_⟩
    · show PyData.canLayAll0 [.int t.c, .int t.p, .str t.m, encO t.w] = true
      rw [hw]
      show (true && (true && (PyData.canLay0 (.str t.m) && (true && true)))) = true
      rw [e]; rfl
    · show PyData.depthAll [.int t.c, .int t.p, .str t.m, encO t.w] + 1 = 1
      rw [hw]; rfl
  | some i =>
    refine ⟨?_, ?_⟩
    · show PyData.canLayAll0 [.int t.c, .int t.p, .str t.m, encO t.w] = true
      rw [hw]
      show (true && (true && (PyData.canLay0 (.str t.m) && (true && true)))) = true
      rw [e]; rfl
    · show PyData.depthAll [.int t.c, .int t.p, .str t.m, encO t.w] + 1 = 1
      rw [hw]; rfl
theorem eqv_nil {ds : List PyData} : PyData.eqv (.list ds) (.list []) = ds.isEmpty := by
  cases ds with
  | nil => rfl
  | cons x xs => rfl
/-- x != [], x a list of data -/
theorem ne_nil {x : V} {q : Addr} {ds : List PyData} {Q : VK} (hx : Dp K H x (.list ds)) (hs : ∀ d ∈ ds, d.canLay0 = true ∧ d.depth ≤ 60) (hq : H q = some (.lst [])) (h : Q (.bl (!ds.isEmpty)) H) : rNeD K x (.ref q) H Q :=
  ⟨.list ds, .list [], hx, .lst (SqL.of hq) .nil, shaped_l hs, by decide, by rw [eqv_nil]; exact h⟩
theorem eq_nil {x : V} {q : Addr} {ds : List PyData} {Q : VK} (hx : Dp K H x (.list ds)) (hs : ∀ d ∈ ds, d.canLay0 = true ∧ d.depth ≤ 60) (hq : H q = some (.lst [])) (h : Q (.bl ds.isEmpty) H) : rEqD K x (.ref q) H Q :=
  ⟨.list ds, .list [], hx, .lst (SqL.of hq) .nil, shaped_l hs, by decide, by rw [eqv_nil]; exact h⟩
end

end L2.K13
set_option Elab.async false
set_option linter.all false
set_option maxRecDepth 100000
set_option maxHeartbeats 4000000
set_option pp.maxSteps 150
namespace L2.K13
open PySem PySem.Spec PyProof.Rows L2
open C8 (Cal Met Mak pe_c pe_mt pe_mt0 pe_mk)
local macro_rules | `(tactic| walk_at "hp") => `(tactic| first | assumption | exact upd_same | (refine upd_keep ?_ (by assumption); walk_at "hp") | (refine upd_off ?_ (by assumption) (by intro z; cases z); walk_at "hp"))
local macro_rules | `(tactic| walk_at "seq") => `(tactic| first | assumption | exact SqT.of (by walk_at "hp") | exact SqL.of (by walk_at "hp"))
section
def wn (rs : List RwK) : List RwK := rs.filter fun t => t.w.isSome
theorem fmK (q : RwK → Bool) (rs : List RwK) : rs.filterMap (fun t => if q t then some (V.ref t.r) else none) = rrf (rs.filter q) := by
  show _ = (rs.filter q).map _
  rw [← List.filterMap_eq_map, List.filterMap_filter]
  rfl
theorem mergeKd (s : KS) : mergeK [] (kdl s) = kdl s := by kernel_rfl
end
section
variable {P : Program} {w : World} {K : PySem.W.Frag} {mg : Str → Option Value} {base : Heap}
def spKernel (K : PySem.W.Frag) : Sp := fun vs H Q _ => ∃ (su : Addr) (bits top : Nat), vs = [.ref su, .int top] ∧ Dp K H (.ref su) (encSetup bits big) ∧ 2 ≤ bits ∧ bits ≤ 5 ∧ top ≤ 2 ∧
  ∀ H' a l, Ker K H H' a ⟨bits, su, top, l, none, false, true, []⟩ → Q (.ref a) H'
theorem ok_kernel (T : Fx K mg) (F : DF K mg "_law_kernel" s_kernel ["_law_setup_so", "_law_top_so"]) : Cal P w K mg base 1 "_law_kernel" (spKernel K) [] := by
  refine F.cal sc_kernel (fun vs H Q E h => ?_) (fun f cdv A outer s H vs Q E hr h => ?_)
  · obtain ⟨_, _, _, rfl, _⟩ := h
    rfl
  obtain ⟨su, bits, top, rfl, hd, b0, b1, ht, k⟩ := h
  have nd := sc_kernel.nd
  refine ⟨_, (pss_one (ps_ret (pe_disp (pps_cons pe_str (pv 0) (pps_cons pe_str (pv 1) (pps_cons pe_str (pe_lst pa_nil) (pps_cons pe_str pe_non (pps_cons pe_str pe_bl (pps_cons pe_str pe_bl pps_nil)))))) rfl rfl (by simp) (by decide)))), ?_⟩
  refine fun a ha => ⟨_, rfl, _, rfl, Nat.zero_le _, fun l hl => ?_⟩
  have x1 : Same H (upd H a (.dK [])) := fun y o h => upd_keep h ha
  have hl0 : H l = none := upd_no hl
  have nal : a ≠ l := ne_of_none upd_same hl
  refine ⟨by rw [upd_ne nal, upd_same], kdl ⟨bits, su, top, l, none, false, true, []⟩, rfl, by show 6 ≤ 15; decide, ?_⟩
  rw [mergeKd]
  refine k _ a l ⟨fun y o h => ?_, ha, upd_same, hl0, by show upd _ a _ l = _; rw [upd_ne nal.symm, upd_same]; rfl, fun t ht => absurd ht List.not_mem_nil, List.nodup_nil, ?_, b0, b1, ht, Nat.zero_le _, fun t ht => absurd ht List.not_mem_nil⟩
  · have h1 : y ≠ a := ne_of_none h ha
    have h2 : y ≠ l := ne_of_none h hl0
    rw [upd_ne h1, upd_ne h2, upd_ne h1]
    exact h
  · refine Dp.ext toBig hd (LamX.ExtN.of fun y o h => ?_)
    have h1 : y ≠ a := ne_of_none h ha
    have h2 : y ≠ l := ne_of_none h hl0
    rw [upd_ne h1, upd_ne h2, upd_ne h1]
    exact h
/-- the rows that wait -/
def spWaitK (K : PySem.W.Frag) : Sp := fun vs H Q _ => ∃ (H0 : Hp) (a : Addr) (s : KS), vs = [.ref a] ∧ Ker K H0 H a s ∧ ∀ p, H p = none → Q (.ref p) (upd H p (.lst (rrf (wn s.rows))))
theorem ok_waitK (T : Fx K mg) (F : DF K mg "_law_waiting" s_waiting ["_law_kernel_here"]) : Cal P w K mg base 1 "_law_waiting" (spWaitK K) [] := by
  refine F.cal sc_waiting (fun vs H Q E h => ?_) (fun f cdv A outer s H vs Q E hr h => ?_)
  · obtain ⟨_, _, _, rfl, _⟩ := h
    rfl
  obtain ⟨H0, a, s, rfl, S, k⟩ := h
  have nd := sc_waiting.nd
  have hu := hu_of hr
  refine ⟨_, (pss_one (ps_ret (pe_lc (own := [("_law_row", 1)]) (g := (gName 1)) (tt := (tB (tNotN (tOp (rIxL K) (tVar 1) _)))) (te := (tVar 1)) rfl nd (pi_list (pe_dget hu (pv 0) pe_str (fun _ _ => rfl))) (blkOk_by (N := ["_law_kernel_here", "_law_row"]) (sc := defScope s_waiting) (by decide +kernel)) (fun _ _ _ _ _ => (pg_name (i := 1) nd rfl (by first | exact .inl rfl | exact .inr rfl))) (fun _ _ _ _ _ => (pts_one (pt_cmp (pc_notN (pe_ix ix_list (pv 1) pe_int (fun _ _ => rfl)))))) (fun _ _ _ _ _ => (pv 1))))), ?_⟩
  refine ⟨_, rfl, a, _, rfl, S.gRows, s.l, rfl, ⟨_, SqL.of S.hl⟩, fun D hD => ?_⟩
  refine lc_fm (zs := s.rows) (r := fun t => V.ref t.r) (F := fun t => if t.w.isSome then some (V.ref t.r) else none) hD S.hl (Nat.lt_of_le_of_lt S.len (by decide)) (fun i t acc R ht h1 h2 hz => ?_) ?_
  · have h3 : upd H D (.lst acc) t.r = some (.lst t.vs) := upd_keep (S.r0 t (mem_at ht)).2 hD
    refine ⟨rfl, _, rfl, t.r, _, 3, _, rfl, rfl, SqL.of h3, rfl, _, rfl, ?_⟩
    cases e : t.w with
    | none => exact ifF rfl (h2 (by rw [e]; rfl))
    | some j =>
      refine ifT rfl ⟨_, rfl, acc, upd_same, hz, ?_⟩
      rw [upd2]
      exact h1 _ (by rw [e]; rfl)
  · rw [fmK]
    exact k D hD
/-- never pressed: no more than 90 rows -/
def spPressK (K : PySem.W.Frag) : Sp := fun vs H Q _ => ∃ (H0 : Hp) (a : Addr) (s : KS), vs = [.ref a] ∧ Ker K H0 H a s ∧ ∀ H', Same H H' → Q (.bl false) H'
theorem ok_pressK (T : Fx K mg) (F : DF K mg "_law_presses" s_presses ["_law_kernel_here"]) : Cal P w K mg base 1 "_law_presses" (spPressK K) [] := by
  refine F.cal sc_presses (fun vs H Q E h => ?_) (fun f cdv A outer s H vs Q E hr h => ?_)
  · obtain ⟨_, _, _, rfl, _⟩ := h
    rfl
  obtain ⟨H0, a, s, rfl, S, k⟩ := h
  have nd := sc_presses.nd
  have hu := hu_of hr
  have hu64 := hu64_of hr
  obtain ⟨sb, ss, q1, q2, q3, q4⟩ := S.setup
  obtain ⟨q, e5, q6⟩ := q4 s.top (Nat.lt_succ_of_le S.top)
  refine ⟨_, (pss_cons (ps_asg (pe_ix ix_tup (pe_ix ix_tup (pe_dget hu (pv 0) pe_str (fun _ _ => rfl)) pe_int (fun _ _ => rfl)) (pe_dget hu (pv 0) pe_str (fun _ _ => rfl)) (fun _ _ => rfl)) (pg_tup rfl (pgs_cons (pg_name (i := 1) nd rfl (by first | exact .inl rfl | exact .inr rfl)) (pgs_cons (pg_name (i := 2) nd rfl (by first | exact .inl rfl | exact .inr rfl)) (pgs_cons (pg_name (i := 3) nd rfl (by first | exact .inl rfl | exact .inr rfl)) pgs_nil)))))
  (pss_cons (ps_setLc (i := 4) (own := [("_law_row", 6)]) (g := (gName 6)) (tt := (tB (tNotN (tOp (rIxL K) (tVar 6) _)))) (te := (tVar 6)) rfl nd rfl rfl (sw_true rfl rfl rfl (by decide +kernel)) (pi_list (pe_dget hu (pv 0) pe_str (fun _ _ => rfl))) (blkOk_by (N := ["_law_kernel_here", "_law_size_so", "_law_most_so", "_law_wait_so", "_law_some", "_law_old", "_law_row"]) (sc := defScope s_presses) (by decide +kernel)) (fun _ _ _ _ _ => (pg_name (i := 6) nd rfl (by first | exact .inl rfl | exact .inr rfl))) (fun _ _ _ _ _ => (pts_one (pt_cmp (pc_notN (pe_ix ix_list (pv 6) pe_int (fun _ _ => rfl)))))) (fun _ _ _ _ _ => (pv 6)))
  (pss_cons (ps_setLc (i := 5) (own := [("_law_row", 6)]) (g := (gName 6)) (tt := (tAnd (tB (tNotN (tVar 3))) (tTest (tOp _ (tOp (rIxL K) (tVar 6) _) (tVar 3))))) (te := (tVar 6)) rfl nd rfl rfl (sw_true rfl rfl rfl (by decide +kernel)) (pi_list (pv 4)) (blkOk_by (N := ["_law_kernel_here", "_law_size_so", "_law_most_so", "_law_wait_so", "_law_some", "_law_old", "_law_row"]) (sc := defScope s_presses) (by decide +kernel)) (fun _ _ _ _ _ => (pg_name (i := 6) nd rfl (by first | exact .inl rfl | exact .inr rfl))) (fun _ _ _ _ _ => (pts_one (PW.pt (pw_and (pt_cmp (pc_notN (pv 3))) (pw_and1 (pt_cmpR op_ge (pe_ix ix_list (pv 6) pe_int (fun _ _ => rfl)) (pv 3) (nomark _))))))) (fun _ _ _ _ _ => (pv 6)))
  (pss_one (ps_ret (pe_or (pe_cmpR op_gt (pe_callB call_len_seq (by rfl) T.n_len PySem.boot_len (pa_cons (pv 4) pa_nil)) (pv 2) (nomark _)) (pe_one (pe_cmpR (op_neD hu64) (pv 5) (pe_lst pa_nil) (nomark _))))))))), ?_⟩
  refine ⟨_, rfl, a, _, rfl, S.gSetup, s.su, _, 1, _, rfl, rfl, q1, rfl, _, rfl, a, _, rfl, S.gTop, sb, _, (s.top : Int), _, rfl, rfl, q2, atI_natE e5, q, _, rfl, q6, rfl, _, _, rfl, _, _, rfl, _, _, rfl, rfl, ?_⟩
  refine ⟨_, rfl, a, _, rfl, S.gRows, s.l, rfl, ⟨_, SqL.of S.hl⟩, fun D hD => ?_⟩
  refine lc_fm (zs := s.rows) (r := fun t => V.ref t.r) (F := fun t => if t.w.isSome then some (V.ref t.r) else none) hD S.hl (Nat.lt_of_le_of_lt S.len (by decide)) (fun i t acc R ht h1 h2 hz => ?_) ?_
  · have h3 : upd H D (.lst acc) t.r = some (.lst t.vs) := upd_keep (S.r0 t (mem_at ht)).2 hD
    refine ⟨rfl, _, rfl, t.r, _, 3, _, rfl, rfl, SqL.of h3, rfl, _, rfl, ?_⟩
    cases e : t.w with
    | none => exact ifF rfl (h2 (by rw [e]; rfl))
    | some j =>
      refine ifT rfl ⟨_, rfl, acc, upd_same, hz, ?_⟩
      rw [upd2]
      exact h1 _ (by rw [e]; rfl)
  · rw [fmK]
    have hwl : (wn s.rows).length ≤ 90 := Nat.le_trans (List.length_filter_le ..) S.len
    have x1 : Same H (upd H D (.lst (rrf (wn s.rows)))) := fun y o h => upd_keep h hD
    refine ⟨_, rfl, D, rfl, ⟨_, SqL.of upd_same⟩, fun D2 hD2 => ?_⟩
    refine lc_fm (zs := wn s.rows) (r := fun t => V.ref t.r) (F := fun t => none) hD2 upd_same (Nat.lt_of_le_of_lt hwl (by decide)) (fun i t acc R ht h1 h2 hz => ?_) ?_
    · exact ⟨rfl, _, rfl, _, rfl, ifF rfl (h2 rfl)⟩
    · have ef : (wn s.rows).filterMap (fun _ => (none : Option V)) = [] := by
        induction wn s.rows with
        | nil => rfl
        | cons x xs ih => exact ih
      rw [ef]
      have x2 : Same H (upd (upd H D (.lst (rrf (wn s.rows)))) D2 (.lst [])) := fun y o h => upd_keep (x1 y o h) hD2
      refine ⟨_, rfl, _, _, rfl, .inl (SqL.of (upd_keep upd_same hD2)), _, rfl, _, _, rfl, rfl, ?_⟩
      refine ⟨_, rfl, ?_⟩
      refine ifF (decide_eq_false ?_) ?_
      · show ¬ (98 : Int) < (((rrf (wn s.rows)).length : Nat) : Int)
        rw [List.length_map]
        omega
      · refine ⟨_, rfl, Nat.zero_le _, fun z hz => ?_⟩
        refine ne_nil (ds := []) (.lst (SqL.of (upd_keep upd_same hz)) .nil) (fun d hd => absurd hd List.not_mem_nil) upd_same ?_
        exact k _ fun y o h => upd_keep (x2 y o h) hz
/-- the first of some rows that wait -/
def spFirstK (K : PySem.W.Frag) : Sp := fun vs H Q _ => ∃ (H0 : Hp) (a : Addr) (s : KS) (p : Addr), vs = [.ref p] ∧ Ker K H0 H a s ∧ H p = some (.lst (rrf (wn s.rows))) ∧ wn s.rows ≠ [] ∧ ∀ H' t, Same H H' → t ∈ wn s.rows → Q (.ref t.r) H'
theorem ok_firstK (T : Fx K mg) (F : DF K mg "_law_first" s_first ["_law_rows_so"]) : Cal P w K mg base 1 "_law_first" (spFirstK K) [] := by
  refine F.cal sc_first (fun vs H Q E h => ?_) (fun f cdv A outer s H vs Q E hr h => ?_)
  · obtain ⟨_, _, _, _, rfl, _⟩ := h
    rfl
  obtain ⟨H0, a, s, p, rfl, S, hp, hne, k⟩ := h
  have nd := sc_first.nd
  have hu64 := hu64_of hr
  refine ⟨_, (pss_one (ps_ret (pe_ix ix_list (pe_callB (cr_sortD hu64) (by rfl) T.n_sorted boot_sorted (pa_cons (pv 0) pa_nil)) pe_int (fun _ _ => rfl)))), ?_⟩
  have mem : ∀ t ∈ wn s.rows, t ∈ s.rows ∧ ∃ j, t.w = some j := fun t ht => ⟨(List.mem_filter.mp ht).1, Option.isSome_iff_exists.mp (List.mem_filter.mp ht).2⟩
  refine ⟨_, rfl, p, _, (wn s.rows).map encR, rfl, SqL.of hp, S.dpRs fun t ht => (mem t ht).1, ?_, .inr fun d hd => ?_, fun d hd => ?_, fun ys q hy hq => ?_⟩
  · intro d hd d' hd'
    obtain ⟨t, ht, rfl⟩ := List.mem_map.mp hd
    obtain ⟨t', ht', rfl⟩ := List.mem_map.mp hd'
    obtain ⟨j, ej⟩ := (mem t ht).2
    obtain ⟨j', ej'⟩ := (mem t' ht').2
    unfold encR
    rw [ej, ej']
    simp [PySem.W.alike, PySem.W.alikeAll, encO]
  · obtain ⟨t, ht, rfl⟩ := List.mem_map.mp hd
    exact ⟨(fun z => by cases z), fun xs z => by cases z⟩
  · obtain ⟨t, ht, rfl⟩ := List.mem_map.mp hd
    rw [(layR (S.mok t (mem t ht).1)).2]
    decide
  · have hyl : ys ≠ [] := fun z => by
      have := hy.length_eq
      rw [z, List.length_map] at this
      exact hne (List.length_eq_zero_iff.mp this.symm)
    obtain ⟨v, vs, rfl⟩ := List.exists_cons_of_ne_nil hyl
    have hv : v ∈ rrf (wn s.rows) := hy.subset (List.mem_cons_self ..)
    obtain ⟨t, ht, rfl⟩ := List.mem_map.mp hv
    refine ⟨q, _, 0, _, rfl, rfl, SqL.of upd_same, at0, k _ t (fun y o h => upd_keep h hq) ht⟩
def spShowK (K : PySem.W.Frag) : Sp := fun vs H Q _ => ∃ (H0 : Hp) (a : Addr) (s : KS) (t : RwK), vs = [.ref a, .ref t.r] ∧ Ker K H0 H a s ∧ t ∈ wn s.rows ∧
  ∀ H' l' rs, Ker K H0 H' a { s with l := l', rows := rs } → (wn rs).length < (wn s.rows).length → Q (.int t.p) H'
def unwK (u : RwK) : RwK := { u with w := none }
theorem wn_mod (r : Addr) (rs : List RwK) : wn (modR r unwK rs) = (wn rs).filter fun u => decide (u.r ≠ r) := by
  unfold wn modR
  induction rs with
  | nil => rfl
  | cons x xs ih =>
    rw [List.map_cons]
    by_cases h : x.r = r
    · rw [if_pos h, List.filter_cons_of_neg (by simp [unwK]), ih, List.filter_cons]
      split
      · rw [List.filter_cons_of_neg (by simpa using h)]
      · rfl
    · rw [if_neg h, List.filter_cons, List.filter_cons]
      split
      · rw [List.filter_cons_of_pos (by simpa using h), ih]
      · exact ih
theorem ok_showK (T : Fx K mg) (F : DF K mg "_law_show" s_show ["_law_kernel_here", "_law_row"]) : Cal P w K mg base 1 "_law_show" (spShowK K) [] := by
  refine F.cal sc_show (fun vs H Q E h => ?_) (fun f cdv A outer s H vs Q E hr h => ?_)
  · obtain ⟨_, _, _, _, rfl, _⟩ := h
    rfl
  obtain ⟨H0, a, s, t, rfl, S, ht, k⟩ := h
  have nd := sc_show.nd
  have hu := hu_of hr
  have ht0 : t ∈ s.rows := (List.mem_filter.mp ht).1
  refine ⟨_, (pss_cons (ps_asg pe_non (pg_sub (pv 1) pe_int set_list))
  (pss_cons (ps_if (pt_cmpR op_eq (pe_ix ix_list (pv 1) pe_int (fun _ _ => rfl)) pe_str (nomark _)) (pss_one (ps_dput hu (pv 0) pe_str (pe_lc (own := [("_law_other", 2)]) (g := (gName 2)) (tt := (tTest (tOp _ (tOp (rIxL K) (tVar 2) _) (tOp (rIxL K) (tVar 1) _)))) (te := (tVar 2)) rfl nd (pi_list (pe_dget hu (pv 0) pe_str (fun _ _ => rfl))) (blkOk_by (N := ["_law_kernel_here", "_law_row", "_law_other"]) (sc := defScope s_show) (by decide +kernel)) (fun _ _ _ _ _ => (pg_name (i := 2) nd rfl (by first | exact .inl rfl | exact .inr rfl))) (fun _ _ _ _ _ => (pts_one (pt_cmpR op_ne (pe_ix ix_list (pv 2) pe_int (fun _ _ => rfl)) (pe_ix ix_list (pv 1) pe_int (fun _ _ => rfl)) (nomark _)))) (fun _ _ _ _ _ => (pv 2))) rfl)) pss_nil)
  (pss_one (ps_ret (pe_ix ix_list (pv 1) pe_int (fun _ _ => rfl)))))), ?_⟩
  have S1 := S.mod (f := unwK) ht0 (fun _ => rfl) (S.mok t ht0)
  have hlt : (wn (modR t.r unwK s.rows)).length < (wn s.rows).length := by
    rw [wn_mod]
    exact filter_lt ht (by simp)
  have h1 : upd H t.r (.lst (unwK t).vs) t.r = some (.lst (unwK t).vs) := upd_same
  refine ⟨_, rfl, t.r, _, 3, 3, rfl, rfl, (S.r0 t ht0).2, rfl, ?_⟩
  show tSeq _ _ _ _ (upd H t.r (.lst (unwK t).vs))
  refine ⟨_, rfl, t.r, _, 2, _, rfl, rfl, SqL.of h1, rfl, rfl, _, rfl, ?_⟩
  rw [show (unwK t).m = t.m from rfl, decS]
  refine ite2 (fun hc => ?_) (fun hc => ?_)
  · refine ⟨_, rfl, a, _, rfl, S1.gRows, s.l, rfl, ⟨_, SqL.of S1.hl⟩, fun D hD => ?_⟩
    refine lc_fm (zs := modR t.r unwK s.rows) (r := fun t => V.ref t.r) (F := fun u => if decide (u.p ≠ t.p) then some (V.ref u.r) else none) hD S1.hl (Nat.lt_of_le_of_lt S1.len (by decide)) (fun i u acc R hu' g1 g2 hz => ?_) ?_
    · have h3 : upd (upd H t.r (.lst (unwK t).vs)) D (.lst acc) u.r = some (.lst u.vs) := upd_keep (S1.r0 u (mem_at hu')).2 hD
      refine ⟨rfl, _, rfl, u.r, _, 1, _, rfl, rfl, SqL.of h3, rfl, _, rfl, t.r, _, 1, _, rfl, rfl, SqL.of (upd_keep h1 hD), rfl, rfl, _, rfl, ?_⟩
      rw [decV, show (unwK t).p = t.p from rfl]
      by_cases e : u.p = t.p
      · exact ifF (by simpa using e) (g2 (by simp [e]))
      · refine ifT (by simpa using e) ⟨_, rfl, acc, upd_same, hz, ?_⟩
        rw [upd2]
        exact g1 _ (by simp [e])
    · rw [fmK]
      have S2 := S1.new (o := .lst (rrf ((modR t.r unwK s.rows).filter fun u => decide (u.p ≠ t.p)))) hD
      have S3 := S2.rowsTo (l' := D) (rs := (modR t.r unwK s.rows).filter fun u => decide (u.p ≠ t.p)) upd_same (S1.free hD) List.filter_sublist
      refine ⟨_, rfl, a, _, rfl, S2.pRows D ((modR t.r unwK s.rows).filter fun u => decide (u.p ≠ t.p)), ?_⟩
      refine ⟨_, rfl, t.r, _, 1, _, rfl, rfl, SqL.of (xs := (unwK t).vs) ?_, rfl, k _ D _ S3 ?_⟩
      · rw [upd_ne (S.nra ht0)]
        exact upd_keep h1 hD
      · refine Nat.lt_of_le_of_lt ?_ hlt
        exact (List.filter_sublist.filter _).length_le
  · exact ⟨_, rfl, t.r, _, 1, _, rfl, rfl, SqL.of h1, rfl, k _ s.l _ S1 hlt⟩
theorem near_ex (h : Nat) (hh : 0 < h) (low b : Int) (l0 : 0 ≤ low) (l1 : low < 2 * (h : Int)) : ∃ k : Nat, k < 2 * h ∧ (b + (1 - (h : Int) + k)) % (2 * (h : Int)) = low := by
  have hp : (0 : Int) < 2 * (h : Int) := by omega
  have e1 := Int.emod_nonneg (low - (b + 1 - (h : Int))) (show (2 * (h : Int)) ≠ 0 by omega)
  have e2 := Int.emod_lt_of_pos (low - (b + 1 - (h : Int))) hp
  refine ⟨((low - (b + 1 - (h : Int))) % (2 * (h : Int))).toNat, by omega, ?_⟩
  rw [Int.toNat_of_nonneg e1, show b + (1 - (h : Int) + (low - (b + 1 - (h : Int))) % (2 * (h : Int))) = (low - (b + 1 - (h : Int))) % (2 * (h : Int)) + (b + 1 - (h : Int)) by omega, Int.emod_add_emod, Int.sub_add_cancel]
  exact Int.emod_eq_of_lt l0 l1
def spNearK (K : PySem.W.Frag) : Sp := fun vs H Q _ => ∃ (h : Nat) (low b : Int), vs = [.int (2 * (h : Int)), .int low, .int b] ∧ 0 < h ∧ h ≤ 200 ∧ 0 ≤ low ∧ low < 2 * (h : Int) ∧ ∀ H' i, Same H H' → Q (.int i) H'
theorem ok_nearK (T : Fx K mg) (F : DF K mg "_law_near" s_near ["_law_span_so", "_law_low_so", "_law_base_so"]) : Cal P w K mg base 1 "_law_near" (spNearK K) [] := by
  refine F.cal sc_near (fun vs H Q E h => ?_) (fun f cdv A outer s H vs Q E hr h => ?_)
  · obtain ⟨_, _, _, rfl, _⟩ := h
    rfl
  obtain ⟨h, low, b, rfl, hh0, hh1, l0, l1, k⟩ := h
  have nd := sc_near.nd
  refine ⟨_, (pss_cons (ps_setLc (i := 3) (own := [("_law_k", 4)]) (g := (gName 4)) (tt := tYes) (te := (tOp _ (tVar 2) (tVar 4))) rfl nd rfl rfl (sw_true rfl rfl rfl (by decide +kernel)) (pi_range2 (by rfl) T.n_range (pa_cons (pe_op op_sub pe_int (pe_op op_fdiv (pv 0) pe_int)) (pa_cons (pe_op op_add (pe_op op_fdiv (pv 0) pe_int) pe_int) pa_nil))) (blkOk_by (N := ["_law_span_so", "_law_low_so", "_law_base_so", "_law_some", "_law_k", "_law_own"]) (sc := defScope s_near) (by decide +kernel)) (fun _ _ _ _ _ => (pg_name (i := 4) nd rfl (by first | exact .inl rfl | exact .inr rfl))) (fun _ _ _ _ _ => pts_nil) (fun _ _ _ _ _ => (pe_op op_add (pv 2) (pv 4))))
  (pss_one (ps_ret (pe_ix ix_list (pe_lc (own := [("_law_own", 5)]) (g := (gName 5)) (tt := (tTest (tOp _ (tOp _ (tCB _ (tCons (tVar 5) tNil)) (tVar 0)) (tVar 1)))) (te := (tVar 5)) rfl nd (pi_list (pv 3)) (blkOk_by (N := ["_law_span_so", "_law_low_so", "_law_base_so", "_law_some", "_law_k", "_law_own"]) (sc := defScope s_near) (by decide +kernel)) (fun _ _ _ _ _ => (pg_name (i := 5) nd rfl (by first | exact .inl rfl | exact .inr rfl))) (fun _ _ _ _ _ => (pts_one (pt_cmpR op_eq (pe_op op_mod (pe_callTy call_int1 (by rfl) T.n_int boot_int (pa_cons (pv 5) pa_nil)) (pv 0)) (pv 1) (nomark _)))) (fun _ _ _ _ _ => (pv 5))) pe_int (fun _ _ => rfl))))), ?_⟩
  have ed : (2 * (h : Int)) / 2 = h := by omega
  have cd : CDiv (2 * (h : Int)) 2 := ⟨by decide, by decide⟩
  refine ⟨_, rfl, _, _, rfl, rfl, cd, _, _, rfl, rfl, _, rfl, _, _, rfl, rfl, cd, _, _, rfl, rfl, ?_⟩
  rw [ed]
  refine ⟨1 - (h : Int), (h : Int) + 1, rfl, by omega, fun D hD => ?_⟩
  rw [show ((h : Int) + 1 - (1 - (h : Int))).toNat = 2 * h by omega]
  refine lc_range (n := 2 * h) (fun i H' => ∃ ns : List Int, H' = upd H D (.lst (ns.map V.int)) ∧ ns = (List.range i).map fun (j : Nat) => b + (1 - (h : Int) + j)) ⟨[], rfl, rfl⟩ (fun i H2 hi ⟨ns, e, en⟩ => ?_) fun H2 ⟨ns, e, en⟩ => ?_
  · subst e
    refine ⟨rfl, _, rfl, _, rfl, _, _, rfl, rfl, ns.map V.int, upd_same, ?_, ns ++ [b + (1 - (h : Int) + i)], ?_, ?_⟩
    · rw [List.length_map, en, List.length_map, List.length_range]
      exact Nat.lt_of_lt_of_le (show i < 400 by omega) (by decide)
    · rw [upd2, List.map_append]
      rfl
    · rw [en, List.range_succ, List.map_append]
      rfl
  · subst e
    refine ⟨_, rfl, D, rfl, ⟨_, SqL.of upd_same⟩, fun D2 hD2 => ?_⟩
    refine lc_fm (zs := ns) (r := V.int) (F := fun i => if decide (i % (2 * (h : Int)) = low) then some (.int i) else none) hD2 upd_same ?_ (fun i t acc R ht h1 h2 hz => ?_) ?_
    · rw [en, List.length_map, List.length_range]
      exact Nat.lt_of_le_of_lt (show 2 * h ≤ 400 by omega) (by decide)
    · refine ⟨rfl, _, rfl, .inl ⟨t, rfl, _, rfl, _, _, rfl, rfl, by omega, _, rfl, rfl, _, rfl, ?_⟩⟩
      rw [decV]
      by_cases e : t % (2 * (h : Int)) = low
      · refine ifT (by simpa using e) ⟨_, rfl, acc, upd_same, hz, ?_⟩
        rw [upd2]
        exact h1 _ (by simp [e])
      · exact ifF (by simpa using e) (h2 (by simp [e]))
    · obtain ⟨j, hj, ej⟩ := near_ex h hh0 low b l0 l1
      have hm : b + (1 - (h : Int) + j) ∈ ns := by
        rw [en]
        exact List.mem_map.mpr ⟨j, List.mem_range.mpr hj, rfl⟩
      have hm2 : V.int (b + (1 - (h : Int) + j)) ∈ ns.filterMap (fun i => if decide (i % (2 * (h : Int)) = low) then some (V.int i) else none) := List.mem_filterMap.mpr ⟨_, hm, by rw [ej]; simp⟩
      obtain ⟨v, vs, ev⟩ := List.exists_cons_of_ne_nil (List.ne_nil_of_mem hm2)
      have hv : v ∈ ns.filterMap (fun i => if decide (i % (2 * (h : Int)) = low) then some (V.int i) else none) := by rw [ev]; exact List.mem_cons_self ..
      obtain ⟨i, _, ei⟩ := List.mem_filterMap.mp hv
      have evi : v = .int i := by
        split at ei
        · exact (Option.some.inj ei).symm
        · cases ei
      rw [ev, evi]
      exact ⟨D2, _, 0, _, rfl, rfl, SqL.of upd_same, at0, k _ i fun y o h => upd_keep (upd_keep h hD) hD2⟩
end

end L2.K13
set_option Elab.async false
set_option linter.all false
set_option maxRecDepth 100000
set_option maxHeartbeats 4000000
set_option pp.maxSteps 150
namespace L2.K13
open PySem PySem.Spec PyProof.Rows L2
open C8 (Cal Met Mak pe_c pe_mt pe_mt0 pe_mk)
local macro_rules | `(tactic| walk_at "hp") => `(tactic| first | assumption | exact upd_same | (refine upd_keep ?_ (by assumption); walk_at "hp") | (refine upd_off ?_ (by assumption) (by intro z; cases z); walk_at "hp"))
local macro_rules | `(tactic| walk_at "seq") => `(tactic| first | assumption | exact SqT.of (by walk_at "hp") | exact SqL.of (by walk_at "hp"))
section
variable {K : PySem.W.Frag} {H0 H H' : Hp} {a : Addr} {s : KS}
theorem upd0 {H : Hp} {p : Addr} {o : HO} (h : H p = none) : Same H (upd H p o) := fun y o' g => upd_keep g h
theorem Ker.row (k : Ker K H0 H a s) {rs : List RwK} (h : ∀ t ∈ rs, t ∈ s.rows) : Dp K H (.ref s.l) (.list (s.rows.map encR)) := .lst (SqL.of k.hl) (k.dpRs fun t ht => ht)
theorem Ker.lay (k : Ker K H0 H a s) {rs : List RwK} (h : ∀ t ∈ rs, t ∈ s.rows) : ∀ d ∈ rs.map encR, d.canLay0 = true ∧ d.depth ≤ 60 := fun d hd => by
  obtain ⟨t, ht, rfl⟩ := List.mem_map.mp hd
  have := layR (k.mok t (h t ht))
  exact ⟨this.1, by rw [this.2]; decide⟩
theorem wn_mem {rs : List RwK} : ∀ t ∈ wn rs, t ∈ rs := fun t ht => (List.mem_filter.mp ht).1
theorem isEmpty_map {α β : Type} {f : α → β} {l : List α} : (l.map f).isEmpty = l.isEmpty := by cases l <;> rfl
end
section
variable {P : Program} {w : World} {K : PySem.W.Frag} {mg : Str → Option Value} {base : Heap}
def spClearK (K : PySem.W.Frag) : Sp := fun vs H Q _ => ∃ (H0 : Hp) (a : Addr) (s : KS) (hush : Bool), vs = [.ref a, .bl hush] ∧ Ker K H0 H a s ∧
  ∀ H' q l' (ns : List Int), H q = none → Ker K (upd H0 q (.lst (ns.map V.int))) H' a { s with l := l', rows := [] } → ns.length ≤ 90 → Q (.ref q) H'
theorem ok_clearK (T : Fx K mg) (F : DF K mg "_law_cleared" s_cleared ["_law_kernel_here", "_law_hush_so"]) (c_waiting : Cal P w K mg base 1 "_law_waiting" (spWaitK K) []) (c_first : Cal P w K mg base 1 "_law_first" (spFirstK K) []) (c_show : Cal P w K mg base 1 "_law_show" (spShowK K) []) : Cal P w K mg base 2 "_law_cleared" (spClearK K) [] := by
  refine F.cal sc_cleared (fun vs H Q E h => ?_) (fun f cdv A outer s H vs Q E hr h => ?_)
  · obtain ⟨_, _, _, _, rfl, _⟩ := h
    rfl
  obtain ⟨H0, a, s, hush, rfl, S, k⟩ := h
  have nd := sc_cleared.nd
  have hu := hu_of hr
  have hu64 := hu64_of hr
  refine ⟨_, (pss_cons (ps_set (i := 2) nd rfl (Or.inl rfl) (pe_lst pa_nil))
  (pss_cons (ps_while PassesOwn.never (PW.pt (pw_and (pt_not (pt_val (pv 1))) (pw_and1 (pt_cmpR (op_neD hu64) (pe_c c_waiting hr (by first | decide | omega) (by rfl) (pa_cons (pv 0) pa_nil)) (pe_lst pa_nil) (nomark _))))) (pss_one (ps_expr (pe_bm PySem.F.plainAttrs_list PySem.F.slot_list_append PySem.F.type_list_append mt_append (pv 2) (pa_cons (pe_c c_show hr (by first | decide | omega) (by rfl) (pa_cons (pv 0) (pa_cons (pe_c c_first hr (by first | decide | omega) (by rfl) (pa_cons (pe_c c_waiting hr (by first | decide | omega) (by rfl) (pa_cons (pv 0) pa_nil)) pa_nil)) pa_nil))) pa_nil)))))
  (pss_cons (ps_dput hu (pv 0) pe_str (pe_lst pa_nil) rfl)
  (pss_one (ps_ret (pv 2)))))), ?_⟩
  refine ⟨Nat.zero_le _, fun q hq => ?_⟩
  have hwl : (wn s.rows).length ≤ 90 := Nat.le_trans (List.length_filter_le ..) S.len
  refine ⟨fun n σ H' => σ = [some (.ref a), some (.bl hush), some (.ref q)] ∧ ∃ (l1 : Addr) (rs : List RwK) (ns : List Int), Ker K (upd H0 q (.lst (ns.map V.int))) H' a { s with l := l1, rows := rs } ∧ (wn rs).length ≤ n ∧ ns.length + (wn rs).length ≤ 90,
    ⟨(wn s.rows).length, rfl, s.l, s.rows, [], S.newH hq, Nat.le_refl _, by show 0 + _ ≤ _; omega⟩, ?_⟩
  rintro n σ H1 ⟨rfl, l1, rs, ns, S1, hn, hL⟩
  change tAnd _ _ _ _ _
  refine tt_cut (fun b H2 => Ker K (upd H0 q (.lst (ns.map V.int))) H2 a { s with l := l1, rows := rs } ∧ (b = true → wn rs ≠ [])) ?_ fun key => ?_
  · rintro b H2 ⟨S2, hb⟩
    refine ite2 (fun hc => ?_) (fun hc => ?_)
    · have hne := hb hc
      have hpos : 0 < (wn rs).length := List.length_pos_iff.mpr hne
      obtain ⟨m, rfl⟩ : ∃ m, n = m + 1 := ⟨n - 1, by omega⟩
      refine ⟨_, fun _ _ z => z, ?_⟩
      refine ⟨_, rfl, .inl ⟨rfl, _, SqL.of (S2.same q _ upd_same)⟩, _, rfl, _, rfl, _, a, _, rfl, S2, fun p hp => ?_⟩
      refine ⟨_, a, _, p, rfl, S2.new hp, upd_same, hne, fun H4 t x4 ht => ?_⟩
      refine ⟨_, a, _, t, rfl, (S2.new hp).ext x4, ht, fun H5 l5 rs5 S5 hlt => ?_⟩
      have hlt' : (wn rs5).length < (wn rs).length := hlt
      refine ⟨q, _, _, rfl, rfl, S5.same q _ upd_same, ?_, m, Nat.lt_succ_self _, rfl, l5, rs5, ns ++ [t.p], ?_, by omega, ?_⟩
      · rw [List.length_map]
        exact Nat.lt_of_le_of_lt (show ns.length ≤ 90 by omega) (by decide)
      · have := S5.chg (o' := .lst (ns.map V.int ++ [V.int t.p])) rfl
        rw [List.map_append]
        exact this
      · rw [List.length_append]
        show ns.length + 1 + _ ≤ _
        omega
    · refine ⟨Nat.zero_le _, fun l' hl' => ⟨_, rfl, a, _, rfl, (S2.new hl').pRows l' [], ?_⟩⟩
      exact ⟨_, rfl, k _ q l' ns hq ((S2.new hl').rowsTo (l' := l') (rs := []) upd_same (S2.free hl') (List.nil_sublist _)) (by omega)⟩
  · refine ⟨_, rfl, hush, rfl, ?_⟩
    cases hush with
    | true => exact ifF rfl (key false _ ⟨S1, fun z => by cases z⟩)
    | false =>
      refine ifT rfl ⟨_, rfl, _, a, _, rfl, S1, fun p hp => ⟨Nat.zero_le _, fun z hz => ?_⟩⟩
      have S2 := (S1.new (o := .lst (rrf (wn rs))) hp).new (o := .lst []) hz
      refine ne_nil (ds := (wn rs).map encR) (.lst (SqL.of (upd_keep upd_same hz)) (S2.dpRs wn_mem)) (S2.lay (rs := wn rs) wn_mem) upd_same ⟨_, rfl, key _ _ ⟨S2, fun hc => ?_⟩⟩
      rw [isEmpty_map] at hc
      intro e
      rw [e] at hc
      cases hc
def spRoomK (K : PySem.W.Frag) : Sp := fun vs H Q _ => ∃ (H0 : Hp) (a : Addr) (s : KS), vs = [.ref a] ∧ Ker K H0 H a s ∧
  ∀ H' q l' rs, H q = none → Ker K (upd H0 q (.lst [])) H' a { s with l := l', rows := rs } → rs.Sublist s.rows → Q (.ref q) H'
theorem ok_roomK (T : Fx K mg) (F : DF K mg "_law_roomed" s_roomed ["_law_kernel_here"]) (c_waiting : Cal P w K mg base 1 "_law_waiting" (spWaitK K) []) (c_first : Cal P w K mg base 1 "_law_first" (spFirstK K) []) (c_show : Cal P w K mg base 1 "_law_show" (spShowK K) [])
    (c_presses : Cal P w K mg base 1 "_law_presses" (spPressK K) []) : Cal P w K mg base 2 "_law_roomed" (spRoomK K) [] := by
  refine F.cal sc_roomed (fun vs H Q E h => ?_) (fun f cdv A outer s H vs Q E hr h => ?_)
  · obtain ⟨_, _, _, rfl, _⟩ := h
    rfl
  obtain ⟨H0, a, s, rfl, S, k⟩ := h
  have nd := sc_roomed.nd
  have hu := hu_of hr
  have hu64 := hu64_of hr
  refine ⟨_, (pss_cons (ps_dput hu (pv 0) pe_str (pe_lc (own := [("_law_row", 4)]) (g := (gName 4)) (tt := (tOr (tTest (tOp _ (tOp (rIxL K) (tVar 4) _) _)) (tB (tNotN (tOp (rIxL K) (tVar 4) _))))) (te := (tVar 4)) rfl nd (pi_list (pe_dget hu (pv 0) pe_str (fun _ _ => rfl))) (blkOk_by (N := ["_law_kernel_here", "_law_found", "_law_some", "_law_last_so", "_law_row"]) (sc := defScope s_roomed) (by decide +kernel)) (fun _ _ _ _ _ => (pg_name (i := 4) nd rfl (by first | exact .inl rfl | exact .inr rfl))) (fun _ _ _ _ _ => (pts_one (PW.pt (pw_or (pt_cmpR op_ne (pe_ix ix_list (pv 4) pe_int (fun _ _ => rfl)) pe_str (nomark _)) (pw_or1 (pt_cmp (pc_notN (pe_ix ix_list (pv 4) pe_int (fun _ _ => rfl))))))))) (fun _ _ _ _ _ => (pv 4))) rfl)
  (pss_cons (ps_set (i := 1) nd rfl (Or.inl rfl) (pe_lst pa_nil))
  (pss_cons (ps_while PassesOwn.never (PW.pt (pw_or (pt_val (pe_c c_presses hr (by first | decide | omega) (by rfl) (pa_cons (pv 0) pa_nil))) (pw_or1 (pt_cmpR op_ge (pe_callB call_len_seq (by rfl) T.n_len PySem.boot_len (pa_cons (pe_dget hu (pv 0) pe_str (fun _ _ => rfl)) pa_nil)) (pe_ix ix_tup (pe_ix ix_tup (pe_ix ix_tup (pe_dget hu (pv 0) pe_str (fun _ _ => rfl)) pe_int (fun _ _ => rfl)) (pe_dget hu (pv 0) pe_str (fun _ _ => rfl)) (fun _ _ => rfl)) pe_int (fun _ _ => rfl)) (nomark _))))) (pss_cons (ps_set (i := 2) nd rfl (Or.inl rfl) (pe_c c_waiting hr (by first | decide | omega) (by rfl) (pa_cons (pv 0) pa_nil)))
      (pss_one (ps_if (pt_cmpR (op_neD hu64) (pv 2) (pe_lst pa_nil) (nomark _)) (pss_one (ps_expr (pe_bm PySem.F.plainAttrs_list PySem.F.slot_list_append PySem.F.type_list_append mt_append (pv 1) (pa_cons (pe_c c_show hr (by first | decide | omega) (by rfl) (pa_cons (pv 0) (pa_cons (pe_c c_first hr (by first | decide | omega) (by rfl) (pa_cons (pv 2) pa_nil)) pa_nil))) pa_nil)))) (pss_cons (ps_set (i := 3) nd rfl (Or.inr rfl) (pe_c c_first hr (by first | decide | omega) (by rfl) (pa_cons (pe_dget hu (pv 0) pe_str (fun _ _ => rfl)) pa_nil)))
          (pss_one (ps_dput hu (pv 0) pe_str (pe_lc (own := [("_law_row", 4)]) (g := (gName 4)) (tt := (tTest (tOp _ (tOp (rIxL K) (tVar 4) _) (tOp (rIxL K) (tVar 3) _)))) (te := (tVar 4)) rfl nd (pi_list (pe_dget hu (pv 0) pe_str (fun _ _ => rfl))) (blkOk_by (N := ["_law_kernel_here", "_law_found", "_law_some", "_law_last_so", "_law_row"]) (sc := defScope s_roomed) (by decide +kernel)) (fun _ _ _ _ _ => (pg_name (i := 4) nd rfl (by first | exact .inl rfl | exact .inr rfl))) (fun _ _ _ _ _ => (pts_one (pt_cmpR op_ne (pe_ix ix_list (pv 4) pe_int (fun _ _ => rfl)) (pe_ix ix_list (pv 3) pe_int (fun _ _ => rfl)) (nomark _)))) (fun _ _ _ _ _ => (pv 4))) rfl)))))))
  (pss_one (ps_ret (pv 1)))))), ?_⟩
  refine ⟨_, rfl, a, _, rfl, S.gRows, s.l, rfl, ⟨_, SqL.of S.hl⟩, fun D hD => ?_⟩
  refine lc_fm (zs := s.rows) (r := fun t => V.ref t.r) (F := fun t => if decide (t.m ≠ "") || t.w.isSome then some (V.ref t.r) else none) hD S.hl (Nat.lt_of_le_of_lt S.len (by decide)) (fun i t acc R ht h1 h2 hz => ?_) ?_
  · have h3 : upd H D (.lst acc) t.r = some (.lst t.vs) := upd_keep (S.r0 t (mem_at ht)).2 hD
    refine ⟨rfl, _, rfl, t.r, _, 2, _, rfl, rfl, SqL.of h3, rfl, rfl, _, rfl, ?_⟩
    rw [decS]
    by_cases e : t.m = ""
    · refine ifF (by simpa using e) ⟨_, rfl, t.r, _, 3, _, rfl, rfl, SqL.of h3, rfl, _, rfl, ?_⟩
      cases ew : t.w with
      | none => exact ifF rfl (h2 (by simp [e, ew]))
      | some j =>
        refine ifT rfl ⟨_, rfl, acc, upd_same, hz, ?_⟩
        rw [upd2]
        exact h1 _ (by simp [ew])
    · refine ifT (by simpa using e) (ifT rfl ⟨_, rfl, acc, upd_same, hz, ?_⟩)
      rw [upd2]
      exact h1 _ (by simp [e])
  · rw [fmK]
    have S2 := S.new (o := .lst (rrf (s.rows.filter fun t => decide (t.m ≠ "") || t.w.isSome))) hD
    have S3 := S2.rowsTo (l' := D) (rs := s.rows.filter fun t => decide (t.m ≠ "") || t.w.isSome) upd_same (S.free hD) List.filter_sublist
    refine ⟨_, rfl, a, _, rfl, S2.pRows D (s.rows.filter fun t => decide (t.m ≠ "") || t.w.isSome), ?_⟩
    refine ⟨Nat.zero_le _, fun q hq => ?_⟩
    have S4 := S3.newH (o := .lst []) hq
    have hq0 : H q = none := upd_no (upd_no hq)
    refine ⟨fun n σ H' => σ = [some (.ref a), some (.ref q), none, none, none] ∧ Ker K (upd H0 q (.lst [])) H' a { s with l := D, rows := s.rows.filter fun t => decide (t.m ≠ "") || t.w.isSome }, ⟨0, rfl, S4⟩, ?_⟩
    rintro n σ H1 ⟨rfl, S5⟩
    obtain ⟨sb, ss, q1, q2, q3, q4⟩ := S5.setup
    refine ⟨_, rfl, _, a, _, rfl, S5, fun H2 x2 => ?_⟩
    have S6 := S5.ext x2
    obtain ⟨sb, ss, q1, q2, q3, q4⟩ := S6.setup
    obtain ⟨qa, e5, q6⟩ := q4 s.top (Nat.lt_succ_of_le S.top)
    refine ⟨_, rfl, ifF rfl ?_⟩
    refine ⟨_, rfl, a, _, rfl, S6.gRows, _, _, rfl, .inl (SqL.of S6.hl), _, rfl, a, _, rfl, S6.gSetup, s.su, _, 1, _, rfl, rfl, q1, rfl, _, rfl, a, _, rfl, S6.gTop, sb, _, (s.top : Int), _, rfl, rfl, q2, atI_natE e5, qa, _, 0, _, rfl, rfl, q6, rfl, _, _, rfl, rfl, _, rfl, ?_⟩
    refine ifF (decide_eq_false ?_) ⟨_, rfl, k _ q D _ hq0 S6 List.filter_sublist⟩
    have := S6.len
    show ¬ (99 : Int) ≤ (((rrf _).length : Nat) : Int)
    rw [List.length_map]
    omega
end

end L2.K13
set_option Elab.async false
set_option linter.all false
set_option maxRecDepth 100000
set_option maxHeartbeats 4000000
set_option pp.maxSteps 150
namespace L2.K13
open PySem PySem.Spec PyProof.Rows L2
open C8 (Cal Met Mak pe_c pe_mt pe_mt0 pe_mk)
local macro_rules | `(tactic| walk_at "hp") => `(tactic| first | assumption | exact upd_same | (refine upd_keep ?_ (by assumption); walk_at "hp") | (refine upd_off ?_ (by assumption) (by intro z; cases z); walk_at "hp"))
local macro_rules | `(tactic| walk_at "seq") => `(tactic| first | assumption | exact SqT.of (by walk_at "hp") | exact SqL.of (by walk_at "hp"))
section
theorem same_put {H H' : Hp} {p : Addr} {o : HO} (x : Same H H') (hp : H p = none) : Same H (upd H' p o) := fun b o' h => by
  rw [upd_ne (ne_of_none h hp)]
  exact x b o' h
theorem same_tr {H H1 H2 : Hp} (x : Same H H1) (y : Same H1 H2) : Same H H2 := fun b o h => y b o (x b o h)
theorem same_free {H H' : Hp} (x : Same H H') {p : Addr} (h : H' p = none) : H p = none := by
  cases e : H p with
  | none => rfl
  | some o => rw [x p o e] at h; cases h
/-- a pair of ints -/
def PairAt (H : Hp) (v : V) : Prop := ∃ q x y, v = .ref q ∧ H q = some (.tup [.int x, .int y])
theorem PairAt.same {H H' : Hp} {v : V} (h : PairAt H v) (x : Same H H') : PairAt H' v := by
  obtain ⟨q, a, b, e, g⟩ := h
  exact ⟨q, a, b, e, x _ _ g⟩
theorem PairAt.lst {H : Hp} {v : V} {p : Addr} {xs : List V} {o : HO} (h : PairAt H v) (g : H p = some (.lst xs)) : PairAt (upd H p o) v := by
  obtain ⟨q, a, b, e, h⟩ := h
  exact ⟨q, a, b, e, (upd_ne (ne_of h g (by intro z; cases z))).trans h⟩
theorem dpPairs {K : PySem.W.Frag} {H : Hp} : ∀ {vs : List V}, (∀ v ∈ vs, PairAt H v) → ∃ ds, DpAll K H vs ds ∧ ∀ d ∈ ds, ∃ x y, d = PyData.tuple [.int x, .int y]
  | [], _ => ⟨[], .nil, fun d hd => absurd hd List.not_mem_nil⟩
  | v :: vs, h => by
    obtain ⟨ds, h1, h2⟩ := dpPairs (K := K) fun u hu => h u (List.mem_cons_of_mem _ hu)
    obtain ⟨q, x, y, rfl, g⟩ := h v (List.mem_cons_self ..)
    refine ⟨.tuple [.int x, .int y] :: ds, .cons (.tup (SqT.of g) (.cons (.int _) (.cons (.int _) .nil))) h1, fun d hd => ?_⟩
    rcases List.mem_cons.mp hd with rfl | hd
    · exact ⟨x, y, rfl⟩
    · exact h2 d hd
theorem dpInts {K : PySem.W.Frag} {H : Hp} : ∀ {vs : List V}, (∀ v ∈ vs, ∃ i, v = .int i) → ∃ ds, DpAll K H vs ds ∧ ∀ d ∈ ds, ∃ i, d = PyData.int i
  | [], _ => ⟨[], .nil, fun d hd => absurd hd List.not_mem_nil⟩
  | v :: vs, h => by
    obtain ⟨ds, h1, h2⟩ := dpInts (K := K) (H := H) fun u hu => h u (List.mem_cons_of_mem _ hu)
    obtain ⟨i, rfl⟩ := h v (List.mem_cons_self ..)
    refine ⟨.int i :: ds, .cons (.int _) h1, fun d hd => ?_⟩
    rcases List.mem_cons.mp hd with rfl | hd
    · exact ⟨i, rfl⟩
    · exact h2 d hd
theorem pairs_ok {ds : List PyData} (h : ∀ d ∈ ds, ∃ x y, d = PyData.tuple [.int x, .int y]) : PySem.W.AllAlike ds ∧ PySem.W.Sortable ds ∧ (∀ d ∈ ds, d.depth ≤ 8) ∧ ∀ d ∈ ds, d.canLay0 = true ∧ d.depth ≤ 60 := by
  refine ⟨fun d hd d' hd' => ?_, .inl fun d hd => ?_, fun d hd => ?_, fun d hd => ?_⟩
  · obtain ⟨x, y, rfl⟩ := h d hd
    obtain ⟨x', y', rfl⟩ := h d' hd'
    exact alike2 _ _ _ _
  · obtain ⟨x, y, rfl⟩ := h d hd
    exact ⟨_, _, rfl⟩
  · obtain ⟨x, y, rfl⟩ := h d hd
    show 1 ≤ 8
    decide
  · obtain ⟨x, y, rfl⟩ := h d hd
    exact ⟨rfl, by show 1 ≤ 60; decide⟩
theorem ints_ok {ds : List PyData} (h : ∀ d ∈ ds, ∃ i, d = PyData.int i) : PySem.W.AllAlike ds ∧ PySem.W.Sortable ds ∧ (∀ d ∈ ds, d.depth ≤ 8) ∧ ∀ d ∈ ds, d.canLay0 = true ∧ d.depth ≤ 60 := by
  refine ⟨fun d hd d' hd' => ?_, .inr fun d hd => ?_, fun d hd => ?_, fun d hd => ?_⟩
  · obtain ⟨x, rfl⟩ := h d hd
    obtain ⟨x', rfl⟩ := h d' hd'
    simp [PySem.W.alike]
  · obtain ⟨x, rfl⟩ := h d hd
    exact ⟨(fun z => by cases z), fun xs z => by cases z⟩
  · obtain ⟨x, rfl⟩ := h d hd
    show 0 ≤ 8
    decide
  · obtain ⟨x, rfl⟩ := h d hd
    exact ⟨rfl, by show 0 ≤ 60; decide⟩
theorem flat_wv (os : List (Option Int)) : (os.map wv).all flatV = true := by
  rw [List.all_eq_true]
  intro v hv
  obtain ⟨o, _, rfl⟩ := List.mem_map.mp hv
  cases o <;> rfl
theorem last_at {α : Type} {ys : List α} (h : ys ≠ []) : ∃ v ∈ ys, atI ys (-1) = some v := by
  refine ⟨ys.getLast h, List.getLast_mem h, ?_⟩
  have := L2.atI_last ys.dropLast (ys.getLast h)
  rwa [List.dropLast_concat_getLast h] at this
theorem nonempty_of {K : PySem.W.Frag} {H : Hp} {vs : List V} {ds : List PyData} (h : DpAll K H vs ds) (e : (!ds.isEmpty) = true) : vs ≠ [] := fun z => by
  subst z
  cases h
  cases e
end
section
variable {P : Program} {w : World} {K : PySem.W.Frag} {mg : Str → Option Value} {base : Heap}
def spNamedK (K : PySem.W.Frag) : Sp := fun vs H Q _ => ∃ (H0 : Hp) (a : Addr) (s : KS) (b : Addr) (pic : Pic) (count : Int), vs = [.ref a, .ref b, .int count] ∧ Ker K H0 H a s ∧ PicR K H b pic ∧
  ∀ H' r L S (los shs : List (Option Int)), Same H H' → H' r = some (.tup [.ref L, .ref S]) → H' L = some (.lst (los.map wv)) → H' S = some (.lst (shs.map wv)) → los.length = pic.longs.length → shs.length = pic.shorts.length → H L = none → H S = none → L ≠ S → Q (.ref r) H'
theorem ok_namedK (T : Fx K mg) (F : DF K mg "_law_named" s_named ["_law_kernel_here", "_law_thing_so", "_law_count_so"]) (c_span : Cal P w K mg base 1 "_law_span" (spSpan K) []) : Cal P w K mg base 2 "_law_named" (spNamedK K) [] := by
  refine F.cal sc_named (fun vs H Q E h => ?_) (fun f cdv A outer s H vs Q E hr h => ?_)
  · obtain ⟨_, _, _, _, _, _, rfl, _⟩ := h
    rfl
  obtain ⟨H0, a, s, b, pic, count, rfl, S, hP, k⟩ := h
  have nd := sc_named.nd
  have hu := hu_of hr
  have hu64 := hu64_of hr
  obtain ⟨sb, ss, q1, q2, q3, q4⟩ := S.setup
  refine ⟨_, (pss_cons (ps_asg (pe_tup (pa_cons (pe_c c_span hr (by first | decide | omega) (by rfl) (pa_cons (pe_dget hu (pv 0) pe_str (fun _ _ => rfl)) pa_nil)) (pa_cons (pe_dget hu (pv 0) pe_str (fun _ _ => rfl)) pa_nil))) (pg_tup rfl (pgs_cons (pg_name (i := 3) nd rfl (by first | exact .inl rfl | exact .inr rfl)) (pgs_cons (pg_name (i := 4) nd rfl (by first | exact .inl rfl | exact .inr rfl)) pgs_nil))))
  (pss_cons (ps_asg (pe_tup (pa_cons (pe_lst pa_nil) (pa_cons (pe_lst pa_nil) pa_nil))) (pg_tup rfl (pgs_cons (pg_name (i := 5) nd rfl (by first | exact .inl rfl | exact .inr rfl)) (pgs_cons (pg_name (i := 6) nd rfl (by first | exact .inl rfl | exact .inr rfl)) pgs_nil))))
  (pss_cons (ps_for PassesOwn.never rfl (pi_tup (pe_ix ix_tup (pv 1) pe_int (fun _ _ => rfl))) (pg_tup rfl (pgs_cons (pg_name (i := 7) nd rfl (by first | exact .inl rfl | exact .inr rfl)) (pgs_cons (pg_name (i := 8) nd rfl (by first | exact .inl rfl | exact .inr rfl)) (pgs_cons (pg_name (i := 9) nd rfl (by first | exact .inl rfl | exact .inr rfl)) pgs_nil)))) (pss_cons (ps_setLc (i := 10) (own := [("_law_row", 13)]) (g := (gName 13)) (tt := (tAnd (tTest (tOp _ (tOp (rIxL K) (tVar 13) _) _)) (tTest (tOp _ (tOp _ (tCB _ (tCons (tOp (rIxL K) (tVar 13) _) tNil)) (tVar 3)) (tVar 7))))) (te := (tVar 13)) rfl nd rfl rfl (sw_true rfl rfl rfl (by decide +kernel)) (pi_list (pv 4)) (blkOk_by (N := ["_law_kernel_here", "_law_thing_so", "_law_count_so", "_law_span_so", "_law_rows_so", "_law_longs", "_law_shorts", "_law_low_so", "_law_rounds_so", "_law_used_so", "_law_some", "_law_due", "_law_delta_so", "_law_row"]) (sc := defScope s_named) (by decide +kernel)) (fun _ _ _ _ _ => (pg_name (i := 13) nd rfl (by first | exact .inl rfl | exact .inr rfl))) (fun _ _ _ _ _ => (pts_one (PW.pt (pw_and (pt_cmpR op_ne (pe_ix ix_list (pv 13) pe_int (fun _ _ => rfl)) pe_str (nomark _)) (pw_and1 (pt_cmpR op_eq (pe_op op_mod (pe_callTy call_int1 (by rfl) T.n_int boot_int (pa_cons (pe_ix ix_list (pv 13) pe_int (fun _ _ => rfl)) pa_nil)) (pv 3)) (pv 7) (nomark _))))))) (fun _ _ _ _ _ => (pv 13)))
      (pss_cons (ps_if (pt_cmpR op_ge (pv 8) pe_int (nomark _)) (pss_cons (ps_set (i := 11) nd rfl (Or.inr rfl) (pe_op op_add (pe_op op_sub (pe_op op_sub (pv 2) (pe_op op_mod (pe_callTy call_int1 (by rfl) T.n_int boot_int (pa_cons (pv 2) pa_nil)) (pv 3))) (pe_op op_mul (pv 8) (pv 3))) (pv 7)))
          (pss_one (ps_setLc (i := 10) (own := [("_law_row", 13)]) (g := (gName 13)) (tt := (tTest (tOp _ (tOp (rIxL K) (tVar 13) _) (tVar 11)))) (te := (tVar 13)) rfl nd rfl rfl (sw_true rfl rfl rfl (by decide +kernel)) (pi_list (pv 10)) (blkOk_by (N := ["_law_kernel_here", "_law_thing_so", "_law_count_so", "_law_span_so", "_law_rows_so", "_law_longs", "_law_shorts", "_law_low_so", "_law_rounds_so", "_law_used_so", "_law_some", "_law_due", "_law_delta_so", "_law_row"]) (sc := defScope s_named) (by decide +kernel)) (fun _ _ _ _ _ => (pg_name (i := 13) nd rfl (by first | exact .inl rfl | exact .inr rfl))) (fun _ _ _ _ _ => (pts_one (pt_cmpR op_eq (pe_ix ix_list (pv 13) pe_int (fun _ _ => rfl)) (pv 11) (nomark _)))) (fun _ _ _ _ _ => (pv 13))))) pss_nil)
      (pss_cons (ps_set (i := 10) nd rfl (Or.inl rfl) (pe_callB (cr_sortD hu64) (by rfl) T.n_sorted boot_sorted (pa_cons (pe_lc (own := [("_law_row", 13)]) (g := (gName 13)) (tt := tYes) (te := (tTup (tCons (tOp (rIxL K) (tVar 13) _) (tCons (tOp (rIxL K) (tVar 13) _) tNil)))) rfl nd (pi_list (pv 10)) (blkOk_by (N := ["_law_kernel_here", "_law_thing_so", "_law_count_so", "_law_span_so", "_law_rows_so", "_law_longs", "_law_shorts", "_law_low_so", "_law_rounds_so", "_law_used_so", "_law_some", "_law_due", "_law_delta_so", "_law_row"]) (sc := defScope s_named) (by decide +kernel)) (fun _ _ _ _ _ => (pg_name (i := 13) nd rfl (by first | exact .inl rfl | exact .inr rfl))) (fun _ _ _ _ _ => pts_nil) (fun _ _ _ _ _ => (pe_tup (pa_cons (pe_ix ix_list (pv 13) pe_int (fun _ _ => rfl)) (pa_cons (pe_ix ix_list (pv 13) pe_int (fun _ _ => rfl)) pa_nil))))) pa_nil)))
      (pss_one (ps_expr (pe_bm PySem.F.plainAttrs_list PySem.F.slot_list_append PySem.F.type_list_append mt_append (pv 5) (pa_cons (pe_ifExp (pt_cmpR (op_neD hu64) (pv 10) (pe_lst pa_nil) (nomark _)) (pe_ix ix_tup (pe_ix ix_list (pv 10) (pe_un un_neg pe_int) (fun _ _ => rfl)) pe_int (fun _ _ => rfl)) pe_non) pa_nil))))))))
  (pss_cons (ps_for PassesOwn.never rfl (pi_tup (pe_ix ix_tup (pv 1) pe_int (fun _ _ => rfl))) (pg_tup rfl (pgs_cons (pg_name (i := 12) nd rfl (by first | exact .inl rfl | exact .inr rfl)) (pgs_cons (pg_name (i := 9) nd rfl (by first | exact .inl rfl | exact .inr rfl)) pgs_nil))) (pss_cons (ps_setLc (i := 10) (own := [("_law_row", 13)]) (g := (gName 13)) (tt := (tAnd (tTest (tOp _ (tOp (rIxL K) (tVar 13) _) _)) (tTest (tOp _ (tOp (rIxL K) (tVar 13) _) (tOp _ (tVar 2) (tVar 12)))))) (te := (tVar 13)) rfl nd rfl rfl (sw_true rfl rfl rfl (by decide +kernel)) (pi_list (pv 4)) (blkOk_by (N := ["_law_kernel_here", "_law_thing_so", "_law_count_so", "_law_span_so", "_law_rows_so", "_law_longs", "_law_shorts", "_law_low_so", "_law_rounds_so", "_law_used_so", "_law_some", "_law_due", "_law_delta_so", "_law_row"]) (sc := defScope s_named) (by decide +kernel)) (fun _ _ _ _ _ => (pg_name (i := 13) nd rfl (by first | exact .inl rfl | exact .inr rfl))) (fun _ _ _ _ _ => (pts_one (PW.pt (pw_and (pt_cmpR op_eq (pe_ix ix_list (pv 13) pe_int (fun _ _ => rfl)) pe_str (nomark _)) (pw_and1 (pt_cmpR op_eq (pe_ix ix_list (pv 13) pe_int (fun _ _ => rfl)) (pe_op op_add (pv 2) (pv 12)) (nomark _))))))) (fun _ _ _ _ _ => (pv 13)))
      (pss_cons (ps_set (i := 10) nd rfl (Or.inl rfl) (pe_callB (cr_sortD hu64) (by rfl) T.n_sorted boot_sorted (pa_cons (pe_lc (own := [("_law_row", 13)]) (g := (gName 13)) (tt := (tTest (tOp (rIn K true) (tOp (rIxL K) (tVar 13) _) (tVar 5)))) (te := (tOp (rIxL K) (tVar 13) _)) rfl nd (pi_list (pv 10)) (blkOk_by (N := ["_law_kernel_here", "_law_thing_so", "_law_count_so", "_law_span_so", "_law_rows_so", "_law_longs", "_law_shorts", "_law_low_so", "_law_rounds_so", "_law_used_so", "_law_some", "_law_due", "_law_delta_so", "_law_row"]) (sc := defScope s_named) (by decide +kernel)) (fun _ _ _ _ _ => (pg_name (i := 13) nd rfl (by first | exact .inl rfl | exact .inr rfl))) (fun _ _ _ _ _ => (pts_one (pt_cmpR op_notIn_seq (pe_ix ix_list (pv 13) pe_int (fun _ _ => rfl)) (pv 5) (by with_unfolding_all rfl)))) (fun _ _ _ _ _ => (pe_ix ix_list (pv 13) pe_int (fun _ _ => rfl)))) pa_nil)))
      (pss_one (ps_expr (pe_bm PySem.F.plainAttrs_list PySem.F.slot_list_append PySem.F.type_list_append mt_append (pv 6) (pa_cons (pe_ifExp (pt_cmpR (op_neD hu64) (pv 10) (pe_lst pa_nil) (nomark _)) (pe_ix ix_list (pv 10) (pe_un un_neg pe_int) (fun _ _ => rfl)) pe_non) pa_nil)))))))
  (pss_one (ps_ret (pe_tup (pa_cons (pv 5) (pa_cons (pv 6) pa_nil))))))))), ?_⟩
  have hpw := pow_le (n := s.bits) S.b1
  refine ⟨_, rfl, a, _, rfl, S.gSetup, s.su, s.bits, _, rfl, q1, S.b0, Nat.le_trans S.b1 (by decide), fun H1 x1 => ?_⟩
  generalize ((2 ^ s.bits : Nat) : Int) = span at hpw
  refine ⟨_, rfl, a, _, rfl, (S.ext x1).gRows, by show 2 ≤ sizeLine; decide, fun p hp => ⟨p, _, rfl, SqT.of upd_same, rfl, _, _, rfl, _, _, rfl, rfl, ?_⟩⟩
  refine ⟨Nat.zero_le _, fun L hL => ⟨Nat.zero_le _, fun Sh hSh => ⟨by show 2 ≤ sizeLine; decide, fun p2 hp2 => ⟨p2, _, rfl, SqT.of upd_same, rfl, _, _, rfl, _, _, rfl, rfl, ?_⟩⟩⟩⟩
  have x2 : Same H (upd (upd (upd (upd H1 p (.tup [.int span, .ref s.l])) L (.lst [])) Sh (.lst [])) p2 (.tup [.ref L, .ref Sh])) := fun y o h => upd_keep (upd_keep (upd_keep (upd_keep (x1 y o h) hp) hL) hSh) hp2
  have nL : H L = none := same_free x1 (upd_no hL)
  have nS : H Sh = none := same_free x1 (upd_no (upd_no hSh))
  have nLS : L ≠ Sh := ne_of_none upd_same hSh
  have h2L : upd (upd (upd (upd H1 p (.tup [.int span, .ref s.l])) L (.lst [])) Sh (.lst [])) p2 (.tup [.ref L, .ref Sh]) L = some (.lst []) := upd_keep (upd_keep upd_same hSh) hp2
  have h2S : upd (upd (upd (upd H1 p (.tup [.int span, .ref s.l])) L (.lst [])) Sh (.lst [])) p2 (.tup [.ref L, .ref Sh]) Sh = some (.lst []) := upd_keep upd_same hp2
  generalize upd (upd (upd (upd H1 p (.tup [.int span, .ref s.l])) L (.lst [])) Sh (.lst [])) p2 (.tup [.ref L, .ref Sh]) = H2 at x2 h2L h2S
  obtain ⟨ps, pl, vs, ws, g1, g2, g3, g4, g5, g6, g7⟩ := hP
  have tup : ∀ {H' : Hp} {y : Addr} {xs : List V}, Same H H' → SqT K H y xs → SqT K H' y xs := fun x h => SqT.extN h (LamX.ExtN.of x)
  have lz : ∀ {n : Nat}, n ≤ 100 → n < sizeLine := fun h => Nat.lt_of_le_of_lt h (by decide)
  refine ⟨_, rfl, b, _, 6, _, rfl, rfl, tup x2 g1, rfl, pl, rfl, ⟨_, tup x2 g3⟩, ?_⟩
  refine for_tup (K := K) (a := pl) (xs := ws) (fun i σ H' => ∃ (v7 v8 v9 v10 v11 v12 : Option V) (los : List (Option Int)), σ = [some (.ref a), some (.ref b), some (.int count), some (.int span), some (.ref s.l), some (.ref L), some (.ref Sh), v7, v8, v9, v10, v11, v12, none] ∧ Same H H' ∧ H' L = some (.lst (los.map wv)) ∧ los.length = i ∧ H' Sh = some (.lst []))
    ⟨none, none, none, none, none, none, [], rfl, x2, h2L, rfl, h2S⟩ (fun i σ H' _ ⟨_, _, _, _, _, _, _, _, x', _⟩ => tup x' g3) ?_ ?_
  · rintro i y σ H3 hy ⟨v7, v8, v9, v10, v11, v12, los, rfl, x3, hL3, hlen, hS3⟩
    obtain ⟨n, hn, q, rfl, hq⟩ := g5.get hy
    refine ⟨q, _, rfl, tup x3 hq, rfl, _, _, rfl, _, _, rfl, _, _, rfl, rfl, ?_⟩
    have S3 := S.ext x3
    refine ⟨_, rfl, s.l, rfl, ⟨_, SqL.of S3.hl⟩, fun D hD => ?_⟩
    refine lc_fm (zs := s.rows) (r := fun t => V.ref t.r) (F := fun t => if decide (t.m ≠ ("" : Str)) && decide (t.c % span = n.1) then some (V.ref t.r) else none) hD S3.hl (Nat.lt_of_le_of_lt S.len (by decide)) (fun i t acc R ht h1 h2 hz => ?_) ?_
    · have h3 : upd H3 D (.lst acc) t.r = some (.lst t.vs) := upd_keep (S3.r0 t (mem_at ht)).2 hD
      refine ⟨rfl, _, rfl, t.r, _, 2, _, rfl, rfl, SqL.of h3, rfl, rfl, _, rfl, ?_⟩
      rw [decS]
      by_cases e : t.m = ""
      · exact ifF (by simpa using e) (h2 (by simp [e]))
      · refine ifT (by simpa using e) ⟨_, rfl, t.r, _, 0, _, rfl, rfl, SqL.of h3, rfl, .inl ⟨t.c, rfl, _, rfl, _, _, rfl, rfl, hpw.1, _, rfl, rfl, _, rfl, ?_⟩⟩
        rw [decV]
        by_cases e2 : t.c % span = n.1
        · refine ifT (by simpa using e2) ⟨_, rfl, acc, upd_same, hz, ?_⟩
          rw [upd2]
          exact h1 _ (by simp [e, e2])
        · exact ifF (by simpa using e2) (h2 (by simp [e2]))
    · rw [fmK]
      refine gn_cut ?_
      dsimp only
      refine seq_cut (fun σ' H' => ∃ (D' : Addr) (zs : List RwK) (w11 : Option V), σ' = [some (.ref a), some (.ref b), some (.int count), some (.int span), some (.ref s.l), some (.ref L), some (.ref Sh), some (.int n.1), some (.int n.2.1), some (.bl n.2.2), some (.ref D'), w11, v12, none] ∧ Same H H' ∧ H' D' = some (.lst (rrf zs)) ∧ (∀ t ∈ zs, t ∈ s.rows) ∧ zs.length ≤ 90 ∧ H' L = some (.lst (los.map wv)) ∧ H' Sh = some (.lst [])) ?_ fun key => ?_
      · rintro σ' H4 ⟨D', zs, w11, rfl, x4, hD4, hzs, hzl, hL4, hS4⟩
        have S4 := S.ext x4
        refine ⟨_, rfl, D', rfl, ⟨_, SqL.of hD4⟩, fun D3 hD3 => ?_⟩
        refine lc_list (K := K) (a := D') (xs := rrf zs) (fun i H' => ∃ vs : List V, H' D3 = some (.lst vs) ∧ vs.length = i ∧ (∀ v ∈ vs, PairAt H' v) ∧ Same H4 H') ⟨[], upd_same, rfl, fun v hv => absurd hv List.not_mem_nil, upd0 hD3⟩ (fun i H' _ ⟨_, _, _, _, x'⟩ => SqL.of (x' _ _ hD4)) (fun i v H5 hv ⟨vs, h5, hl5, hp5, x5⟩ => ?_) fun H5 ⟨vs, h5, hl5, hp5, x5⟩ => ?_
        · rw [List.getElem?_map] at hv
          obtain ⟨t, ht, rfl⟩ := Option.map_eq_some_iff.mp hv
          have ht' := (S4.r0 t (hzs t (mem_at ht))).2
          have hit : i < zs.length := (List.getElem?_eq_some_iff.mp ht).1
          refine ⟨rfl, _, rfl, t.r, _, 0, _, rfl, rfl, SqL.of (x5 _ _ ht'), rfl, _, rfl, t.r, _, 1, _, rfl, rfl, SqL.of (x5 _ _ ht'), rfl, by show 2 ≤ sizeLine; decide, fun u hu => ?_⟩
          refine ⟨vs, upd_keep h5 hu, by rw [hl5]; exact Nat.lt_of_le_of_lt (show i ≤ 90 by omega) (by decide), vs ++ [.ref u], upd_same, by rw [List.length_append, hl5]; rfl, fun z hz => ?_, same_put (fun y o h => upd_keep (x5 y o h) hu) hD3⟩
          rcases List.mem_append.mp hz with hz | hz
          · exact ((hp5 z hz).same (upd0 hu)).lst (upd_keep h5 hu)
          · rw [List.mem_singleton.mp hz]
            exact PairAt.lst ⟨u, t.c, t.p, rfl, upd_same⟩ (upd_keep h5 hu)
        · obtain ⟨ds, hd1, hd2⟩ := dpPairs (K := K) hp5
          obtain ⟨o1, o2, o3, o4⟩ := pairs_ok hd2
          refine ⟨D3, vs, ds, rfl, SqL.of h5, hd1, o1, o2, o3, fun ys p3 hy hp3 => ?_⟩
          have x6 : Same H (upd H5 p3 (.lst ys)) := fun y o h => upd_keep (x5 y o (x4 y o h)) hp3
          have hL6 : upd H5 p3 (.lst ys) L = some (.lst (los.map wv)) := upd_keep (x5 _ _ hL4) hp3
          have hS6 : upd H5 p3 (.lst ys) Sh = some (.lst []) := upd_keep (x5 _ _ hS4) hp3
          have hys : ∀ v ∈ ys, PairAt (upd H5 p3 (.lst ys)) v := fun v hv => (hp5 v (hy.subset hv)).same (upd0 hp3)
          have h6 : upd H5 p3 (.lst ys) p3 = some (.lst ys) := upd_same
          generalize upd H5 p3 (.lst ys) = H6 at x6 hL6 hS6 hys h6
          refine ⟨_, rfl, .inl ⟨rfl, _, SqL.of hL6⟩, _, rfl, Nat.zero_le _, fun z hz => ?_⟩
          obtain ⟨es, he1, he2⟩ := dpPairs (K := K) (H := upd H6 z (.lst [])) fun v hv => (hys v hv).same (upd0 hz)
          refine ne_nil (ds := es) (.lst (SqL.of (upd_keep h6 hz)) he1) (pairs_ok he2).2.2.2 upd_same ⟨_, rfl, ?_⟩
          have push : ∀ o : Option Int, ∃ l xs, V.ref L = .ref l ∧ [wv o] = [xs] ∧ True := fun o => ⟨L, _, rfl, rfl, trivial⟩
          refine ite2 (fun hc => ?_) (fun hc => ?_)
          · obtain ⟨v, hv, e⟩ := last_at (nonempty_of he1 hc)
            obtain ⟨q', c', p', rfl, g'⟩ := hys v hv
            refine ⟨_, rfl, _, rfl, p3, _, -1, _, rfl, rfl, SqL.of (upd_keep h6 hz), e, q', _, 1, _, rfl, rfl, SqT.of (upd_keep g' hz), rfl, ?_⟩
            refine ⟨L, _, _, rfl, rfl, upd_keep hL6 hz, ?_, _, _, _, _, _, _, los ++ [some p'], rfl, same_put (fun y o h => upd_keep (x6 y o h) hz) nL, by rw [upd_same, List.map_append]; rfl, by rw [List.length_append, hlen]; rfl, ?_⟩
            · rw [List.length_map, hlen]
              have := (List.getElem?_eq_some_iff.mp hn).1
              exact lz (by omega)
            · rw [upd_ne nLS.symm]
              exact upd_keep hS6 hz
          · refine ⟨L, _, _, rfl, rfl, upd_keep hL6 hz, ?_, _, _, _, _, _, _, los ++ [none], rfl, same_put (fun y o h => upd_keep (x6 y o h) hz) nL, by rw [upd_same, List.map_append]; rfl, by rw [List.length_append, hlen]; rfl, ?_⟩
            · rw [List.length_map, hlen]
              have := (List.getElem?_eq_some_iff.mp hn).1
              exact lz (by omega)
            · rw [upd_ne nLS.symm]
              exact upd_keep hS6 hz
      · have x4 : Same H (upd H3 D (.lst (rrf (s.rows.filter fun t => decide (t.m ≠ ("" : Str)) && decide (t.c % span = n.1))))) := fun y o h => upd_keep (x3 y o h) hD
        have hzl : (s.rows.filter fun t => decide (t.m ≠ ("" : Str)) && decide (t.c % span = n.1)).length ≤ 90 := Nat.le_trans (List.length_filter_le ..) S.len
        have hzm : ∀ t ∈ s.rows.filter fun t => decide (t.m ≠ ("" : Str)) && decide (t.c % span = n.1), t ∈ s.rows := fun t ht => (List.mem_filter.mp ht).1
        generalize (s.rows.filter fun t => decide (t.m ≠ ("" : Str)) && decide (t.c % span = n.1)) = zs at x4 hzl hzm
        refine ⟨_, rfl, _, _, rfl, rfl, _, rfl, ite2 (fun hc => ?_) (fun hc => ?_)⟩
        · refine ⟨_, rfl, _, rfl, .inl ⟨count, rfl, _, rfl, _, _, rfl, rfl, hpw.1, _, _, rfl, rfl, _, rfl, _, rfl, _, _, rfl, rfl, cmS (by omega) (by omega), _, _, rfl, rfl, _, rfl, _, _, rfl, rfl, ?_⟩⟩
          refine ⟨_, rfl, D, rfl, ⟨_, SqL.of upd_same⟩, fun D2 hD2 => ?_⟩
          refine lc_fm (zs := zs) (r := fun t => V.ref t.r) (F := fun t => if decide (t.c = count - count % span - n.2.1 * span + n.1) then some (V.ref t.r) else none) hD2 upd_same (lz (Nat.le_trans hzl (by decide))) (fun i t acc R ht h1 h2 hz => ?_) ?_
          · have h3 : upd (upd H3 D (.lst (rrf zs))) D2 (.lst acc) t.r = some (.lst t.vs) := upd_keep (x4 _ _ (S.r0 t (hzm t (mem_at ht))).2) hD2
            refine ⟨rfl, _, rfl, t.r, _, 0, _, rfl, rfl, SqL.of h3, rfl, _, rfl, rfl, _, rfl, ?_⟩
            rw [decV]
            by_cases e2 : t.c = count - count % span - n.2.1 * span + n.1
            · refine ifT (by simpa using e2) ⟨_, rfl, acc, upd_same, hz, ?_⟩
              rw [upd2]
              exact h1 _ (by simp [← e2])
            · exact ifF (by simpa using e2) (h2 (by simp [e2]))
          · rw [fmK]
            exact key _ _ ⟨D2, _, _, rfl, fun y o h => upd_keep (x4 y o h) hD2, upd_same, fun t ht => hzm t (List.mem_filter.mp ht).1, Nat.le_trans (List.length_filter_le ..) hzl, upd_keep (upd_keep hL3 hD) hD2, upd_keep (upd_keep hS3 hD) hD2⟩
        · exact key _ _ ⟨D, zs, v11, rfl, x4, upd_same, hzm, hzl, upd_keep hL3 hD, upd_keep hS3 hD⟩
  · rintro σ H3 ⟨v7, v8, v9, v10, v11, v12, los, rfl, x3, hL3, hlen, hS3⟩
    refine ⟨_, rfl, b, _, 5, _, rfl, rfl, tup x3 g1, rfl, ps, rfl, ⟨_, tup x3 g2⟩, ?_⟩
    refine for_tup (K := K) (a := ps) (xs := vs) (fun i σ H' => ∃ (v7 v8 v9 v10 v11 v12 : Option V) (shs : List (Option Int)), σ = [some (.ref a), some (.ref b), some (.int count), some (.int span), some (.ref s.l), some (.ref L), some (.ref Sh), v7, v8, v9, v10, v11, v12, none] ∧ Same H H' ∧ H' L = some (.lst (los.map wv)) ∧ H' Sh = some (.lst (shs.map wv)) ∧ shs.length = i)
      ⟨v7, v8, v9, v10, v11, v12, [], rfl, x3, hL3, hS3, rfl⟩ (fun i σ H' _ ⟨_, _, _, _, _, _, _, _, x', _⟩ => tup x' g2) ?_ ?_
    · rintro i y σ H4 hy ⟨v7, v8, v9, v10, v11, v12, shs, rfl, x4, hL4, hS4, hlen2⟩
      obtain ⟨n, hn, q, rfl, hq⟩ := g4.get hy
      refine ⟨q, _, rfl, tup x4 hq, rfl, _, _, rfl, _, _, rfl, rfl, ?_⟩
      have S4 := S.ext x4
      refine ⟨_, rfl, s.l, rfl, ⟨_, SqL.of S4.hl⟩, fun D hD => ?_⟩
      refine lc_fm (zs := s.rows) (r := fun t => V.ref t.r) (F := fun t => if decide (t.m = ("short" : Str)) && decide (t.c = count + n.1) then some (V.ref t.r) else none) hD S4.hl (Nat.lt_of_le_of_lt S.len (by decide)) (fun i t acc R ht h1 h2 hz => ?_) ?_
      · have h3 : upd H4 D (.lst acc) t.r = some (.lst t.vs) := upd_keep (S4.r0 t (mem_at ht)).2 hD
        refine ⟨rfl, _, rfl, t.r, _, 2, _, rfl, rfl, SqL.of h3, rfl, rfl, _, rfl, ?_⟩
        rw [decS]
        by_cases e : t.m = ("short" : Str)
        · refine ifT (by simpa using e) ⟨_, rfl, t.r, _, 0, _, rfl, rfl, SqL.of h3, rfl, _, rfl, _, rfl, _, _, rfl, rfl, rfl, _, rfl, ?_⟩
          rw [decV]
          by_cases e2 : t.c = count + n.1
          · refine ifT (by simpa using e2) ⟨_, rfl, acc, upd_same, hz, ?_⟩
            rw [upd2]
            exact h1 _ (by simp [e, e2])
          · exact ifF (by simpa using e2) (h2 (by simp [e2]))
        · exact ifF (by simpa using e) (h2 (by simp [e]))
      · rw [fmK]
        have x5 : Same H (upd H4 D (.lst (rrf (s.rows.filter fun t => decide (t.m = ("short" : Str)) && decide (t.c = count + n.1))))) := fun y o h => upd_keep (x4 y o h) hD
        have hzl : (s.rows.filter fun t => decide (t.m = ("short" : Str)) && decide (t.c = count + n.1)).length ≤ 90 := Nat.le_trans (List.length_filter_le ..) S.len
        have hzm : ∀ t ∈ s.rows.filter fun t => decide (t.m = ("short" : Str)) && decide (t.c = count + n.1), t ∈ s.rows := fun t ht => (List.mem_filter.mp ht).1
        have hL5 := upd_keep (o' := .lst (rrf (s.rows.filter fun t => decide (t.m = ("short" : Str)) && decide (t.c = count + n.1)))) hL4 hD
        have hS5 := upd_keep (o' := .lst (rrf (s.rows.filter fun t => decide (t.m = ("short" : Str)) && decide (t.c = count + n.1)))) hS4 hD
        have hD5 : upd H4 D (.lst (rrf (s.rows.filter fun t => decide (t.m = ("short" : Str)) && decide (t.c = count + n.1)))) D = _ := upd_same
        generalize (s.rows.filter fun t => decide (t.m = ("short" : Str)) && decide (t.c = count + n.1)) = zs at x5 hzl hzm hL5 hS5 hD5
        generalize upd H4 D (.lst (rrf zs)) = H5 at x5 hL5 hS5 hD5
        refine ⟨_, rfl, D, rfl, ⟨_, SqL.of hD5⟩, fun D3 hD3 => ?_⟩
        refine lc_fm (zs := zs) (r := fun t => V.ref t.r) (F := fun t => if (if true = true then !inV (.int t.p) (los.map wv) else inV (.int t.p) (los.map wv)) = true then some (V.int t.p) else none) hD3 hD5 (lz (Nat.le_trans hzl (by decide))) (fun i t acc R ht h1 h2 hz => ?_) ?_
        · have h3 : upd H5 D3 (.lst acc) t.r = some (.lst t.vs) := upd_keep (x5 _ _ (S.r0 t (hzm t (mem_at ht))).2) hD3
          refine ⟨rfl, _, rfl, t.r, _, 1, _, rfl, rfl, SqL.of h3, rfl, _, rfl, L, _, rfl, .inl (SqL.of (upd_keep hL5 hD3)), rfl, flat_wv los, _, rfl, ?_⟩
          refine ite2 (fun hc => ?_) (fun hc => ?_)
          · refine ⟨_, rfl, t.r, _, 1, _, rfl, rfl, SqL.of h3, rfl, acc, upd_same, hz, ?_⟩
            rw [upd2]
            exact h1 _ (if_pos hc)
          · exact h2 (if_neg hc)
        · have hvi : ∀ v ∈ zs.filterMap (fun t => if (if true = true then !inV (.int t.p) (los.map wv) else inV (.int t.p) (los.map wv)) = true then some (V.int t.p) else none), ∃ i, v = V.int i := fun v hv => by
            obtain ⟨t, _, e⟩ := List.mem_filterMap.mp hv
            have aux : ∀ c : Bool, (if c = true then some (V.int t.p) else none) = some v → ∃ i, v = .int i := fun c h => by
              cases c
              · cases h
              · exact ⟨t.p, (Option.some.inj h).symm⟩
            exact aux _ e
          generalize zs.filterMap (fun t => if (if true = true then !inV (.int t.p) (los.map wv) else inV (.int t.p) (los.map wv)) = true then some (V.int t.p) else none) = us at hvi
          obtain ⟨ds, hd1, hd2⟩ := dpInts (K := K) (H := upd H5 D3 (.lst us)) hvi
          obtain ⟨o1, o2, o3, o4⟩ := ints_ok hd2
          refine ⟨D3, us, ds, rfl, SqL.of upd_same, hd1, o1, o2, o3, fun ys p3 hy hp3 => ?_⟩
          have x6 : Same H (upd (upd H5 D3 (.lst us)) p3 (.lst ys)) := fun y o h => upd_keep (upd_keep (x5 y o h) hD3) hp3
          have hL6 : upd (upd H5 D3 (.lst us)) p3 (.lst ys) L = some (.lst (los.map wv)) := upd_keep (upd_keep hL5 hD3) hp3
          have hS6 : upd (upd H5 D3 (.lst us)) p3 (.lst ys) Sh = some (.lst (shs.map wv)) := upd_keep (upd_keep hS5 hD3) hp3
          have hys : ∀ v ∈ ys, ∃ i, v = V.int i := fun v hv => hvi v (hy.subset hv)
          have h6 : upd (upd H5 D3 (.lst us)) p3 (.lst ys) p3 = some (.lst ys) := upd_same
          generalize upd (upd H5 D3 (.lst us)) p3 (.lst ys) = H6 at x6 hL6 hS6 h6
          refine ⟨_, rfl, .inl ⟨rfl, _, SqL.of hS6⟩, _, rfl, Nat.zero_le _, fun z hz => ?_⟩
          obtain ⟨es, he1, he2⟩ := dpInts (K := K) (H := upd H6 z (.lst [])) hys
          refine ne_nil (ds := es) (.lst (SqL.of (upd_keep h6 hz)) he1) (ints_ok he2).2.2.2 upd_same ⟨_, rfl, ?_⟩
          have hlz : (shs.map wv).length < sizeLine := by
            rw [List.length_map, hlen2]
            have := (List.getElem?_eq_some_iff.mp hn).1
            exact lz (by omega)
          refine ite2 (fun hc => ?_) (fun hc => ?_)
          · obtain ⟨v, hv, e⟩ := last_at (nonempty_of he1 hc)
            obtain ⟨p', rfl⟩ := hys v hv
            refine ⟨_, rfl, _, rfl, p3, _, -1, _, rfl, rfl, SqL.of (upd_keep h6 hz), e, ?_⟩
            refine ⟨Sh, _, _, rfl, rfl, upd_keep hS6 hz, hlz, _, _, _, _, _, _, shs ++ [some p'], rfl, same_put (fun y o h => upd_keep (x6 y o h) hz) nS, ?_, by rw [upd_same, List.map_append]; rfl, by rw [List.length_append, hlen2]; rfl⟩
            rw [upd_ne nLS]
            exact upd_keep hL6 hz
          · refine ⟨Sh, _, _, rfl, rfl, upd_keep hS6 hz, hlz, _, _, _, _, _, _, shs ++ [none], rfl, same_put (fun y o h => upd_keep (x6 y o h) hz) nS, ?_, by rw [upd_same, List.map_append]; rfl, by rw [List.length_append, hlen2]; rfl⟩
            rw [upd_ne nLS]
            exact upd_keep hL6 hz
    · rintro σ H4 ⟨v7, v8, v9, v10, v11, v12, shs, rfl, x4, hL4, hS4, hlen2⟩
      refine ⟨_, rfl, _, rfl, by show 2 ≤ sizeLine; decide, fun r hr => ?_⟩
      exact k _ r L Sh los shs (fun y o h => upd_keep (x4 y o h) hr) upd_same (upd_keep hL4 hr) (upd_keep hS4 hr) (hlen.trans g5.1) (hlen2.trans g4.1) nL nS nLS
end

end L2.K13
set_option Elab.async false
set_option linter.all false
set_option maxRecDepth 100000
set_option maxHeartbeats 4000000
set_option pp.maxSteps 150
namespace L2.K13
open PySem PySem.Spec PyProof.Rows L2
/-! ### list(zip(a list, a tuple)) -/
section
variable {prog : Program} {w : World} {A : Around} {E : Value → Shared → Prop} {s : Shared} {z TI TO T i1 i2 : Addr} {fp1 fp2 : List Addr} {n1 n2 i : Nat} {P1 P2 : Nat → Value → Prop} {St1 St2 : Nat → Heap → Prop} {a1 a2 : Value}
theorem zipH_item {f : Bool} {oT : Obj} {Q : Value → Shared → Prop} (S : ZipSep2 z TI TO i1 i2 fp1 fp2) (D1 : Draws prog w A i1 fp1 n1 P1 St1) (D2 : Draws prog w A i2 fp2 n2 P2 St2)
    (hz : IsZipHeld s.heap z TI TO T f) (hT : s.heap.get? T = some oT) (hTI : IsTupOf2 s.heap TI (.ref i1) (.ref i2)) (st1 : St1 i s.heap) (st2 : St2 i s.heap) (hlt1 : i < n1) (hlt2 : i < n2)
    (hQ : ∀ x1 x2 h' tk, P1 i x1 → P2 i x2 → IsZipHeld h' z TI TO T true → St1 (i + 1) h' → St2 (i + 1) h' → IsTupOf2 h' s.heap.objs.size x1 x2 → h'.objs.size = s.heap.objs.size + 1 →
      (∀ c o, c ≠ z → c ≠ i1 → c ≠ i2 → s.heap.get? c = some o → h'.get? c = some o) → Q (.ref s.heap.objs.size) { s with heap := h', toks := tk }) :
    wpAny (model prog w) A (Builtin.«zip.__next__» ⟨[.ref z], []⟩) (fun fin s' => ∃ v, fin = .done (.ret v) ∧ Q v s') E s := by
  obtain ⟨hp, g, d, tk0, os⟩ := s
  show wpAny _ _ (field (.ref z) 2 >>= _) _ _ _
  refine wpAny_bind (wpAny_field hz rfl (x := .bool false) rfl ?_)
  show wpAny _ _ (field (.ref z) 3 >>= _) _ _ _
  refine wpAny_bind (wpAny_field hz rfl (x := .ref TI) rfl ?_)
  refine wpAny_bind (wpAny_seqItems hTI rfl ?_)
  show wpAny _ _ (Builtin.SmallTypes.ownedTupleIsFree (.ref z) >>= _) _ _ _
  refine wpAny_bind (wpAny_tupleHeld_zip hz hT fun h₁ hz₁ hs₁ => ?_)
  replace hs₁ : Heap.SameBut z hp h₁ := hs₁
  simp only [Bool.false_eq_true, if_false]
  refine wpAny_bind ?_
  rw [← Array.forIn_toList]
  simp only [List.forIn_cons, List.forIn_nil]
  refine wpAny_bind (wpAny_bind (wpAny_holding ?_))
  show wpAny _ _ (Builtin.SmallTypes.nextOf (.ref i1) >>= _) _ _ ⟨h₁, g, d, tk0, os⟩
  refine wpAny_bind (D1.item i _ _ _ hlt1 (D1.over st1 hs₁ S.zf1) fun x1 h₂ tk1 hx1 sn1 hs₂ => wpAny_pure ?_)
  replace hs₂ : Heap.SameBut i1 h₁ h₂ := hs₂
  refine wpAny_pure ?_
  refine wpAny_bind (wpAny_bind (wpAny_holding ?_))
  show wpAny _ _ (Builtin.SmallTypes.nextOf (.ref i2) >>= _) _ _ ⟨h₂, g, d, tk1, os⟩
  refine wpAny_bind (D2.item i _ _ _ hlt2 (D2.over (D2.over st2 hs₁ S.zf2) hs₂ S.sep1_2) fun x2 h₃ tk2 hx2 sn2 hs₃ => wpAny_pure ?_)
  replace hs₃ : Heap.SameBut i2 h₂ h₃ := hs₃
  refine wpAny_pure (wpAny_pure ?_)
  show wpAny _ _ (newTuple [x1, x2] >>= _) _ _ _
  refine wpAny_bind (wpAny_newTuple ?_)
  have hsz : h₃.objs.size = hp.objs.size := by rw [hs₃.1, hs₂.1, hs₁.1]
  have hz₃ : IsZipHeld h₃ z TI TO T true := hs₃.extBut _ _ S.zi2 (hs₂.extBut _ _ S.zi1 hz₁)
  have hk : ∀ c o, c ≠ z → c ≠ i1 → c ≠ i2 → hp.get? c = some o → h₃.get? c = some o := fun c o c1 c2 c3 e => hs₃.extBut _ _ c3 (hs₂.extBut _ _ c2 (hs₁.extBut _ _ c1 e))
  refine wpAny_pure ⟨_, rfl, ?_⟩
  show Q (.ref h₃.objs.size) _
  have hp' : IsTupOf2 (h₃.push { cls := .type "tuple", data := .seq #[x1, x2] }) h₃.objs.size x1 x2 := Heap.get?_push_size _ rfl
  have hz4 : (h₃.push { cls := .type "tuple", data := .seq #[x1, x2] }).objs.size = h₃.objs.size + 1 := Heap.size_push ..
  rw [hsz] at hp' hz4 ⊢
  exact hQ x1 x2 _ tk2 hx1 hx2 (Heap.get?_push_of_some _ hz₃) (D1.frame _ _ _ (D1.over sn1 hs₃ S.sep2_1) fun b _ o e => Heap.get?_push_of_some _ e) (D2.frame _ _ _ sn2 fun b _ o e => Heap.get?_push_of_some _ e) hp' hz4 fun c o c1 c2 c3 e => Heap.get?_push_of_some _ (hk c o c1 c2 c3 e)
theorem zipH_end {f : Bool} {oT : Obj} {Q : Fin → Shared → Prop} (S : ZipSep2 z TI TO i1 i2 fp1 fp2) (D1 : Draws prog w A i1 fp1 n1 P1 St1)
    (hz : IsZipHeld s.heap z TI TO T f) (hT : s.heap.get? T = some oT) (hTI : IsTupOf2 s.heap TI (.ref i1) (.ref i2)) (st1 : St1 n1 s.heap)
    (hE : ∀ h' e, (∀ c o, c ≠ z → c ≠ i1 → c ≠ i2 → s.heap.get? c = some o → h'.get? c = some o) → (∃ o, h'.get? e = some o ∧ o.cls = .type "StopIteration") → E (.ref e) { s with heap := h' }) :
    wpAny (model prog w) A (Builtin.«zip.__next__» ⟨[.ref z], []⟩) Q E s := by
  show wpAny _ _ (field (.ref z) 2 >>= _) _ _ _
  refine wpAny_bind (wpAny_field hz rfl (x := .bool false) rfl ?_)
  show wpAny _ _ (field (.ref z) 3 >>= _) _ _ _
  refine wpAny_bind (wpAny_field hz rfl (x := .ref TI) rfl ?_)
  refine wpAny_bind (wpAny_seqItems hTI rfl ?_)
  show wpAny _ _ (Builtin.SmallTypes.ownedTupleIsFree (.ref z) >>= _) _ _ _
  refine wpAny_bind (wpAny_tupleHeld_zip hz hT fun h₁ hz₁ hs₁ => ?_)
  simp only [Bool.false_eq_true, if_false]
  refine wpAny_bind ?_
  rw [← Array.forIn_toList]
  simp only [List.forIn_cons, List.forIn_nil]
  refine wpAny_bind (wpAny_bind (wpAny_holding ?_))
  show wpAny _ _ (Builtin.SmallTypes.nextOf (.ref i1) >>= _) _ _ _
  exact wpAny_bind (D1.done { s with heap := h₁ } _ _ (D1.over st1 hs₁ S.zf1) fun h₂ e hs₂ he => hE h₂ e (fun c o c1 c2 _ x => hs₂ _ _ c2 (hs₁.extBut _ _ c1 x)) he)
theorem nextH_item {f : Bool} {oT : Obj} {Q : Option Value → Shared → Prop} (S : ZipSep2 z TI TO i1 i2 fp1 fp2) (D1 : Draws prog w A.in1 i1 fp1 n1 P1 St1) (D2 : Draws prog w A.in1 i2 fp2 n2 P2 St2)
    (hz : IsZipHeld s.heap z TI TO T f) (hT : s.heap.get? T = some oT) (hTI : IsTupOf2 s.heap TI (.ref i1) (.ref i2)) (st1 : St1 i s.heap) (st2 : St2 i s.heap) (hlt1 : i < n1) (hlt2 : i < n2)
    (hQ : ∀ x1 x2 h' tk, P1 i x1 → P2 i x2 → IsZipHeld h' z TI TO T true → St1 (i + 1) h' → St2 (i + 1) h' → IsTupOf2 h' s.heap.objs.size x1 x2 → h'.objs.size = s.heap.objs.size + 1 →
      (∀ c o, c ≠ z → c ≠ i1 → c ≠ i2 → s.heap.get? c = some o → h'.get? c = some o) → Q (some (.ref s.heap.objs.size)) { s with heap := h', toks := tk }) :
    wpAny (model prog w) A (pyNext (.ref z)) Q E s := by
  have hTy : s.TypeIs (.ref z) "zip" := ⟨_, hz, rfl⟩
  unfold pyNext
  exact wpAny_bind (wpAny_attempt (wpAny_callSpecial?_slot (name := Str.ofString "__next__") hTy F.slot_zip_next
    (wpAny_call_entry F.slot_zip_next hTy F.entry_zip_next
      (zipH_item S D1 D2 hz hT hTI st1 st2 hlt1 hlt2 fun x1 x2 h' tk y1 y2 b1 d1 d2 b5 b6 b7 => wpAny_pure (hQ x1 x2 h' tk y1 y2 b1 d1 d2 b5 b6 b7)) (F.args_zip_next_1 _))))
theorem nextH_end {f : Bool} {oT : Obj} {Q : Option Value → Shared → Prop} (S : ZipSep2 z TI TO i1 i2 fp1 fp2) (D1 : Draws prog w A.in1 i1 fp1 n1 P1 St1)
    (hz : IsZipHeld s.heap z TI TO T f) (hT : s.heap.get? T = some oT) (hTI : IsTupOf2 s.heap TI (.ref i1) (.ref i2)) (st1 : St1 n1 s.heap)
    (hQ : ∀ h', (∀ c o, c ≠ z → c ≠ i1 → c ≠ i2 → s.heap.get? c = some o → h'.get? c = some o) → Q none { s with heap := h' }) : wpAny (model prog w) A (pyNext (.ref z)) Q E s := by
  have hTy : s.TypeIs (.ref z) "zip" := ⟨_, hz, rfl⟩
  unfold pyNext
  refine wpAny_bind (wpAny_attempt (wpAny_callSpecial?_slot (name := Str.ofString "__next__") hTy F.slot_zip_next
    (wpAny_call_entry F.slot_zip_next hTy F.entry_zip_next (zipH_end S D1 hz hT hTI st1 fun h' e hk he => ?_) (F.args_zip_next_1 _))))
  obtain ⟨o, ho, hc⟩ := he
  refine wpAny_bind (wpAny_isInstance (T := "StopIteration") (b := true) ⟨o, ho, hc⟩ isSubtype_stop ?_)
  exact wpAny_pure (hQ _ hk)
end
theorem zip_no_len : typeLookup (.type "zip") "__len__" = pure none := by rw [typeLookup_type, builtinLookup_eq_fast]; kernel_rfl
theorem zip_no_hint : typeLookup (.type "zip") "__length_hint__" = pure none := by rw [typeLookup_type, builtinLookup_eq_fast]; kernel_rfl
theorem sqL_same {K : PySem.W.Frag} {H H' : Hp} {a : Addr} {xs : List V} (h : SqL K H a xs) (x : ∀ b o, H b = some o → H' b = some o) : SqL K H' a xs := by
  rcases h with (h | ⟨o, h⟩) | h
  · exact .inl (.inl (x _ _ h))
  · exact .inl (.inr ⟨o, x _ _ h⟩)
  · exact .inr h
theorem sqT_same {K : PySem.W.Frag} {H H' : Hp} {a : Addr} {xs : List V} (h : SqT K H a xs) (x : ∀ b o, H b = some o → H' b = some o) : SqT K H' a xs := by
  rcases h with (h | ⟨o, h⟩) | h
  · exact .inl (.inl (x _ _ h))
  · exact .inl (.inr ⟨o, x _ _ h⟩)
  · exact .inr h
section
variable {X : Cx} {pins : List (Addr × Obj)} {σ : L2.St} {A : Around} {z TI TO i1 i2 a b S : Addr} {xs ys : List V} {H1 : Hp}
def ZI (xs ys : List V) (ps : List Addr) (H : Hp) : Prop := ∀ (j : Nat) (p : Addr), ps[j]? = some p → ∃ x y, xs[j]? = some x ∧ ys[j]? = some y ∧ H p = some (.tup [x, y])
def ZSt (z TI TO i1 i2 a b : Addr) (i : Nat) (h : Heap) : Prop := ((i = 0 ∧ IsZip h z TI TO .none) ∨ ∃ (T : Addr) (f : Bool) (oT : Obj), IsZipHeld h z TI TO T f ∧ h.get? T = some oT ∧ oT.cls = .type "tuple") ∧ IsTupOf2 h TI (.ref i1) (.ref i2) ∧ (∃ x y, IsTupOf2 h TO x y) ∧ h.IsListIter i1 a i ∧ h.IsTupleIter i2 b i
theorem zip_loop {R : Result → Shared → Prop} {res : Value} (hh : A.handled = none) (D : ZipSep2 z TI TO i1 i2 [i1, a] [i2, b]) (hqx : SqL X.K H1 a xs) (hqy : SqT X.K H1 b ys) (hl : xs.length = ys.length) (hn : H1 S = none) :
    ∀ (k i : Nat) (s : Shared) (H : Hp) (ps : List Addr), xs.length - i = k → i ≤ xs.length → Inv X pins σ H s → (∀ c ∈ [z, TI, TO, i1, i2], FpOk X pins H c) → H S = some (.lst (ps.map V.ref)) → ps.length = i → ZI xs ys ps H → Same H1 H → ZSt z TI TO i1 i2 a b i s.heap →
    (∀ s' H' ps, Inv X pins σ H' s' → H' S = some (.lst (ps.map V.ref)) → ps.length = xs.length → ZI xs ys ps H' → Same H1 H' → R (.ok (.ret res)) s') →
    codeAny (model X.prog X.w) A (.builtin "list.extend.loop" ⟨[.ref S, .ref z, res], []⟩) R s := by
  intro k
  induction k with
  | zero =>
    intro i s H ps hk hi I hf hS hps hZ hsm hst hR
    have hin : i = xs.length := by omega
    refine codeAny_builtin F.entry_extend_loop ?_
    rw [Around.under_plainId F.plain_extend_loop _]
    show wpAny _ A.in1 (pyNext (.ref z) >>= _) _ _ s
    obtain ⟨hzz, hTI, ⟨x0, y0, hTO⟩, h1, h2⟩ := hst
    obtain ⟨its, rv, p, _⟩ := I.list (sqL_same hqx hsm)
    obtain ⟨its2, rv2, p2, _⟩ := I.tuple (sqT_same hqy hsm)
    have l1 := rv.length
    have l2 := rv2.length
    have na : a ≠ i1 := li_ne h1 p.isList
    have nb : b ≠ i2 := ti_ne h2 p2
    have fin : ∀ h' tk, (∀ c o, c ∉ [z, TI, TO, i1, i2] → s.heap.get? c = some o → h'.get? c = some o) → R (.ok (.ret res)) { s with heap := h', toks := tk } := fun h' tk hk => hR _ H ps (I.turnedL (t' := tk) hk hf) hS (hps.trans hin) hZ hsm
    rcases hzz with ⟨i0, hz⟩ | ⟨T, f, oT, hz, hT, hTc⟩
    · refine wpAny_bind (wpAny_pyNext_zipD2_end (i := i) D (Draws.list (A := A.in1.in1) hh i1 a na its.toArray) (Draws.tuple (A := A.in1.in1) hh i2 b nb its2.toArray) hz hTI hTO ⟨h1, p.isList⟩ ⟨h2, p2⟩ (by rw [List.size_toArray]; omega) (by rw [List.size_toArray]; omega) (by rw [List.size_toArray, List.size_toArray]; omega) fun h' tk hk => ?_)
      exact wpAny_pure (fin h' tk fun c o hc q => hk c o (fun e => hc (by simp [e])) (fun e => hc (by simp [e])) (fun e => hc (by simp [e])) (fun e => hc (by simp [e])) q)
    · refine wpAny_bind (nextH_end D (Draws.list (A := A.in1.in1) hh i1 a na its.toArray) hz hT hTI (by rw [List.size_toArray, ← l1, ← hin]; exact ⟨h1, p.isList⟩) fun h' hk => ?_)
      exact wpAny_pure (fin h' s.toks fun c o hc q => hk c o (fun e => hc (by simp [e])) (fun e => hc (by simp [e])) (fun e => hc (by simp [e])) q)
  | succ k ih =>
    intro i s H ps hk hi I hf hS hps hZ hsm hst hR
    have hlt : i < xs.length := by omega
    refine codeAny_builtin F.entry_extend_loop ?_
    rw [Around.under_plainId F.plain_extend_loop _]
    show wpAny _ A.in1 (pyNext (.ref z) >>= _) _ _ s
    obtain ⟨hzz, hTI, ⟨x0, y0, hTO⟩, h1, h2⟩ := hst
    obtain ⟨its, rv, p, hxz⟩ := I.list (sqL_same hqx hsm)
    obtain ⟨its2, rv2, p2, _⟩ := I.tuple (sqT_same hqy hsm)
    have l1 := rv.length
    have l2 := rv2.length
    have na : a ≠ i1 := li_ne h1 p.isList
    have nb : b ≠ i2 := ti_ne h2 p2
    have ex : xs[i]? = some xs[i] := List.getElem?_eq_getElem hlt
    have ey : ys[i]? = some (ys[i]'(hl ▸ hlt)) := List.getElem?_eq_getElem (hl ▸ hlt)
    generalize xs[i] = x at ex
    generalize (ys[i]'(hl ▸ hlt)) = y at ey
    obtain ⟨u, hu, ru⟩ := rv.get ex
    obtain ⟨u2, hu2, ru2⟩ := rv2.get ey
    have hzl : ∃ o, s.heap.get? z = some o := by
      rcases hzz with ⟨_, hz⟩ | ⟨T, f, oT, hz, _⟩
      · exact ⟨_, hz⟩
      · exact ⟨_, hz⟩
    have hclt : ∀ c ∈ [z, TI, TO, i1, i2], c < s.heap.objs.size := fun c hc => by
      have e' : c = z ∨ c = TI ∨ c = TO ∨ c = i1 ∨ c = i2 := by simpa using hc
      rcases e' with q | q | q | q | q
      · rw [q]; obtain ⟨_, e⟩ := hzl; exact Heap.lt_size e
      · rw [q]; exact Heap.lt_size hTI
      · rw [q]; exact Heap.lt_size hTO
      · rw [q]; obtain ⟨_, e1, _⟩ := h1; exact Heap.lt_size e1
      · rw [q]; obtain ⟨_, e2, _⟩ := h2; exact Heap.lt_size e2
    have hcS : ∀ c ∈ [z, TI, TO, i1, i2], c ≠ S := fun c hc e => by
      have := (hf c hc).1
      rw [e, hS] at this
      cases this
    obtain ⟨_, itsS, nS, rS, hlS, eS⟩ := I.lstM hS
    have hSlt : S < s.heap.objs.size := Heap.lt_size eS
    -- the rest, from the turn's heap
    have rest : ∀ x1 x2 (h' : Heap) (tk : Nat) (f : Bool), its[i]? = some x1 → its2[i]? = some x2 → (∃ (T : Addr) (f : Bool) (oT : Obj), IsZipHeld h' z TI TO T f ∧ h'.get? T = some oT ∧ oT.cls = .type "tuple") → IsTupOf2 h' TI (.ref i1) (.ref i2) → (∃ x y, IsTupOf2 h' TO x y) → h'.IsListIter i1 a (i + 1) → h'.IsTupleIter i2 b (i + 1) → IsTupOf2 h' s.heap.objs.size x1 x2 →
        (∀ c o, c ∉ [z, TI, TO, i1, i2] → s.heap.get? c = some o → h'.get? c = some o) →
        wpAny (model X.prog X.w) A.in1 (updateSeq S (·.push (.ref s.heap.objs.size)) >>= fun _ => again (.builtin "list.extend.loop" ⟨[.ref S, .ref z, res], []⟩)) (fun fin s' => match fin with | .done f => R (.ok f) s' | .again c' => c'.quiet = true ∧ codeAny (model X.prog X.w) A c' R s') (fun e s' => R (.error e) s') { s with heap := h', toks := tk } := by
      intro x1 x2 h' tk f e1 e2 hz' hTI' hTO' h1' h2' hT hk
      have e1' : x1 = u := by
        rw [hu] at e1
        exact (Option.some.inj e1).symm
      have e2' : x2 = u2 := by
        rw [hu2] at e2
        exact (Option.some.inj e2).symm
      subst e1' e2'
      have new : ObjOk X.prog X.w (upd H s.heap.objs.size (.tup [x, y])) h' s.heap.objs.size (.tup [x, y]) :=
        ⟨by show 2 ≤ sizeLine; decide, [x1, x2], .cons ru (.cons ru2 .nil), ⟨_, hT, rfl, _, rfl⟩⟩
      have I1 : Inv X pins σ (upd H s.heap.objs.size (.tup [x, y])) { s with heap := h', toks := tk } := I.turnedNew (t' := tk) (ch := [z, TI, TO, i1, i2]) hk hf (Nat.le_refl _) new
      have nST : S ≠ s.heap.objs.size := Nat.ne_of_lt hSlt
      have hS1 : upd H s.heap.objs.size (.tup [x, y]) S = some (.lst (ps.map V.ref)) := by rw [upd_ne nST]; exact hS
      obtain ⟨_, its3, n3, r3, hl3, e3⟩ := I1.lstM hS1
      have hl3' : its3.length = i := by rw [← hl3, List.length_map, hps]
      have hsz : xs.length ≤ sizeLine := hxz
      have I2 := I1.lset (its' := its3 ++ [.ref s.heap.objs.size]) (ys := (ps ++ [s.heap.objs.size]).map V.ref) (f := (·.push (.ref s.heap.objs.size))) (t' := tk) hS1 e3 (by simp) (by
        rw [List.map_append]
        exact r3.append (.cons rfl .nil)) (by rw [List.length_map, List.length_append, hps]; show i + 1 ≤ _; omega)
      have oth : ∀ c o, c ≠ S → h'.get? c = some o → (h'.update S (Obj.mapSeq (·.push (.ref s.heap.objs.size)))).get? c = some o := fun c o hc q => (Heap.get?_update_other _ _ (Ne.symm hc)).trans q
      refine wpAny_bind (wpAny_updateSeq e3 rfl (wpAny_pure ⟨plainId_quiet F.plain_extend_loop _, ih (i + 1) _ _ (ps ++ [s.heap.objs.size]) (by omega) hlt I2 (fun c hc => ?_) upd_same (by rw [List.length_append, hps]; rfl) (fun j q hj => ?_) (fun c o q => ?_) ⟨.inr ?_, ?_, ?_, ?_, ?_⟩ hR⟩) (by rw [List.size_toArray]; omega) (by show (its3.toArray.push _).size ≤ sizeLine + 1; rw [Array.size_push, List.size_toArray]; omega))
      · refine ⟨?_, (hf c hc).2⟩
        rw [upd_ne (hcS c hc), upd_ne (Nat.ne_of_lt (hclt c hc))]
        exact (hf c hc).1
      · rw [List.getElem?_append] at hj
        split at hj
        · obtain ⟨x', y', q1, q2, q3⟩ := hZ j q hj
          have n1 : q ≠ s.heap.objs.size := ne_of_none q3 I.fresh
          have n2 : q ≠ S := ne_of q3 hS (by intro z; cases z)
          exact ⟨x', y', q1, q2, by rw [upd_ne n2, upd_ne n1]; exact q3⟩
        · rename_i hge
          have hj0 : j - ps.length = 0 := by
            cases hjj : j - ps.length with
            | zero => rfl
            | succ m => rw [hjj] at hj; simp at hj
          rw [hj0] at hj
          have hq : q = s.heap.objs.size := (Option.some.inj hj).symm
          have hji : j = i := by omega
          subst hq hji
          exact ⟨x, y, ex, ey, by rw [upd_ne nST.symm, upd_same]⟩
      · have n2 : c ≠ S := ne_of_none q hn
        have n1 : c ≠ s.heap.objs.size := ne_of_none (hsm c o q) I.fresh
        rw [upd_ne n2, upd_ne n1]
        exact hsm c o q
      · obtain ⟨T, f', oT, g1, g2, g3⟩ := hz'
        refine ⟨T, f', oT, oth _ _ (hcS z (by simp)) g1, oth _ _ (fun e => ?_) g2, g3⟩
        rw [e, e3] at g2
        cases g2
        exact absurd g3 (by show ¬ (Value.type "list" = Value.type "tuple"); decide)
      · exact oth _ _ (hcS TI (by simp)) hTI'
      · obtain ⟨x', y', g⟩ := hTO'
        exact ⟨x', y', oth _ _ (hcS TO (by simp)) g⟩
      · exact h1'.at fun o q => oth _ _ (hcS i1 (by simp)) q
      · exact h2'.at fun o q => oth _ _ (hcS i2 (by simp)) q
    rcases hzz with ⟨i0, hz⟩ | ⟨T, f, oT, hz, hT, hTc⟩
    · refine wpAny_bind (wpAny_pyNext_zipD2_item (i := i) D (Draws.list (A := A.in1.in1) hh i1 a na its.toArray) (Draws.tuple (A := A.in1.in1) hh i2 b nb its2.toArray) hz hTI hTO ⟨h1, p.isList⟩ ⟨h2, p2⟩ (by rw [List.size_toArray]; omega) (by rw [List.size_toArray]; omega) fun x1 x2 h' tk e1 e2 z' TO' h1' h2' hT hsz hk => ?_)
      refine rest x1 x2 h' tk false (by simpa using e1) (by simpa using e2) ⟨_, false, _, z', hT, rfl⟩ (hk _ _ D.TIz D.TITO D.TIi1 D.TIi2 hTI) ⟨_, _, TO'⟩ h1'.1 h2'.1 hT fun c o hc q => hk c o (fun e => hc (by simp [e])) (fun e => hc (by simp [e])) (fun e => hc (by simp [e])) (fun e => hc (by simp [e])) q
    · refine wpAny_bind (nextH_item (i := i) D (Draws.list (A := A.in1.in1) hh i1 a na its.toArray) (Draws.tuple (A := A.in1.in1) hh i2 b nb its2.toArray) hz hT hTI ⟨h1, p.isList⟩ ⟨h2, p2⟩ (by rw [List.size_toArray]; omega) (by rw [List.size_toArray]; omega) fun x1 x2 h' tk e1 e2 z' h1' h2' hT' hsz hk => ?_)
      have hk' : ∀ c o, c ∉ [z, i1, i2] → s.heap.get? c = some o → h'.get? c = some o := fun c o hc q => hk c o (fun e => hc (by simp [e])) (fun e => hc (by simp [e])) (fun e => hc (by simp [e])) q
      have hTn : T ∉ [z, i1, i2] := fun hm => by
        have e' : T = z ∨ T = i1 ∨ T = i2 := by simpa using hm
        rcases e' with q | q | q
        · rw [q, hz] at hT
          cases hT
          exact absurd hTc (by show ¬ (Value.type "zip" = Value.type "tuple"); decide)
        · obtain ⟨o, e, c, _⟩ := h1
          rw [q, e] at hT
          cases hT
          rw [hTc] at c
          exact absurd c (by decide)
        · obtain ⟨o, e, c, _⟩ := h2
          rw [q, e] at hT
          cases hT
          rw [hTc] at c
          exact absurd c (by decide)
      exact rest x1 x2 h' tk f (by simpa using e1) (by simpa using e2) ⟨T, true, oT, z', hk' _ _ hTn hT, hTc⟩ (hk _ _ D.TIz D.TIi1 D.TIi2 hTI) ⟨_, _, hk _ _ D.TOz D.Ti1 D.Ti2 hTO⟩ h1'.1 h2'.1 hT' fun c o hc q => hk c o (fun e => hc (by simp [e])) (fun e => hc (by simp [e])) (fun e => hc (by simp [e])) q
theorem call_list_zip {s : Shared} {Q E : Value → Shared → Prop} (hh : A.handled = none) (I : Inv X pins σ H1 s) (D : ZipSep2 z TI TO i1 i2 [i1, a] [i2, b]) (hqx : SqL X.K H1 a xs) (hqy : SqT X.K H1 b ys) (hl : xs.length = ys.length)
    (hf : ∀ c ∈ [z, TI, TO, i1, i2], FpOk X pins H1 c) (hz : IsZip s.heap z TI TO .none) (hTI : IsTupOf2 s.heap TI (.ref i1) (.ref i2)) (hTO : ∃ x y, IsTupOf2 s.heap TO x y) (h1 : s.heap.IsListIter i1 a 0) (h2 : s.heap.IsTupleIter i2 b 0)
    (q : ∀ s' H' l ps, Inv X pins σ H' s' → H1 l = none → H' l = some (.lst (ps.map V.ref)) → ps.length = xs.length → ZI xs ys ps H' → Same H1 H' → Q (.ref l) s') :
    wpAny (model X.prog X.w) A (call (.type "list") [.ref z]) Q E s := by
  have hn : H1 s.heap.objs.size = none := I.fresh
  refine callType_codes (Q₁ := fun obj s₁ => obj = .ref s.heap.objs.size ∧ s₁ = { s with heap := s.heap.push { cls := .type "list", data := .seq #[] } }) F.called_list (F.typeCall_list_1 _) F.entry_list_init
    (code_list_new _ ⟨rfl, rfl⟩) fun obj s₁ h₁ => ?_
  obtain ⟨rfl, rfl⟩ := h₁
  have hS : (s.heap.push { cls := .type "list", data := .seq #[] }).get? s.heap.objs.size = some { cls := .type "list", data := .seq #[] } := Heap.get?_push_size _ rfl
  refine ⟨⟨_, hS, rfl⟩, F.args_list_init_2 _ _, ?_⟩
  show wpAny _ A.in1.in1 (do let old ← Builtin.List.listItems (.ref s.heap.objs.size); Builtin.List.listUpdate (.ref s.heap.objs.size) (fun _ => #[]); letGo old.toList.reverse; Builtin.List.listExtendWith (.ref s.heap.objs.size) (.ref z) .none) _ _ _
  refine wpAny_bind ?_
  unfold Builtin.List.listItems
  refine wpAny_bind (wpAny_seqItems hS rfl (wpAny_pure ?_))
  show wpAny _ A.in1.in1 (updateSeq s.heap.objs.size (fun _ => #[]) >>= fun _ => letGo (#[] : Array Value).toList.reverse >>= fun _ => Builtin.List.listExtendWith (.ref s.heap.objs.size) (.ref z) .none) _ _ _
  refine wpAny_bind (wpAny_updateSeq hS rfl ?_)
  have hS₂ := Heap.get?_update_self (Obj.mapSeq (fun _ => (#[] : Array Value))) hS rfl
  have k1 : ∀ b o, s.heap.get? b = some o → (s.heap.push { cls := .type "list", data := .seq #[] }).get? b = some o := fun b o e => Heap.get?_push_of_some _ e
  have up : ∀ (h : Heap) (f : Obj → Obj), (∀ b o, s.heap.get? b = some o → h.get? b = some o) → ∀ b o, s.heap.get? b = some o → (h.update s.heap.objs.size f).get? b = some o := fun h f q b o e =>
    (Heap.get?_update_other _ _ (Ne.symm (Nat.ne_of_lt (Heap.lt_size e)))).trans (q b o e)
  have k2 := up _ (Obj.mapSeq (fun _ => (#[] : Array Value))) k1
  refine wpAny_bind (wpAny_letGo ?_)
  unfold Builtin.List.listExtendWith
  have hzl : z < s.heap.objs.size := Heap.lt_size hz
  refine wpAny_bind (wpAny_typeOf (s := { s with heap := _ }) (⟨_, k2 _ _ hz, rfl⟩ : Shared.TypeIs { s with heap := _ } (.ref z) "zip") ?_)
  have g1 : Builtin.List.listSameRef (.ref s.heap.objs.size) (.ref z) = false := by simp [Builtin.List.listSameRef, Nat.ne_of_gt hzl]
  have g2 : (Value.type "zip" == Value.type "list") = false := by decide
  have g3 : (Value.type "zip" == Value.type "tuple") = false := by decide
  simp only [g1, g2, g3, Bool.or_false, Bool.false_eq_true, if_false]
  refine wpAny_bind (wpAny_pyIter_zip (s := { s with heap := _ }) (k2 _ _ hz) ?_)
  refine wpAny_bind (wpAny_holding ?_)
  unfold Builtin.List.listLengthHint
  refine wpAny_bind (wpAny_specialOf (s := { s with heap := _ }) (⟨_, k2 _ _ hz, rfl⟩ : Shared.TypeIs { s with heap := _ } (.ref z) "zip") zip_no_len ?_)
  show wpAny _ A.in1.in1 (specialOf (Value.ref z) (Str.ofString "__length_hint__") >>= _) _ _ _
  refine wpAny_bind (wpAny_specialOf (s := { s with heap := _ }) (⟨_, k2 _ _ hz, rfl⟩ : Shared.TypeIs { s with heap := _ } (.ref z) "zip") zip_no_hint ?_)
  refine wpAny_pure ?_
  show wpAny _ A.in1.in1 (rule "list.extend.makes-room" >>= fun _ => Builtin.List.listTouch (.ref s.heap.objs.size) >>= fun _ =>
    again (.builtin "list.extend.loop" ⟨[.ref s.heap.objs.size, .ref z, .none], []⟩)) _ _ _
  refine wpAny_bind (wpAny_rule ?_)
  refine wpAny_bind ?_
  show wpAny _ A.in1.in1 (updateSeq s.heap.objs.size (·.push .none) >>= fun _ => updateSeq s.heap.objs.size (·.pop)) _ _ _
  refine wpAny_bind (wpAny_updateSeq hS₂ rfl ?_)
  have hS₃ := Heap.get?_update_self (Obj.mapSeq (·.push Value.none)) hS₂ rfl
  refine wpAny_updateSeq hS₃ rfl ?_
  have hS₄ := Heap.get?_update_self (Obj.mapSeq (·.pop)) hS₃ rfl
  have k4 := up _ (Obj.mapSeq (·.pop)) (up _ (Obj.mapSeq (·.push Value.none)) k2)
  have I4 := I.laid (a := s.heap.objs.size) (o := .lst []) (t' := s.toks) k4 (Nat.le_refl _) (show ObjOk X.prog X.w _ _ _ (.lst []) from ⟨Nat.zero_le _, [], _, .nil, hS₄⟩)
  refine wpAny_pure ⟨plainId_quiet F.plain_extend_loop _, zip_loop (A := A.in1) hh D hqx hqy hl hn xs.length 0 _ _ [] rfl (Nat.zero_le _) I4 (fun c hc => ⟨?_, (hf c hc).2⟩) upd_same rfl (fun j p h => by simp at h) (fun c o e => ?_) ⟨.inl ⟨rfl, k4 _ _ hz⟩, k4 _ _ hTI, ?_, h1.at fun o e => k4 _ _ e, h2.at fun o e => k4 _ _ e⟩ fun s' H' ps I' hS' hp hZ hsm => ⟨rfl, q s' H' _ ps I' hn hS' hp hZ hsm⟩⟩
  · have hcl : ∃ o, s.heap.get? c = some o := by
      have e' : c = z ∨ c = TI ∨ c = TO ∨ c = i1 ∨ c = i2 := by simpa using hc
      rcases e' with q | q | q | q | q
      · rw [q]; exact ⟨_, hz⟩
      · rw [q]; exact ⟨_, hTI⟩
      · rw [q]; obtain ⟨_, _, e⟩ := hTO; exact ⟨_, e⟩
      · rw [q]; obtain ⟨_, e1, _⟩ := h1; exact ⟨_, e1⟩
      · rw [q]; obtain ⟨_, e2, _⟩ := h2; exact ⟨_, e2⟩
    obtain ⟨o, e⟩ := hcl
    rw [upd_ne (Nat.ne_of_lt (Heap.lt_size e))]
    exact (hf c hc).1
  · rw [upd_ne (ne_of_none e hn)]
    exact e
  · obtain ⟨x, y, e⟩ := hTO
    exact ⟨x, y, k4 _ _ e⟩
/-- list(zip(l, t)), a list and a tuple of one length -/
def tListZip (K : PySem.W.Frag) (ta : TA) : TE := fun σ H Q => ta σ H fun vs H1 => ∃ a b xs ys, vs = [.ref a, .ref b] ∧ SqL K H1 a xs ∧ SqT K H1 b ys ∧ xs.length = ys.length ∧
  ∀ H' l ps, H1 l = none → H' l = some (.lst (ps.map V.ref)) → ps.length = xs.length → ZI xs ys ps H' → Same H1 H' → Q (.ref l) H'
theorem pe_listZip {X : Cx} {e e2 : Expr} {ta : TA} {p pos p2 pos2 : Pos} (hc : X.calm = true) (hg : Gl X "list") (hm : X.mg "list" = none) (hg2 : Gl X "zip") (hm2 : X.mg "zip" = none) (ha : PA X [e, e2] ta)
    (he : starEach [Expr.Call (.Name "zip" p2) [e, e2] [] pos2] X.env = (false, eval (Expr.Call (.Name "zip" p2) [e, e2] [] pos2) X.env) :: starEach [] X.env := by rfl) (hpl0 : (backTo pos (starEach [] X.env)).any (·.1) = false := by rfl)
    (hs : starEach [e, e2] X.env = (false, eval e X.env) :: starEach [e2] X.env := by rfl) (hpl : (backTo pos2 (starEach [e2] X.env)).any (·.1) = false := by rfl) :
    PE X (.Call (.Name "list" p) [.Call (.Name "zip" p2) [e, e2] [] pos2] [] pos) (tListZip X.K ta) := by
  refine ⟨fun pins s σ H Q I h => ?_⟩
  refine wpAny_Call_Name_kw (ld_blt I hg hm PyProof.Rows.boot_list (PyProof.Rows.callWith_type1 ?_ he hpl0) (by decide) (by decide))
  rw [he]
  show wpAny _ _ (spliced ((false, eval (Expr.Call (.Name "zip" p2) [e, e2] [] pos2) X.env) :: backTo pos (starEach [] X.env))) _ _ s
  refine Calls.spliced_cons ?_
  refine Call_ (ld_blt I hg2 hm2 PyProof.Rows.boot_zip (PyProof.Rows.callWith_type1 (thn (ha.run pos2 pins s σ H _ I h) fun us s1 ⟨vs, H1, I1, r1, q1⟩ => ?_) hs hpl))
  obtain ⟨a, b, xs, ys, ex, hqx, hqy, hl, q⟩ := q1
  subst ex
  cases r1 with
  | cons r rr =>
    cases rr with
    | cons r' rr =>
      cases rr
      cases r
      cases r'
      have fresh5 : ∀ c, c ∈ [s1.heap.objs.size + 4, s1.heap.objs.size + 2, s1.heap.objs.size + 3, s1.heap.objs.size, s1.heap.objs.size + 1] → FpOk X pins H1 c := fun c hcm => by
        have e' : c = s1.heap.objs.size + 4 ∨ c = s1.heap.objs.size + 2 ∨ c = s1.heap.objs.size + 3 ∨ c = s1.heap.objs.size ∨ c = s1.heap.objs.size + 1 := by simpa using hcm
        have hle : s1.heap.objs.size ≤ c := by
          rcases e' with z | z | z | z | z
          · rw [z]; exact Nat.le_add_right _ _
          · rw [z]; exact Nat.le_add_right _ _
          · rw [z]; exact Nat.le_add_right _ _
          · rw [z]; exact Nat.le_refl _
          · rw [z]; exact Nat.le_add_right _ _
        exact I1.fpOk hle (I1.hok.fresh hle)
      obtain ⟨its, rv, p1, _⟩ := I1.list hqx
      obtain ⟨its2, rv2, p2, _⟩ := I1.tuple hqy
      obtain ⟨o2, ho2, _⟩ := id p2
      refine zip_begins2 (begins_list a its.toArray) (begins_tuple b its2.toArray) p1.isList p2 fun h' hz hTI hTO h1 h2 hsz hk => ?_
      have I2 : Inv X pins σ H1 { s1 with heap := h' } := I1.kept (t' := s1.toks) hk
      refine Calls.spliced_nil ?_
      refine call_list_zip (I1.ok.hd hc) I2 (zapart p1.lt (Heap.lt_size ho2)) hqx hqy hl fresh5 hz hTI ⟨_, _, hTO⟩ ⟨_, h1, rfl, rfl⟩ ⟨_, h2, rfl, rfl⟩ fun s' H' l ps I' hn hl' hp hZ hsm => ⟨.ref l, H', I', rfl, q H' l ps hn hl' hp hZ hsm⟩
end
end L2.K13
set_option Elab.async false
set_option linter.all false
set_option maxRecDepth 100000
set_option maxHeartbeats 4000000
set_option pp.maxSteps 150
namespace L2.K13
open PySem PySem.Spec PyProof.Rows L2
open C8 (Cal Met Mak pe_c pe_mt pe_mt0 pe_mk)
local macro_rules | `(tactic| walk_at "hp") => `(tactic| first | assumption | exact upd_same | (refine upd_keep ?_ (by assumption); walk_at "hp") | (refine upd_off ?_ (by assumption) (by intro z; cases z); walk_at "hp"))
local macro_rules | `(tactic| walk_at "seq") => `(tactic| first | assumption | exact SqT.of (by walk_at "hp") | exact SqL.of (by walk_at "hp"))
section
/-- all that is new is held -/
def hold (H0 H H' : Hp) : Hp := fun b => match H b with
  | none => H' b
  | some _ => H0 b
theorem hold_new {H0 H H' : Hp} {b : Addr} (h : H b = none) : hold H0 H H' b = H' b := by unfold hold; rw [h]
theorem hold_old {H0 H H' : Hp} {b : Addr} {o : HO} (h : H b = some o) : hold H0 H H' b = H0 b := by unfold hold; rw [h]
variable {K : PySem.W.Frag} {H0 H H' : Hp} {a : Addr} {s : KS}
theorem hold_same (x : Same H0 H) : Same H0 (hold H0 H H') := fun b o h => by rw [hold_old (x b o h)]; exact h
theorem Ker.holdAll (k : Ker K H0 H a s) (x : Same H H') : Ker K (hold H0 H H') H' a s := by
  have e := k.ext x
  refine ⟨fun b o h => ?_, by rw [hold_old k.ha]; exact k.a0, e.ha, by rw [hold_old k.hl]; exact k.l0, e.hl, fun t ht => ⟨by rw [hold_old (k.r0 t ht).2]; exact (k.r0 t ht).1, (e.r0 t ht).2⟩, k.nd, e.su, k.b0, k.b1, k.top, k.len, k.mok⟩
  cases hb : H b with
  | none => rw [hold_new hb] at h; exact h
  | some o' =>
    rw [hold_old hb] at h
    exact x b o (k.same b o h)
end
section
variable {P : Program} {w : World} {K : PySem.W.Frag} {mg : Str → Option Value} {base : Heap}
theorem PicR.same {H H' : Hp} {a : Addr} {pic : Pic} (h : PicR K H a pic) (x : Same H H') : PicR K H' a pic := h.ext (LamX.ExtN.of x)
def spMarkedK (K : PySem.W.Frag) : Sp := fun vs H Q _ => ∃ (H0 : Hp) (a : Addr) (s : KS) (b : Addr) (pic : Pic) (count : Int), vs = [.ref a, .ref b, .int count] ∧ Ker K H0 H a s ∧ PicR K H0 b pic ∧
  ∀ H' r rs, Ker K H0 H' a { s with rows := rs } → rs.length = s.rows.length → Q (.ref r) H'
theorem ok_markedK (T : Fx K mg) (F : DF K mg "_law_marked" s_marked ["_law_kernel_here", "_law_thing_so", "_law_count_so"]) (c_named : Cal P w K mg base 2 "_law_named" (spNamedK K) []) : Cal P w K mg base 3 "_law_marked" (spMarkedK K) [] := by
  refine F.cal sc_marked (fun vs H Q E h => ?_) (fun f cdv A outer s H vs Q E hr h => ?_)
  · obtain ⟨_, _, _, _, _, _, rfl, _⟩ := h
    rfl
  obtain ⟨H0, a, s, b, pic, count, rfl, S, hP0, k⟩ := h
  have nd := sc_marked.nd
  have hu := hu_of hr
  have hP := hP0.same S.same
  refine ⟨_, (pss_cons (ps_asg (pe_c c_named hr (by first | decide | omega) (by rfl) (pa_cons (pv 0) (pa_cons (pv 1) (pa_cons (pv 2) pa_nil)))) (pg_tup rfl (pgs_cons (pg_name (i := 3) nd rfl (by first | exact .inl rfl | exact .inr rfl)) (pgs_cons (pg_name (i := 4) nd rfl (by first | exact .inl rfl | exact .inr rfl)) pgs_nil))))
  (pss_cons (ps_for PassesOwn.never rfl (pi_list (pe_dget hu (pv 0) pe_str (fun _ _ => rfl))) (pg_name (i := 5) nd rfl (by first | exact .inl rfl | exact .inr rfl)) (pss_one (ps_asg (pe_ifExp (pt_cmpR op_in_seq (pe_ix ix_list (pv 5) pe_int (fun _ _ => rfl)) (pv 3) (by with_unfolding_all rfl)) pe_str (pe_ifExp (pt_cmpR op_in_seq (pe_ix ix_list (pv 5) pe_int (fun _ _ => rfl)) (pv 4) (by with_unfolding_all rfl)) pe_str pe_str)) (pg_sub (pv 5) pe_int set_list))))
  (pss_cons (ps_set (i := 6) nd rfl (Or.inl rfl) (pe_op op_cat (pe_listZip rfl (by rfl) T.n_list (by rfl) T.n_zip (pa_cons (pv 4) (pa_cons (pe_ix ix_tup (pv 1) pe_int (fun _ _ => rfl)) pa_nil))) (pe_listZip rfl (by rfl) T.n_list (by rfl) T.n_zip (pa_cons (pv 3) (pa_cons (pe_ix ix_tup (pv 1) pe_int (fun _ _ => rfl)) pa_nil)))))
  (pss_one (ps_ret (pe_callTy call_tuple_of (by rfl) T.n_tuple boot_tuple (pa_cons (pe_lc (own := [("_law_place_so", 7), ("_law_name_so", 8)]) (g := (gTup K 2 (gCons (gName 7) (gCons (gName 8) gNil)))) (tt := (tB (tOp (rIxT K) (tVar 8) (tUn _ _)))) (te := (tVar 7)) rfl nd (pi_list (pv 6)) (blkOk_by (N := ["_law_kernel_here", "_law_thing_so", "_law_count_so", "_law_longs", "_law_shorts", "_law_row", "_law_pairs_so", "_law_place_so", "_law_name_so"]) (sc := defScope s_marked) (by decide +kernel)) (fun _ _ _ _ _ => (pg_tup rfl (pgs_cons (pg_name (i := 7) nd rfl (by first | exact .inl rfl | exact .inr rfl)) (pgs_cons (pg_name (i := 8) nd rfl (by first | exact .inl rfl | exact .inr rfl)) pgs_nil)))) (fun _ _ _ _ _ => (pts_one (pt_val (pe_ix ix_tup (pv 8) (pe_un un_neg pe_int) (fun _ _ => rfl))))) (fun _ _ _ _ _ => (pv 7))) pa_nil))))))), ?_⟩
  refine ⟨_, rfl, _, rfl, _, rfl, H0, a, s, b, pic, count, rfl, S, hP, fun H1 r L Sh los shs x1 hr1 hL hS e1 e2 nL nS nLS => ⟨r, _, rfl, SqT.of hr1, rfl, _, _, rfl, _, _, rfl, rfl, ?_⟩⟩
  have S1 := S.holdAll x1
  have gL : hold H0 H H1 L = some (.lst (los.map wv)) := by rw [hold_new nL]; exact hL
  have gS : hold H0 H H1 Sh = some (.lst (shs.map wv)) := by rw [hold_new nS]; exact hS
  have hP1 : PicR K (hold H0 H H1) b pic := hP0.same (hold_same S.same)
  have x0 : Same H0 (hold H0 H H1) := hold_same S.same
  generalize hold H0 H H1 = G at S1 gL gS hP1 x0
  refine ⟨_, rfl, a, _, rfl, S1.gRows, s.l, rfl, ⟨_, SqL.of S1.hl⟩, ?_⟩
  refine for_list (K := K) (a := s.l) (xs := rrf s.rows) (fun i σ H' => ∃ (v5 : Option V) (rs : List RwK), σ = [some (.ref a), some (.ref b), some (.int count), some (.ref L), some (.ref Sh), v5, none, none, none] ∧ Ker K G H' a { s with rows := rs } ∧ rs.map RwK.r = s.rows.map RwK.r) ⟨none, s.rows, rfl, S1, rfl⟩ (fun i σ H' _ ⟨_, rs, _, S', e⟩ => ?_) ?_ ?_
  · have h := S'.hl
    have e' : rrf rs = rrf s.rows := by
      have := congrArg (List.map V.ref) e
      rw [List.map_map, List.map_map] at this
      exact this
    exact SqL.of (by rw [show H' s.l = some (.lst (rrf rs)) from h, e'])
  · rintro i y σ H2 hy ⟨v5, rs, rfl, S2, er⟩
    rw [List.getElem?_map] at hy
    obtain ⟨t, ht, rfl⟩ := Option.map_eq_some_iff.mp hy
    have hm : t.r ∈ rs.map RwK.r := by
      rw [er]
      exact List.mem_map.mpr ⟨t, mem_at ht, rfl⟩
    obtain ⟨u, hu', eu⟩ := List.mem_map.mp hm
    rw [← eu]
    have hru := (S2.r0 u hu').2
    refine gn_cut ?_
    dsimp only
    change tIf _ _ _ _ _ _
    refine if_cut (fun v H3 => ∃ m : Str, v = .str m ∧ m ∈ mks ∧ H3 = H2) ?_ fun key => ?_
    · rintro v H3 ⟨m, rfl, hm, rfl⟩
      refine ⟨_, rfl, u.r, _, 2, 2, rfl, rfl, hru, rfl, ?_⟩
      refine ⟨_, _, rfl, S2.mod (t := u) (f := fun x => { x with m := m }) hu' (fun _ => rfl) hm, ?_⟩
      exact (modR_r (r := u.r) (f := fun x => { x with m := m }) (fun _ => rfl) rs).trans er
    · refine ⟨_, rfl, u.r, _, 1, _, rfl, rfl, SqL.of hru, rfl, _, rfl, L, _, rfl, .inl (SqL.of (S2.same _ _ gL)), rfl, flat_wv los, _, rfl, ?_⟩
      refine ite2 (fun hc => ?_) (fun hc => ?_)
      · exact key _ _ ⟨"long", rfl, by decide +kernel, rfl⟩
      · refine ⟨_, rfl, u.r, _, 1, _, rfl, rfl, SqL.of hru, rfl, _, rfl, Sh, _, rfl, .inl (SqL.of (S2.same _ _ gS)), rfl, flat_wv shs, _, rfl, ?_⟩
        refine ite2 (fun hc => ?_) (fun hc => ?_)
        · exact key _ _ ⟨"short", rfl, by decide +kernel, rfl⟩
        · exact key _ _ ⟨"", rfl, by decide +kernel, rfl⟩
  · rintro σ H2 ⟨v5, rs, rfl, S2, er⟩
    have hlen : rs.length = s.rows.length := by
      have := congrArg List.length er
      rwa [List.length_map, List.length_map] at this
    obtain ⟨ps, pl, vs, ws, g1, g2, g3, g4, g5, g6, g7⟩ := hP1.same S2.same
    refine ⟨_, rfl, _, rfl, b, _, 5, _, rfl, rfl, g1, rfl, Sh, ps, shs.map wv, vs, rfl, SqL.of (S2.same _ _ gS), g2, by rw [List.length_map, e2, g4.1], fun H3 l3 p3 hn3 hl3 hp3 hz3 x3 => ?_⟩
    have tup : ∀ {H' : Hp} {y : Addr} {xs : List V}, Same H2 H' → SqT K H2 y xs → SqT K H' y xs := fun x h => SqT.extN h (LamX.ExtN.of x)
    refine ⟨_, rfl, _, rfl, b, _, 6, _, rfl, rfl, tup x3 g1, rfl, L, pl, los.map wv, ws, rfl, SqL.of (x3 _ _ (S2.same _ _ gL)), tup x3 g3, by rw [List.length_map, e1, g5.1], fun H4 l4 p4 hn4 hl4 hp4 hz4 x4 => ?_⟩
    have x24 : Same H2 H4 := fun y o h => x4 y o (x3 y o h)
    have hl1 : p3.length ≤ 100 := by rw [hp3, List.length_map, e2]; exact g6
    have hl2 : p4.length ≤ 100 := by rw [hp4, List.length_map, e1]; exact g7
    refine ⟨l3, l4, _, _, rfl, rfl, x4 _ _ hl3, hl4, by rw [List.length_map, List.length_map]; exact Nat.le_trans (Nat.add_le_add hl1 hl2) (by decide), fun q hq => ?_⟩
    have x5 : Same H2 (upd H4 q (.lst (p3.map V.ref ++ p4.map V.ref))) := fun y o h => upd_keep (x24 y o h) hq
    have each : ∀ (j : Nat) (v : V), (p3.map V.ref ++ p4.map V.ref)[j]? = some v → ∃ p x y zs bb, v = .ref p ∧ H4 p = some (.tup [x, .ref y]) ∧ SqT K H2 y zs ∧ atI zs (-1) = some (.bl bb) := by
      intro j v hv
      rcases List.mem_append.mp (List.mem_of_getElem? hv) with hv | hv
      · obtain ⟨p, hp, rfl⟩ := List.mem_map.mp hv
        obtain ⟨i, hi⟩ := List.mem_iff_getElem?.mp hp
        obtain ⟨x, y, h1, h2, h3⟩ := hz3 i p hi
        obtain ⟨n, hn, p', rfl, hp'⟩ := g4.get h2
        exact ⟨p, x, p', _, n.2, rfl, x4 _ _ h3, hp', rfl⟩
      · obtain ⟨p, hp, rfl⟩ := List.mem_map.mp hv
        obtain ⟨i, hi⟩ := List.mem_iff_getElem?.mp hp
        obtain ⟨x, y, h1, h2, h3⟩ := hz4 i p hi
        obtain ⟨n, hn, p', rfl, hp'⟩ := g5.get h2
        exact ⟨p, x, p', _, n.2.2, rfl, h3, hp', rfl⟩
    have hql : (p3.map V.ref ++ p4.map V.ref).length ≤ 200 := by
      rw [List.length_append, List.length_map, List.length_map]
      exact Nat.add_le_add hl1 hl2
    generalize (p3.map V.ref ++ p4.map V.ref) = us at each hql x5
    refine ⟨_, rfl, q, rfl, ⟨_, SqL.of upd_same⟩, fun D hD => ?_⟩
    have x6 : Same H4 (upd H4 q (.lst us)) := upd0 hq
    refine lc_list (K := K) (a := q) (xs := us) (fun i H' => ∃ acc : List V, H' D = some (.lst acc) ∧ acc.length ≤ i ∧ Same (upd H4 q (.lst us)) H') ⟨[], upd_same, Nat.le_refl _, upd0 hD⟩ (fun i H' _ ⟨_, _, _, x'⟩ => SqL.of (x' _ _ upd_same)) (fun i v H5 hv ⟨acc, h5, hl5, x7⟩ => ?_) fun H5 ⟨acc, h5, hl5, x7⟩ => ?_
    · obtain ⟨p, x, y, zs, bb, rfl, hp, hy, hb⟩ := each i v hv
      have hi := (List.getElem?_eq_some_iff.mp hv).1
      have x8 : Same H2 H5 := fun y o h => x7 y o (x5 y o h)
      refine ⟨p, _, rfl, SqT.of (x7 _ _ (x6 _ _ hp)), rfl, _, _, rfl, _, _, rfl, rfl, rfl, _, rfl, _, rfl, y, _, -1, _, rfl, rfl, tup x8 hy, hb, _, rfl, ite2 (fun hc => ?_) (fun hc => ?_)⟩
      · exact ⟨_, rfl, acc, h5, Nat.lt_of_le_of_lt (show acc.length ≤ 200 by omega) (by decide), acc ++ [x], upd_same, by rw [List.length_append]; exact Nat.succ_le_succ hl5, same_put x7 hD⟩
      · exact ⟨acc, h5, Nat.le_succ_of_le hl5, x7⟩
    · refine ⟨D, acc, rfl, .inl ⟨SqL.of h5, fun t ht => ?_⟩⟩
      refine k _ t rs ((S2.ext (H' := upd H5 t (.tup acc)) fun y o h => upd_keep (x7 y o (x5 y o h)) ht).drop x0) hlen
end

end L2.K13
set_option Elab.async false
set_option linter.all false
set_option maxRecDepth 100000
set_option maxHeartbeats 4000000
set_option pp.maxSteps 150
namespace L2.K13
open PySem PySem.Spec PyProof.Rows L2
open C8 (Cal Met Mak pe_c pe_mt pe_mt0 pe_mk)
local macro_rules | `(tactic| walk_at "hp") => `(tactic| first | assumption | exact upd_same | (refine upd_keep ?_ (by assumption); walk_at "hp") | (refine upd_off ?_ (by assumption) (by intro z; cases z); walk_at "hp"))
local macro_rules | `(tactic| walk_at "seq") => `(tactic| first | assumption | exact SqT.of (by walk_at "hp") | exact SqL.of (by walk_at "hp"))
section
def ThAt (K : PySem.W.Frag) (H : Hp) (b : Addr) : Option Pic → Prop
  | none => SqT K H b [.str "end"]
  | some p => PicR K H b p
def LowOk (span : Nat) : Option Pic → Prop
  | none => True
  | some p => 0 ≤ p.low ∧ p.low < span
end
section
variable {P : Program} {w : World} {K : PySem.W.Frag} {mg : Str → Option Value} {base : Heap}
def spTookK (K : PySem.W.Frag) : Sp := fun vs H Q _ => ∃ (H0 : Hp) (a : Addr) (s : KS) (b : Addr) (th : Option Pic) (place : Int), vs = [.ref a, .int place, .ref b] ∧ Ker K H0 H a s ∧ ThAt K H0 b th ∧ ThingOk th ∧ LowOk (2 ^ s.bits) th ∧ (s.en = true ∨ s.bv.isSome = true) ∧ s.rows.length < 80 ∧
  ∀ H' v s', Ker K H0 H' a s' → s'.bits = s.bits → s'.rows.length ≤ s.rows.length + 1 → (s'.en = true ∨ s'.bv.isSome = true) → (v = .non ∨ ∃ r c x y p, v = .ref r ∧ H' r = some (.tup [.int place, .int c, x, y]) ∧ th = some p) → Q v H'
theorem ok_tookK (T : Fx K mg) (F : DF K mg "_law_took" s_took ["_law_kernel_here", "_law_place_so", "_law_thing_so"]) (c_cleared : Cal P w K mg base 2 "_law_cleared" (spClearK K) []) (c_near : Cal P w K mg base 1 "_law_near" (spNearK K) []) (c_span : Cal P w K mg base 1 "_law_span" (spSpan K) [])
    (c_marked : Cal P w K mg base 3 "_law_marked" (spMarkedK K) []) (c_roomed : Cal P w K mg base 2 "_law_roomed" (spRoomK K) []) (c_waiting : Cal P w K mg base 1 "_law_waiting" (spWaitK K) []) (c_presses : Cal P w K mg base 1 "_law_presses" (spPressK K) [])
    (c_first : Cal P w K mg base 1 "_law_first" (spFirstK K) []) (c_show : Cal P w K mg base 1 "_law_show" (spShowK K) []) : Cal P w K mg base 4 "_law_took" (spTookK K) [] := by
  refine F.cal sc_took (fun vs H Q E h => ?_) (fun f cdv A outer s H vs Q E hr h => ?_)
  · obtain ⟨_, _, _, _, _, _, rfl, _⟩ := h
    rfl
  obtain ⟨H0, a, s, b, th, place, rfl, S, hth, ok, hlow, hbe, hrl, k⟩ := h
  have nd := sc_took.nd
  have hu := hu_of hr
  refine ⟨_, (pss_cons (ps_if (pt_cmpR op_eq (pe_callB call_len_seq (by rfl) T.n_len PySem.boot_len (pa_cons (pv 2) pa_nil)) pe_int (nomark _)) (pss_cons (ps_dput hu (pv 0) pe_str pe_bl rfl)
      (pss_one (ps_ret pe_non))) pss_nil)
  (pss_cons (ps_par (i := 3) (j := 4) rfl nd rfl rfl (by decide) rfl rfl (pa_cons (pe_ix ix_tup (pv 2) pe_int (fun _ _ => rfl)) (pa_cons (pe_cmpR op_in_seq (pe_ix ix_tup (pv 2) pe_int (fun _ _ => rfl)) (pe_tup (pa_cons pe_str (pa_cons pe_str pa_nil))) (by with_unfolding_all rfl)) pa_nil)) rfl)
  (pss_cons (ps_set (i := 5) nd rfl (Or.inl rfl) (pe_and (pe_not (pv 4)) (pe_one (pe_or (pe_dget hu (pv 0) pe_str (fun _ _ => rfl)) (pe_one (pe_and (pe_cmpR op_eq (pv 3) pe_str (nomark _)) (pe_one (pe_dget hu (pv 0) pe_str (fun _ _ => rfl)))))))))
  (pss_cons (ps_if (PW.pt (pw_or (pt_cmpR op_gt (pe_ix ix_tup (pv 2) pe_int (fun _ _ => rfl)) (pe_dget hu (pv 0) pe_str (fun _ _ => rfl)) (nomark _)) (pw_or1 (pt_val (pv 5))))) (pss_one (ps_ret pe_non)) pss_nil)
  (pss_cons (ps_if (pt_val (pv 4)) (pss_one (ps_asg (pe_tup (pa_cons (pe_or (pe_cmpR op_eq (pv 3) pe_str (nomark _)) (pe_one (pe_dget hu (pv 0) pe_str (fun _ _ => rfl)))) (pa_cons pe_bl pa_nil))) (pg_tup rfl (pgs_cons (pg_sub (pv 0) pe_str (set_dict hu)) (pgs_cons (pg_sub (pv 0) pe_str (set_dict hu)) pgs_nil))))) pss_nil)
  (pss_cons (ps_if (PW.pt (pw_and (pt_val (pv 4)) (pw_and1 (pt_val (pe_dget hu (pv 0) pe_str (fun _ _ => rfl)))))) (pss_one (ps_par3 (i := 6) (j := 7) (l := 8) rfl nd rfl rfl rfl (by decide) (by decide) (by decide) rfl rfl rfl (pa_cons (pe_ix ix_tup (pv 2) pe_int (fun _ _ => rfl)) (pa_cons (pe_tup pa_nil) (pa_cons (pe_c c_cleared hr (by first | decide | omega) (by rfl) (pa_cons (pv 0) (pa_cons (pe_ix ix_tup (pv 2) pe_int (fun _ _ => rfl)) pa_nil))) pa_nil))) rfl)) (pss_cons (ps_set (i := 6) nd rfl (Or.inl rfl) (pe_c c_near hr (by first | decide | omega) (by rfl) (pa_cons (pe_c c_span hr (by first | decide | omega) (by rfl) (pa_cons (pe_dget hu (pv 0) pe_str (fun _ _ => rfl)) pa_nil)) (pa_cons (pe_ix ix_tup (pv 2) pe_int (fun _ _ => rfl)) (pa_cons (pe_dget hu (pv 0) pe_str (fun _ _ => rfl)) pa_nil)))))
      (pss_cons (ps_set (i := 7) nd rfl (Or.inl rfl) (pe_c c_marked hr (by first | decide | omega) (by rfl) (pa_cons (pv 0) (pa_cons (pv 2) (pa_cons (pv 6) pa_nil)))))
      (pss_one (ps_set (i := 8) nd rfl (Or.inl rfl) (pe_c c_roomed hr (by first | decide | omega) (by rfl) (pa_cons (pv 0) pa_nil)))))))
  (pss_cons (ps_for PassesOwn.never rfl (pi_list (pe_c c_waiting hr (by first | decide | omega) (by rfl) (pa_cons (pv 0) pa_nil))) (pg_name (i := 9) nd rfl (by first | exact .inl rfl | exact .inr rfl)) (pss_one (ps_asg (pe_op op_add (pe_ix ix_list (pv 9) pe_int (fun _ _ => rfl)) (pe_callTy call_int1 (by rfl) T.n_int boot_int (pa_cons (pe_and (pe_ix ix_tup (pv 2) pe_int (fun _ _ => rfl)) (pe_one (pe_cmpR op_gt (pe_ix ix_list (pv 9) pe_int (fun _ _ => rfl)) (pv 6) (nomark _)))) pa_nil))) (pg_sub (pv 9) pe_int set_list))))
  (pss_cons (ps_expr (pe_bm PySem.F.plainAttrs_list PySem.F.slot_list_append PySem.F.type_list_append mt_append (pe_dget hu (pv 0) pe_str (fun _ _ => rfl)) (pa_cons (pe_lst (pa_cons (pv 6) (pa_cons (pv 1) (pa_cons pe_str (pa_cons (pe_ifExp (pt_val (pe_ix ix_tup (pv 2) pe_int (fun _ _ => rfl))) pe_int pe_non) pa_nil))))) pa_nil)))
  (pss_cons (ps_while PassesOwn.never (pt_val (pe_c c_presses hr (by first | decide | omega) (by rfl) (pa_cons (pv 0) pa_nil))) (pss_one (ps_expr (pe_bm PySem.F.plainAttrs_list PySem.F.slot_list_append PySem.F.type_list_append mt_append (pv 8) (pa_cons (pe_c c_show hr (by first | decide | omega) (by rfl) (pa_cons (pv 0) (pa_cons (pe_c c_first hr (by first | decide | omega) (by rfl) (pa_cons (pe_c c_waiting hr (by first | decide | omega) (by rfl) (pa_cons (pv 0) pa_nil)) pa_nil)) pa_nil))) pa_nil)))))
  (pss_cons (ps_if (PW.pt (pw_and (pt_cmpR op_eq (pe_ix ix_tup (pv 2) pe_int (fun _ _ => rfl)) pe_int (nomark _)) (pw_and (pt_val (pe_ix ix_tup (pv 2) pe_int (fun _ _ => rfl))) (pw_and1 (pt_cmpR op_notIn_seq (pv 3) (pe_tup (pa_cons pe_str (pa_cons pe_str pa_nil))) (by with_unfolding_all rfl)))))) (pss_one (ps_dput hu (pv 0) pe_str (pv 6) rfl)) pss_nil)
  (pss_one (ps_ret (pe_tup (pa_cons (pv 1) (pa_cons (pv 6) (pa_cons (pv 7) (pa_cons (pe_callTy call_tuple_of (by rfl) T.n_tuple boot_tuple (pa_cons (pv 8) pa_nil)) pa_nil))))))))))))))))), ?_⟩
  cases th with
  | none =>
    have hb : SqT K H b [.str "end"] := sqT_same hth S.same
    refine ⟨_, rfl, _, _, rfl, .inr hb, rfl, _, rfl, ?_⟩
    rw [decV]
    refine ifT rfl ⟨_, rfl, a, _, rfl, S.pEnter true, ?_⟩
    exact k _ .non _ (S.fld s.bv s.an true) rfl (Nat.le_succ _) (.inl rfl) (.inl rfl)
  | some pic =>
    obtain ⟨ps, pl, vs, ws, g1, g2, g3, g4, g5, g6, g7⟩ := id hth
    have at_ : ∀ {H' : Hp}, Same H0 H' → SqT K H' b _ := fun x => sqT_same g1 x
    have gb := at_ S.same
    refine ⟨_, rfl, _, _, rfl, .inr gb, rfl, _, rfl, ?_⟩
    rw [decV]
    refine ifF rfl ?_
    refine ⟨_, rfl, b, _, 0, _, rfl, rfl, gb, rfl, _, rfl, b, _, 0, _, rfl, rfl, gb, rfl, by show 2 ≤ sizeLine; decide, fun t ht => ?_⟩
    have S1 := S.new (o := .tup [.str "clean", .str "open"]) ht
    refine ⟨t, _, rfl, .inr (SqT.of upd_same), rfl, rfl, ?_⟩
    rw [show (if false = true then !inV (.str pic.kind) [.str "clean", .str "open"] else inV (.str pic.kind) [.str "clean", .str "open"]) = isEntry pic.kind from inV_entry _]
    refine ⟨_, _, rfl, ?_⟩
    have gb1 := at_ S1.same
    generalize upd H t (.tup [.str "clean", .str "open"]) = H1 at S1 gb1
    obtain ⟨isE, hE⟩ : ∃ e, isEntry pic.kind = e := ⟨_, rfl⟩
    rw [hE]
    dsimp only
    change tAndV _ _ _ _ _
    refine and_cut (fun v H2 => ∃ o : Bool, v = .bl o ∧ H2 = H1 ∧ (o = false → isE = true ∨ s.en = false)) ?_ fun key => ?_
    · rintro v H2 ⟨o, rfl, rfl, ho⟩
      refine gn_cut ?_
      dsimp only
      refine tt_cut (fun c H3 => H3 = H2 ∧ (c = false → o = false)) ?_ fun key1 => ?_
      · rintro c H3 ⟨rfl, hc⟩
        refine ite2 (fun hc1 => ?_) (fun hc1 => ?_)
        · exact k _ .non s S1 rfl (Nat.le_succ _) hbe (.inl rfl)
        · have ho1 := ho (hc (by simpa using hc1))
          have enOk := ok.en
          rw [hE] at enOk
          unfold tNext
          dsimp only
          refine seq_cut (fun σ' H' => ∃ an' : Bool, σ' = [some (.ref a), some (.int place), some (.ref b), some (.str pic.kind), some (.bl isE), some (.bl o), none, none, none, none] ∧ Ker K H0 H' a { s with an := an', en := false } ∧ ((isE && an') = true ∨ s.bv.isSome = true)) ?_ fun key5 => ?_
          · rintro σ' H4 ⟨an', rfl, S4, hnb⟩
            have gb4 := at_ S4.same
            refine seq_cut (fun σ' H' => ∃ (cnt : Int) (rv : V) (q : Addr) (s2 : KS) (ns : List Int) (G : Hp), σ' = [some (.ref a), some (.int place), some (.ref b), some (.str pic.kind), some (.bl isE), some (.bl o), some (.int cnt), some rv, some (.ref q), none] ∧ Same H0 G ∧ G q = some (.lst (ns.map V.int)) ∧ Ker K G H' a s2 ∧ s2.bits = s.bits ∧ s2.bv = s.bv ∧ s2.en = false ∧ s2.rows.length ≤ s.rows.length ∧ (isE = true ∨ s.bv.isSome = true)) ?_ fun key6 => ?_
            · rintro σ' H5 ⟨cnt, rv, q, s2, ns, G, rfl, xG, gq, S5, eb, ev, ee, hl2, hie⟩
              have at2 : ∀ {H' : Hp}, Same G H' → SqT K H' b _ := fun x => at_ fun y o h => x y o (xG y o h)
              refine seq_cut (fun σ' H' => ∃ (v9 : Option V) (rs : List RwK), σ' = [some (.ref a), some (.int place), some (.ref b), some (.str pic.kind), some (.bl isE), some (.bl o), some (.int cnt), some rv, some (.ref q), v9] ∧ Ker K G H' a { s2 with rows := rs } ∧ rs.length = s2.rows.length) ?_ fun key7 => ?_
              · rintro σ' H6 ⟨v9, rs, rfl, S6, hl6⟩
                have gb6 := at2 S6.same
                refine ⟨_, rfl, a, _, rfl, S6.gRows, .inl ⟨rfl, _, SqL.of S6.hl⟩, _, rfl, _, rfl, ?_⟩
                change tIf _ _ _ _ _ _
                refine if_cut (fun v H7 => ∃ w' : Option Int, v = wv w' ∧ H7 = H6) ?_ fun key8 => ?_
                · rintro v H7 ⟨w', rfl, rfl⟩
                  refine ⟨by show 4 ≤ sizeLine; decide, fun t ht => ?_⟩
                  have S7 := S6.new (o := .lst [.int cnt, .int place, .str "short", wv w']) ht
                  have S8 := S7.push (t := ⟨t, cnt, place, "short", w'⟩) (S6.free ht) upd_same (fun u hu' => ne_of_none (S6.r0 u hu').2 ht) (ne_of_none S6.hl ht) (show rs.length < 90 by omega) (by show ("short" : Str) ∈ mks; decide +kernel)
                  refine ⟨s2.l, _, _, rfl, rfl, S7.hl, by rw [List.length_map]; exact Nat.lt_of_le_of_lt S6.len (by decide), ?_⟩
                  have gb8 := at2 S8.same
                  have gq8 := S8.same _ _ gq
                  revert S8 gb8 gq8
                  generalize upd (upd H7 t (.lst [.int cnt, .int place, .str "short", wv w'])) s2.l _ = H8
                  intro S8 gb8 gq8
                  dsimp only
                  refine ⟨fun n σ H' => σ = [some (.ref a), some (.int place), some (.ref b), some (.str pic.kind), some (.bl isE), some (.bl o), some (.int cnt), some rv, some (.ref q), v9] ∧ Ker K G H' a { s2 with rows := rs ++ [⟨t, cnt, place, "short", w'⟩] }, ⟨0, rfl, S8⟩, ?_⟩
                  rintro n σ H9 ⟨rfl, S9⟩
                  refine ⟨_, rfl, G, a, _, rfl, S9, fun H10 x10 => ⟨_, rfl, ifF rfl ?_⟩⟩
                  have S10 := S9.ext x10
                  have gb10 := at2 S10.same
                  dsimp only
                  refine seq_cut (fun σ' H' => σ' = [some (.ref a), some (.int place), some (.ref b), some (.str pic.kind), some (.bl isE), some (.bl o), some (.int cnt), some rv, some (.ref q), v9] ∧ ∃ s3, Ker K G H' a s3 ∧ s3.bits = s.bits ∧ s3.rows.length ≤ s.rows.length + 1 ∧ s3.bv.isSome = true) ?_ fun key9 => ?_
                  · rintro σ' H11 ⟨rfl, s3, S11, f1, f2, f3⟩
                    refine ⟨_, rfl, _, rfl, _, rfl, _, rfl, q, _, rfl, .inl ⟨SqL.of (S11.same _ _ gq), fun t2 ht2 => ⟨by show 4 ≤ sizeLine; decide, fun r hr => ?_⟩⟩⟩
                    exact k _ (.ref r) s3 (((S11.new ht2).new hr).drop xG) f1 f2 (.inr f3) (.inr ⟨r, cnt, _, _, pic, rfl, upd_same, rfl⟩)
                  · have hlen8 : (rs ++ [(⟨t, cnt, place, "short", w'⟩ : RwK)]).length ≤ s.rows.length + 1 := by
                      rw [List.length_append]
                      show rs.length + 1 ≤ _
                      omega
                    change tAnd _ _ _ _ _
                    refine tt_cut (fun c H11 => Same H10 H11 ∧ (isE = true → c = true)) ?_ fun key10 => ?_
                    · rintro c H11 ⟨x11, hc⟩
                      have S11 := S10.ext x11
                      refine ite2 (fun hc1 => ?_) (fun hc1 => ?_)
                      · exact ⟨_, rfl, _, rfl, a, _, rfl, S11.pBase (some cnt), key9 _ _ ⟨rfl, _, S11.fld (some cnt) s2.an s2.en, eb, hlen8, rfl⟩⟩
                      · refine key9 _ _ ⟨rfl, _, S11, eb, hlen8, ?_⟩
                        show s2.bv.isSome = true
                        rw [ev]
                        exact hie.resolve_left fun z => hc1 (hc z)
                    · refine ⟨_, rfl, b, _, 1, _, rfl, rfl, gb10, rfl, rfl, _, rfl, ?_⟩
                      rw [decV]
                      refine ite2 (fun h1 => ?_) (fun h1 => ?_)
                      · refine ⟨_, rfl, b, _, 3, _, rfl, rfl, gb10, rfl, _, rfl, ite2 (fun h2 => ?_) (fun h2 => ?_)⟩
                        · refine ⟨_, rfl, by show 2 ≤ sizeLine; decide, fun t2 ht2 => ⟨t2, _, rfl, .inr (SqT.of upd_same), rfl, rfl, _, rfl, key10 _ _ ⟨upd0 ht2, fun z => ?_⟩⟩⟩
                          rw [if_pos rfl, inV2, entry_kinds (hE.trans z)]
                          rfl
                        · exact key10 _ _ ⟨fun _ _ h => h, fun z => absurd (enOk z).2 h2⟩
                      · exact key10 _ _ ⟨fun _ _ h => h, fun z => absurd (decide_eq_true (enOk z).1) h1⟩
                · refine ⟨_, rfl, b, _, 4, _, rfl, rfl, gb6, rfl, _, rfl, ite2 (fun _ => key8 _ _ ⟨some 0, rfl, rfl⟩) fun _ => key8 _ _ ⟨none, rfl, rfl⟩⟩
              · refine ⟨_, rfl, G, a, s2, rfl, S5, fun p hp => ⟨p, rfl, ⟨_, SqL.of upd_same⟩, ?_⟩⟩
                have S6 := S5.newH (o := .lst (rrf (wn s2.rows))) hp
                have xp : Same G (upd G p (.lst (rrf (wn s2.rows)))) := upd0 (S5.free hp)
                have gp : upd G p (.lst (rrf (wn s2.rows))) p = some (.lst (rrf (wn s2.rows))) := upd_same
                refine for_list (K := K) (a := p) (xs := rrf (wn s2.rows)) (fun i σ H' => ∃ (v9 : Option V) (rs : List RwK), σ = [some (.ref a), some (.int place), some (.ref b), some (.str pic.kind), some (.bl isE), some (.bl o), some (.int cnt), some rv, some (.ref q), v9] ∧ Ker K (upd G p (.lst (rrf (wn s2.rows)))) H' a { s2 with rows := rs } ∧ rs.length = s2.rows.length ∧ ∀ t ∈ wn s2.rows, ∃ u ∈ rs, u.r = t.r ∧ u.w.isSome = true)
                  ⟨none, s2.rows, rfl, S6, rfl, fun t ht => ⟨t, (List.mem_filter.mp ht).1, rfl, (List.mem_filter.mp ht).2⟩⟩ (fun i σ H' _ ⟨_, rs, _, S', _, _⟩ => SqL.of (S'.same _ _ gp)) ?_ ?_
                · rintro i y σ H6 hy ⟨v9, rs, rfl, S7, hl7, hw7⟩
                  rw [List.getElem?_map] at hy
                  obtain ⟨t, ht, rfl⟩ := Option.map_eq_some_iff.mp hy
                  obtain ⟨u, hur, eu, huw⟩ := hw7 t (mem_at ht)
                  obtain ⟨j, ej⟩ := Option.isSome_iff_exists.mp huw
                  rw [← eu]
                  have hru := (S7.r0 u hur).2
                  have gb7 := at2 fun y o h => S7.same y o (xp y o h)
                  have i3 : atI u.vs 3 = some (.int j) := by
                    show some (wv u.w) = _
                    rw [ej]
                    rfl
                  refine gn_cut ?_
                  dsimp only
                  refine ⟨_, rfl, u.r, _, 3, _, rfl, rfl, SqL.of hru, i3, ?_⟩
                  change tAndV _ _ _ _ _
                  refine and_cut (fun v H7 => ∃ bb : Bool, v = .bl bb ∧ H7 = H6) ?_ fun key8 => ?_
                  · rintro v H7 ⟨bb, rfl, rfl⟩
                    refine .inr ⟨bb, rfl, _, _, rfl, rfl, _, rfl, u.r, _, 3, 3, rfl, rfl, hru, rfl, ?_⟩
                    refine ⟨_, _, rfl, S7.mod (t := u) (f := fun x => { x with w := some (j + if bb then 1 else 0) }) hur (fun _ => rfl) (S7.mok u hur), by unfold modR; rw [List.length_map]; exact hl7, fun t' ht' => ?_⟩
                    obtain ⟨u', hu', e', w'⟩ := hw7 t' ht'
                    refine ⟨_, List.mem_map.mpr ⟨u', hu', rfl⟩, ?_, ?_⟩
                    · split
                      · exact e'
                      · exact e'
                    · split
                      · rfl
                      · exact w'
                  · refine ⟨_, rfl, b, _, 4, _, rfl, rfl, gb7, rfl, _, rfl, ite2 (fun _ => ?_) fun _ => key8 _ _ ⟨false, rfl, rfl⟩⟩
                    exact ⟨_, rfl, u.r, _, 0, _, rfl, rfl, SqL.of hru, rfl, _, rfl, _, _, rfl, rfl, key8 _ _ ⟨_, rfl, rfl⟩⟩
                · rintro σ H6 ⟨v9, rs, rfl, S7, hl7, hw7⟩
                  exact key7 _ _ ⟨v9, rs, rfl, S7.drop xp, hl7⟩
            · change tAnd _ _ _ _ _
              refine tt_cut (fun c H5 => H5 = H4 ∧ c = (isE && an')) ?_ fun key7 => ?_
              · rintro c H5 ⟨rfl, rfl⟩
                refine ite2 (fun hc => ?_) (fun hc => ?_)
                · have hisE : isE = true := (Bool.and_eq_true_iff.mp hc).1
                  refine ⟨_, rfl, b, _, 2, _, rfl, rfl, gb4, rfl, Nat.zero_le _, fun t ht => ?_⟩
                  have S5 := S4.new (o := .tup []) ht
                  refine ⟨_, rfl, _, rfl, b, _, 7, _, rfl, rfl, at_ S5.same, rfl, H0, a, _, pic.hush, rfl, S5, fun H6 q l' ns hq S6 hns => ⟨_, _, _, rfl, ?_⟩⟩
                  exact key6 _ _ ⟨pic.low, .ref t, q, _, ns, upd H0 q (.lst (ns.map V.int)), rfl, upd0 (S5.free hq), upd_same, S6, rfl, rfl, rfl, Nat.zero_le _, .inl hisE⟩
                · have hbv := hnb.resolve_left hc
                  obtain ⟨b0, eb0⟩ := Option.isSome_iff_exists.mp hbv
                  obtain ⟨sb, ss, q1, q2, q3, q4⟩ := S4.setup
                  have hb0 := S.b0
                  have hb1 := S.b1
                  have e2 : 2 ^ s.bits = 2 * 2 ^ (s.bits - 1) := by
                    obtain ⟨m, em⟩ : ∃ m, s.bits = m + 1 := ⟨s.bits - 1, by omega⟩
                    rw [em, Nat.pow_succ]
                    show _ = 2 * 2 ^ m
                    omega
                  have hp1 : 0 < 2 ^ (s.bits - 1) := Nat.pow_pos (by decide)
                  have hp2 : 2 ^ (s.bits - 1) ≤ 2 ^ 4 := Nat.pow_le_pow_right (by decide) (by omega)
                  obtain ⟨lo0, lo1⟩ := hlow
                  refine ⟨_, rfl, a, _, rfl, S4.gSetup, s.su, s.bits, _, rfl, q1, hb0, Nat.le_trans hb1 (by decide), fun H6 x6 => ?_⟩
                  have S6 := S4.ext x6
                  refine ⟨_, rfl, b, _, 2, _, rfl, rfl, at_ S6.same, rfl, _, rfl, a, _, rfl, S6.gBase, 2 ^ (s.bits - 1), pic.low, b0, ?_, hp1, by omega, lo0, by omega, fun H7 cnt x7 => ?_⟩
                  · show [V.int ((2 ^ s.bits : Nat) : Int), V.int pic.low, wv s.bv] = _
                    rw [eb0, e2]
                    show [V.int ((2 * 2 ^ (s.bits - 1) : Nat) : Int), V.int pic.low, V.int b0] = _
                    rw [show ((2 * 2 ^ (s.bits - 1) : Nat) : Int) = 2 * ((2 ^ (s.bits - 1) : Nat) : Int) by omega]
                  · have S7 := S6.ext x7
                    refine ⟨_, rfl, _, rfl, _, rfl, H0, a, _, b, pic, cnt, rfl, S7, hth, fun H8 r rs S8 hl8 => ?_⟩
                    refine ⟨_, rfl, H0, a, _, rfl, S8, fun H9 q l' rs' hq S9 hs9 => ?_⟩
                    exact key6 _ _ ⟨cnt, .ref r, q, _, [], upd H0 q (.lst []), rfl, upd0 (S8.free hq), upd_same, S9, rfl, rfl, rfl, Nat.le_trans hs9.length_le (Nat.le_of_eq hl8), .inr hbv⟩
              · refine ⟨_, rfl, isE, rfl, ?_⟩
                cases isE with
                | false => exact ifF rfl (key7 _ _ ⟨rfl, rfl⟩)
                | true => exact ifT rfl ⟨_, rfl, a, _, rfl, S4.gAnew, _, rfl, key7 _ _ ⟨rfl, rfl⟩⟩
          · refine ⟨_, rfl, isE, rfl, ?_⟩
            cases isE with
            | false =>
              have he : s.en = false := ho1.resolve_left (by decide)
              refine ifF rfl (key5 _ _ ⟨s.an, rfl, ?_, .inr (hbe.resolve_left (by rw [he]; decide))⟩)
              show Ker K H0 H3 a ⟨s.bits, s.su, s.top, s.l, s.bv, s.an, false, s.rows⟩
              rw [← he]
              exact S1
            | true =>
              refine ifT rfl ?_
              change tOrV _ _ _ _ _
              refine or_cut (fun v H4 => ∃ an' : Bool, v = .bl an' ∧ H4 = H3 ∧ (an' = false → s.en = false)) ?_ fun key2 => ?_
              · rintro v H4 ⟨an', rfl, rfl, han⟩
                refine ⟨by show 2 ≤ sizeLine; decide, fun p hp => ?_⟩
                have S2 := (S1.new (o := .tup [.bl an', .bl false]) hp).fld s.bv an' s.en
                refine ⟨p, _, rfl, SqT.of upd_same, rfl, _, _, rfl, _, rfl, a, _, rfl, (S1.new (o := .tup [.bl an', .bl false]) hp).pAnew an', _, _, rfl, _, rfl, a, _, rfl, S2.pEnter false, rfl, key5 _ _ ⟨an', rfl, S2.fld s.bv an' false, ?_⟩⟩
                cases an' with
                | true => exact .inl rfl
                | false => exact .inr (hbe.resolve_left (by rw [han rfl]; decide))
              · exact ⟨_, rfl, rfl, _, rfl, ite2 (fun _ => key2 _ _ ⟨true, rfl, rfl, fun z => by cases z⟩) fun _ => ⟨_, rfl, a, _, rfl, S1.gEnter, key2 _ _ ⟨s.en, rfl, rfl, id⟩⟩⟩
      · refine ⟨_, rfl, b, _, 1, _, rfl, rfl, gb1, rfl, _, rfl, a, _, rfl, S1.gTop, _, _, rfl, rfl, _, rfl, ite2 (fun _ => key1 true _ ⟨rfl, fun z => by cases z⟩) fun _ => ⟨_, rfl, o, rfl, key1 _ _ ⟨rfl, id⟩⟩⟩
    · refine ⟨_, rfl, _, rfl, _, rfl, ?_⟩
      cases isE with
      | true => exact ifF rfl (key _ _ ⟨false, rfl, rfl, fun _ => .inl rfl⟩)
      | false =>
        refine ifT rfl ⟨_, rfl, a, _, rfl, S1.gEnter, _, rfl, ?_⟩
        cases he : s.en with
        | true => exact ifT rfl (key _ _ ⟨true, rfl, rfl, fun z => by cases z⟩)
        | false =>
          refine ifF rfl ⟨_, rfl, rfl, _, rfl, ite2 (fun _ => ⟨_, rfl, a, _, rfl, S1.gAnew, key _ _ ⟨s.an, rfl, rfl, fun _ => .inr he⟩⟩) fun _ => key _ _ ⟨false, rfl, rfl, fun _ => .inr he⟩⟩
end

end L2.K13
set_option Elab.async false
set_option linter.all false
set_option maxRecDepth 100000
set_option maxHeartbeats 4000000
set_option pp.maxSteps 150
namespace L2.K13
open PySem PySem.Spec PyProof.Rows L2
open C8 (Cal Met Mak pe_c pe_mt pe_mt0 pe_mk)
local macro_rules | `(tactic| walk_at "hp") => `(tactic| first | assumption | exact upd_same | (refine upd_keep ?_ (by assumption); walk_at "hp") | (refine upd_off ?_ (by assumption) (by intro z; cases z); walk_at "hp"))
local macro_rules | `(tactic| walk_at "seq") => `(tactic| first | assumption | exact SqT.of (by walk_at "hp") | exact SqL.of (by walk_at "hp"))
section
theorem upd_self {H : Hp} {p : Addr} {o : HO} (h : H p = some o) : upd H p o = H := by
  funext b
  by_cases q : b = p
  · subst q; rw [upd_same]; exact h.symm
  · rw [upd_ne q]
theorem Ker.chg' {K : PySem.W.Frag} {G H : Hp} {a p : Addr} {s : KS} {o o' : HO} (k : Ker K G H a s) (h : G p = some o) (hi : imm o = false) : Ker K (upd G p o') (upd H p o') a s := by
  have e := upd_self h
  have k' : Ker K (upd G p o) H a s := by rw [e]; exact k
  have := k'.chg (o' := o') hi
  have e2 : upd (upd G p o) p o' = upd G p o' := upd2
  exact this
/-- one of the parts: (part, place, count, shown, the marked) -/
def PtAt (H : Hp) (q : Addr) (v : V) : Prop := ∃ (t : Addr) (part place count : Int) (shown : Bool) (ml : Addr) (ns : List Int), v = .ref t ∧ H t = some (.tup [.int part, .int place, .int count, .bl shown, .ref ml]) ∧ H ml = some (.lst (ns.map V.int)) ∧ ml ≠ q ∧ ns.length ≤ 100
theorem PtAt.same {H H' : Hp} {q : Addr} {v : V} (h : PtAt H q v) (x : Same H H') : PtAt H' q v := by
  obtain ⟨t, a, b, c, d, ml, ns, e, h1, h2, h3, h4⟩ := h
  exact ⟨t, a, b, c, d, ml, ns, e, x _ _ h1, x _ _ h2, h3, h4⟩
theorem PtAt.put {H : Hp} {q : Addr} {v : V} {xs : List V} {o : HO} (h : PtAt H q v) (g : H q = some (.lst xs)) : PtAt (upd H q o) q v := by
  obtain ⟨t, a, b, c, d, ml, ns, e, h1, h2, h3, h4⟩ := h
  exact ⟨t, a, b, c, d, ml, ns, e, (upd_ne (ne_of h1 g (by intro z; cases z))).trans h1, (upd_ne h3).trans h2, h3, h4⟩
theorem th_kind {K : PySem.W.Frag} {H : Hp} {b : Addr} {th : Option Pic} (h : ThAt K H b th) : ∃ k xs, SqT K H b (.str k :: xs) := by
  cases th with
  | none => exact ⟨_, _, h⟩
  | some p =>
    obtain ⟨_, _, _, _, h, _⟩ := h
    exact ⟨_, _, h⟩
theorem ThAt.same {K : PySem.W.Frag} {H H' : Hp} {b : Addr} {th : Option Pic} (h : ThAt K H b th) (x : Same H H') : ThAt K H' b th := by
  cases th with
  | none => exact sqT_same h x
  | some p => exact PicR.same h x
theorem dp_thing {K : PySem.W.Frag} {H : Hp} {v : V} {th : Option Pic} (ok : ThingOk th) (h : Dp K H v (encThing th)) : ∃ b, v = .ref b ∧ ThAt K H b th := by
  cases th with
  | none =>
    obtain ⟨a, xs, rfl, hs, h⟩ := dp_tup h
    obtain ⟨x, xs, rfl, h1, h⟩ := all2_cons h
    obtain rfl := all2_nil h
    rw [dp_str h1] at hs
    exact ⟨a, rfl, hs⟩
  | some p => exact dp_pic ok h
end
section
variable {P : Program} {w : World} {K : PySem.W.Frag} {mg : Str → Option Value} {base : Heap}
def spPartsK (K : PySem.W.Frag) : Sp := fun vs H Q _ => ∃ (sv tv : V) (bits top : Nat) (sizes : Sizes) (ts : List (Option Pic)), vs = [sv, tv, .int top, .int 0] ∧ Dp K H sv (encSetup bits sizes) ∧ 2 ≤ bits ∧ bits ≤ 5 ∧ top ≤ 2 ∧ Dp K H tv (encStream ts) ∧ (∀ t ∈ ts, ThingOk t ∧ LowOk (2 ^ bits) t) ∧ ts.length ≤ 60 ∧
  ∀ H' q vs, Same H H' → H q = none → H' q = some (.lst vs) → (∀ v ∈ vs, PtAt H' q v) → vs.length ≤ 60 → Q (.ref q) H'
theorem ok_partsK (T : Fx K mg) (F : DF K mg "_law_parts" s_parts ["_law_setup_so", "_law_stream_so", "_law_top_so", "_law_start_so"]) (c_kernel : Cal P w K mg base 1 "_law_kernel" (spKernel K) []) (c_took : Cal P w K mg base 4 "_law_took" (spTookK K) []) : Cal P w K mg base 5 "_law_parts" (spPartsK K) [] := by
  refine F.cal sc_parts (fun vs H Q E h => ?_) (fun f cdv A outer s H vs Q E hr h => ?_)
  · obtain ⟨_, _, _, _, _, _, rfl, _⟩ := h
    rfl
  obtain ⟨sv, tv, bits, top, sizes, ts, rfl, hsv, b0, b1, htop, htv, hts, hlen, k⟩ := h
  have nd := sc_parts.nd
  have hu := hu_of hr
  obtain ⟨sa, sb, ss, rfl, q1, q2, q3⟩ := dp_setup hsv
  obtain ⟨ta, tvs, rfl, r1, r2⟩ := dp_tup htv
  have r2l : tvs.length = ts.length := by rw [r2.1, List.length_map]
  refine ⟨_, (pss_cons (ps_par3 (i := 4) (j := 5) (l := 6) rfl nd rfl rfl rfl (by decide) (by decide) (by decide) rfl rfl rfl (pa_cons (pe_c c_kernel hr (by first | decide | omega) (by rfl) (pa_cons (pe_tup (pa_cons (pe_ix ix_tup (pv 0) pe_int (fun _ _ => rfl)) (pa_cons (pe_op op_repT (pe_tup (pa_cons (pe_tup (pa_cons pe_int (pa_cons pe_int (pa_cons pe_non pa_nil)))) pa_nil)) pe_int) pa_nil))) (pa_cons (pv 2) pa_nil))) (pa_cons (pe_lst pa_nil) (pa_cons pe_int pa_nil))) rfl)
  (pss_cons (ps_for PassesOwn.never rfl (pi_range2 (by rfl) T.n_range (pa_cons (pv 3) (pa_cons (pe_callB call_len_seq (by rfl) T.n_len PySem.boot_len (pa_cons (pv 1) pa_nil)) pa_nil))) (pg_name (i := 7) nd rfl (by first | exact .inl rfl | exact .inr rfl)) (pss_cons (ps_set (i := 8) nd rfl (Or.inl rfl) (pe_ix ix_tup (pv 1) (pv 7) (fun _ _ => rfl)))
      (pss_cons (ps_set (i := 9) nd rfl (Or.inl rfl) (pe_or (pe_cmpR op_eq (pe_ix ix_tup (pv 8) pe_int (fun _ _ => rfl)) pe_str (nomark _)) (pe_one (pe_and (pe_cmpR op_eq (pe_ix ix_tup (pv 8) pe_int (fun _ _ => rfl)) pe_str (nomark _)) (pe_one (pe_dget hu (pv 4) pe_str (fun _ _ => rfl)))))))
      (pss_cons (ps_set (i := 10) nd rfl (Or.inl rfl) (pe_c c_took hr (by first | decide | omega) (by rfl) (pa_cons (pv 4) (pa_cons (pv 7) (pa_cons (pv 8) pa_nil)))))
      (pss_one (ps_if (pt_cmp (pc_notN (pv 10))) (pss_cons (ps_set (i := 6) nd rfl (Or.inl rfl) (pe_op op_add (pv 6) (pe_callTy call_int1 (by rfl) T.n_int boot_int (pa_cons (pv 9) pa_nil))))
          (pss_cons (ps_setLc (i := 11) (own := [("_law_own", 12)]) (g := (gName 12)) (tt := (tAnd (tTest (tOp _ (tOp (rIxL K) (tVar 12) _) _)) (tTest (tOp _ (tOp (rIxL K) (tVar 12) _) (tVar 7))))) (te := (tOp (rIxL K) (tVar 12) _)) rfl nd rfl rfl (sw_true rfl rfl rfl (by decide +kernel)) (pi_list (pe_dget hu (pv 4) pe_str (fun _ _ => rfl))) (blkOk_by (N := ["_law_setup_so", "_law_stream_so", "_law_top_so", "_law_start_so", "_law_kernel_here", "_law_found", "_law_part", "_law_place_so", "_law_thing_so", "_law_is_new", "_law_row", "_law_marked_so", "_law_own"]) (sc := defScope s_parts) (by decide +kernel)) (fun _ _ _ _ _ => (pg_name (i := 12) nd rfl (by first | exact .inl rfl | exact .inr rfl))) (fun _ _ _ _ _ => (pts_one (PW.pt (pw_and (pt_cmpR op_ne (pe_ix ix_list (pv 12) pe_int (fun _ _ => rfl)) pe_str (nomark _)) (pw_and1 (pt_cmpR op_ne (pe_ix ix_list (pv 12) pe_int (fun _ _ => rfl)) (pv 7) (nomark _))))))) (fun _ _ _ _ _ => (pe_ix ix_list (pv 12) pe_int (fun _ _ => rfl))))
          (pss_one (ps_expr (pe_bm PySem.F.plainAttrs_list PySem.F.slot_list_append PySem.F.type_list_append mt_append (pv 5) (pa_cons (pe_tup (pa_cons (pv 6) (pa_cons (pv 7) (pa_cons (pe_ix ix_tup (pv 10) pe_int (fun _ _ => rfl)) (pa_cons (pe_ix ix_tup (pv 8) pe_int (fun _ _ => rfl)) (pa_cons (pv 11) pa_nil)))))) pa_nil)))))) pss_nil))))))
  (pss_one (ps_ret (pv 5))))), ?_⟩
  refine ⟨_, rfl, sa, _, 0, _, rfl, rfl, q1, rfl, by show 3 ≤ sizeLine; decide, fun t1 h1 => ⟨by show 1 ≤ sizeLine; decide, fun t2 h2 => ?_⟩⟩
  refine ⟨t2, 3, _, rfl, rfl, SqT.of upd_same, by simp, by decide, by decide, by show 1 ≤ 1000; decide, fun t3 h3 => ⟨by show 2 ≤ sizeLine; decide, fun t4 h4 => ⟨_, rfl, ?_⟩⟩⟩
  have x1 : Same H (upd (upd (upd (upd H t1 (.tup [.int 99, .int 98, .non])) t2 (.tup [.ref t1])) t3 (.tup (List.replicate (3 : Int).toNat [V.ref t1]).flatten)) t4 (.tup [.int bits, .ref t3])) := fun y o h => upd_keep (upd_keep (upd_keep (upd_keep h h1) h2) h3) h4
  have e1 : upd (upd (upd (upd H t1 (.tup [.int 99, .int 98, .non])) t2 (.tup [.ref t1])) t3 (.tup (List.replicate (3 : Int).toNat [V.ref t1]).flatten)) t4 (.tup [.int bits, .ref t3]) t1 = some (.tup [.int 99, .int 98, .non]) := upd_keep (upd_keep (upd_keep upd_same h2) h3) h4
  have e3 : upd (upd (upd (upd H t1 (.tup [.int 99, .int 98, .non])) t2 (.tup [.ref t1])) t3 (.tup (List.replicate (3 : Int).toNat [V.ref t1]).flatten)) t4 (.tup [.int bits, .ref t3]) t3 = some (.tup [.ref t1, .ref t1, .ref t1]) := upd_keep upd_same h4
  have e4 : upd (upd (upd (upd H t1 (.tup [.int 99, .int 98, .non])) t2 (.tup [.ref t1])) t3 (.tup (List.replicate (3 : Int).toNat [V.ref t1]).flatten)) t4 (.tup [.int bits, .ref t3]) t4 = some (.tup [.int bits, .ref t3]) := upd_same
  generalize upd (upd (upd (upd H t1 (.tup [.int 99, .int 98, .non])) t2 (.tup [.ref t1])) t3 (.tup (List.replicate (3 : Int).toNat [V.ref t1]).flatten)) t4 (.tup [.int bits, .ref t3]) = H1 at x1 e1 e3 e4
  have d1 : Dp K H1 (.ref t1) (encSize (99, 98, none)) := .tup (SqT.of e1) (.cons (.int _) (.cons (.int _) (.cons .non .nil)))
  refine ⟨t4, bits, top, rfl, .tup (SqT.of e4) (.cons (.int _) (.cons (.tup (SqT.of e3) (.cons d1 (.cons d1 (.cons d1 .nil)))) .nil)), b0, b1, htop, fun H2 a l S2 => ?_⟩
  refine ⟨Nat.zero_le _, fun q hq => ⟨_, _, _, rfl, ?_⟩⟩
  have x2 : Same H H2 := fun y o h => S2.same y o (x1 y o h)
  have S3 := S2.newH (o := .lst []) hq
  have hq0 : H q = none := same_free x2 hq
  have xq : Same H (upd H1 q (.lst [])) := fun y o h => upd_keep (x1 y o h) (S2.free hq)
  dsimp only
  refine ⟨_, rfl, _, rfl, ta, _, rfl, .inr (sqT_same r1 fun y o h => upd_keep (x2 y o h) hq), 0, _, rfl, ⟨by decide, by decide, by omega, by omega⟩, ?_⟩
  rw [show ((tvs.length : Nat) : Int) - 0 = (ts.length : Int) by omega, Int.toNat_natCast]
  refine for_range (n := ts.length) (fun i σ H' => ∃ (part : Int) (v7 v8 v9 v10 v11 : Option V) (s : KS) (vs : List V) (G : Hp), σ = [some (.ref sa), some (.ref ta), some (.int top), some (.int 0), some (.ref a), some (.ref q), some (.int part), v7, v8, v9, v10, v11, none] ∧ Same H G ∧ Ker K G H' a s ∧ G q = some (.lst vs) ∧ (∀ v ∈ vs, PtAt G q v) ∧ s.bits = bits ∧ s.rows.length ≤ i ∧ (s.en = true ∨ s.bv.isSome = true) ∧ vs.length ≤ i)
    ⟨0, none, none, none, none, none, _, [], _, rfl, xq, S3, upd_same, fun v hv => absurd hv List.not_mem_nil, rfl, Nat.le_refl _, .inl rfl, Nat.le_refl _⟩ ?_ ?_
  · rintro i σ H3 hi ⟨part, v7, v8, v9, v10, v11, s, vs, G, rfl, xG, S, gq, gv, eb, hl, hbe, hvl⟩
    have hi' : i < tvs.length := by omega
    have htsi : ts[i]? = some ts[i] := List.getElem?_eq_getElem hi
    have hte : tvs[i]? = some tvs[i] := List.getElem?_eq_getElem hi'
    have hd := r2.2 i _ _ hte (by rw [List.getElem?_map, htsi]; rfl)
    obtain ⟨ok, hlow⟩ := hts _ (List.getElem_mem hi)
    generalize ts[i] = th at hd ok hlow
    generalize tvs[i] = xv at hd hte
    obtain ⟨b, rfl, hth⟩ := dp_thing ok hd
    have hthG := hth.same xG
    have hth3 := hthG.same S.same
    obtain ⟨kd, xs, hk⟩ := th_kind hth3
    have et : atI tvs (0 + (i : Int)) = some (.ref b) := by
      rw [Int.zero_add]
      exact atI_natE hte
    refine ⟨_, rfl, _, rfl, ta, _, 0 + (i : Int), _, rfl, rfl, sqT_same r1 fun y o h => S.same y o (xG y o h), et, ?_⟩
    refine gn_cut ?_
    dsimp only
    change tOrV _ _ _ _ _
    refine or_cut (fun v H4 => ∃ nw : Bool, v = .bl nw ∧ H4 = H3) ?_ fun key => ?_
    · rintro v H4 ⟨nw, rfl, rfl⟩
      refine ⟨_, rfl, _, rfl, _, rfl, G, a, s, b, th, 0 + (i : Int), rfl, S, hthG, ok, by rw [eb]; exact hlow, hbe, by omega, fun H5 v s2 S5 eb2 el2 hbe2 hv => ?_⟩
      refine ⟨_, rfl, _, rfl, ?_⟩
      rcases hv with rfl | ⟨r, c, x, y, pic, rfl, hr5, hth5⟩
      · exact ifF rfl ⟨part, _, _, _, _, _, s2, vs, G, rfl, xG, S5, gq, gv, eb2.trans eb, by omega, hbe2, by omega⟩
      · refine ifT rfl ?_
        subst hth5
        obtain ⟨ps, pl, vs', ws, g1, _⟩ := id hth
        refine ⟨_, rfl, _, rfl, .inr ⟨nw, rfl, _, _, rfl, rfl, ?_⟩⟩
        refine ⟨_, rfl, a, _, rfl, S5.gRows, s2.l, rfl, ⟨_, SqL.of S5.hl⟩, fun D hD => ?_⟩
        refine lc_fm (zs := s2.rows) (r := fun t => V.ref t.r) (F := fun t => if decide (t.m ≠ ("" : Str)) && decide (t.p ≠ 0 + (i : Int)) then some (V.int t.p) else none) hD S5.hl (Nat.lt_of_le_of_lt S5.len (by decide)) (fun j t acc R ht h1 h2 hz => ?_) ?_
        · have h3 : upd H5 D (.lst acc) t.r = some (.lst t.vs) := upd_keep (S5.r0 t (mem_at ht)).2 hD
          refine ⟨rfl, _, rfl, t.r, _, 2, _, rfl, rfl, SqL.of h3, rfl, rfl, _, rfl, ?_⟩
          rw [decS]
          by_cases e : t.m = ("" : Str)
          · exact ifF (by simpa using e) (h2 (by simp [e]))
          · refine ifT (by simpa using e) ⟨_, rfl, t.r, _, 1, _, rfl, rfl, SqL.of h3, rfl, _, rfl, rfl, _, rfl, ?_⟩
            rw [decV]
            by_cases e2 : t.p = 0 + (i : Int)
            · exact ifF (by simpa using e2) (h2 (by simp [e2]))
            · refine ifT (by simpa using e2) ⟨_, rfl, t.r, _, 1, _, rfl, rfl, SqL.of h3, rfl, acc, upd_same, hz, ?_⟩
              rw [upd2]
              exact h1 _ (by simpa [e] using e2)
        · obtain ⟨ns, ens, hns⟩ : ∃ ns : List Int, s2.rows.filterMap (fun t => if decide (t.m ≠ ("" : Str)) && decide (t.p ≠ 0 + (i : Int)) then some (V.int t.p) else none) = ns.map V.int ∧ ns.length ≤ 100 := by
            refine ⟨(s2.rows.filter fun t => decide (t.m ≠ ("" : Str)) && decide (t.p ≠ 0 + (i : Int))).map (·.p), ?_, ?_⟩
            · rw [List.map_map, ← List.filterMap_eq_map, List.filterMap_filter]
              rfl
            · rw [List.length_map]
              exact Nat.le_trans (List.length_filter_le ..) (Nat.le_trans S5.len (by decide))
          rw [ens]
          have S6 := S5.newH (o := .lst (ns.map V.int)) hD
          have gb6 : SqT K (upd H5 D (.lst (ns.map V.int))) b _ := sqT_same g1 fun y o h => upd_keep (S5.same y o (xG y o h)) hD
          have nDq : D ≠ q := (ne_of_none (S5.same _ _ gq) hD).symm
          refine ⟨_, rfl, .inl ⟨rfl, _, SqL.of (upd_keep (S5.same _ _ gq) hD)⟩, _, rfl, _, rfl, _, rfl, r, _, 1, _, rfl, rfl, SqT.of (upd_keep hr5 hD), rfl, _, rfl, b, _, 4, _, rfl, rfl, gb6, rfl, _, rfl, by show 5 ≤ sizeLine; decide, fun t ht => ?_⟩
          have S7 := S6.newH (o := .tup [.int (part + if nw = true then 1 else 0), .int (0 + (i : Int)), .int c, .bl pic.shown, .ref D]) ht
          have hGD : G D = none := S5.free hD
          have hGt : upd G D (.lst (ns.map V.int)) t = none := S6.free ht
          have gq7 : upd (upd G D (.lst (ns.map V.int))) t (.tup [.int (part + if nw = true then 1 else 0), .int (0 + (i : Int)), .int c, .bl pic.shown, .ref D]) q = some (.lst vs) := upd_keep (upd_keep gq hGD) hGt
          have x7 : Same G (upd (upd G D (.lst (ns.map V.int))) t (.tup [.int (part + if nw = true then 1 else 0), .int (0 + (i : Int)), .int c, .bl pic.shown, .ref D])) := fun y o h => upd_keep (upd_keep h hGD) hGt
          have S8 := S7.chg' (o' := .lst (vs ++ [.ref t])) gq7 rfl
          refine ⟨q, _, _, rfl, rfl, S7.same _ _ gq7, Nat.lt_of_le_of_lt (show vs.length ≤ 60 by omega) (by decide), ?_⟩
          refine ⟨_, _, _, _, _, _, s2, vs ++ [.ref t], _, rfl, same_put (fun y o h => x7 y o (xG y o h)) hq0, S8, upd_same, fun v hv => ?_, eb2.trans eb, by omega, hbe2, by rw [List.length_append]; exact Nat.succ_le_succ hvl⟩
          rcases List.mem_append.mp hv with hv | hv
          · exact ((gv v hv).same x7).put gq7
          · rw [List.mem_singleton.mp hv]
            exact PtAt.put ⟨t, _, _, _, _, D, ns, rfl, upd_same, upd_keep upd_same hGt, nDq, hns⟩ gq7
    · refine ⟨_, rfl, b, _, 0, .str kd, rfl, rfl, hk, at0, rfl, _, rfl, ite2 (fun _ => key _ _ ⟨true, rfl, rfl⟩) fun _ => ?_⟩
      refine ⟨_, rfl, b, _, 0, .str kd, rfl, rfl, hk, at0, rfl, _, rfl, ite2 (fun _ => ⟨_, rfl, a, _, rfl, S.gEnter, key _ _ ⟨_, rfl, rfl⟩⟩) fun _ => key _ _ ⟨false, rfl, rfl⟩⟩
  · rintro σ H3 ⟨part, v7, v8, v9, v10, v11, s, vs, G, rfl, xG, S, gq, gv, eb, hl, hbe, hvl⟩
    exact ⟨_, rfl, k _ q vs (fun y o h => S.same y o (xG y o h)) hq0 (S.same _ _ gq) (fun v hv => (gv v hv).same S.same) (by omega)⟩
end

end L2.K13
set_option Elab.async false
set_option linter.all false
set_option maxRecDepth 100000
set_option maxHeartbeats 4000000
set_option pp.maxSteps 150
namespace L2.K13
open PySem PySem.Spec PyProof.Rows L2
open C8 (Cal Met Mak pe_c pe_mt pe_mt0 pe_mk)
local macro_rules | `(tactic| walk_at "hp") => `(tactic| first | assumption | exact upd_same | (refine upd_keep ?_ (by assumption); walk_at "hp") | (refine upd_off ?_ (by assumption) (by intro z; cases z); walk_at "hp"))
local macro_rules | `(tactic| walk_at "seq") => `(tactic| first | assumption | exact SqT.of (by walk_at "hp") | exact SqL.of (by walk_at "hp"))
section
theorem for_enum {K : PySem.W.Frag} {a : Addr} {xs : List V} {g : TG} {tb : TS} {D : Ends} {σ : L2.St} {H : Hp} (Pv : Nat → L2.St → Hp → Prop) (h0 : Pv 0 σ H) (hl : ∀ i σ H, i ≤ xs.length → Pv i σ H → SqL K H a xs)
    (hs : ∀ i x T σ H, xs[i]? = some x → Pv i σ H → H T = none → g (.ref T) σ (upd H T (.tup [.int (i : Nat), x])) fun σ2 H2 => tb { D with nx := Pv (i + 1), ct := Pv (i + 1), bk := D.nx } σ2 H2) (hd : ∀ σ H, Pv xs.length σ H → D.nx σ H) :
    ∃ W : Nat → Nat → L2.St → Hp → Prop, (∃ m, W 0 m σ H) ∧ ∀ i m σ H, W i m σ H →
      ((Ite K a).stop i H ∧ D.nx σ H) ∨ ((Ite K a).go i H ∧ ∃ N : L2.St → Hp → Prop, (∀ σ' H', N σ' H' → ∃ m', m' < m ∧ W (i + 1) m' σ' H') ∧ ∀ x H', (Ite K a).yld i H x H' → g x σ H' fun σ2 H2 => tb { D with nx := N, ct := N, bk := D.nx } σ2 H2) := by
  refine ⟨fun i m σ H => m = xs.length - i ∧ i ≤ xs.length ∧ Pv i σ H, ⟨xs.length, by simp, Nat.zero_le _, h0⟩, ?_⟩
  rintro i m σ H ⟨rfl, hi, p⟩
  have q := hl i σ H hi p
  by_cases hlt : i < xs.length
  · refine .inr ⟨⟨xs, xs[i], q, by simp [hlt]⟩, Pv (i + 1), fun σ' H' p' => ⟨xs.length - (i + 1), by omega, rfl, hlt, p'⟩, fun x H' y => ?_⟩
    obtain ⟨T, x', e1, e2, e3, y⟩ := y
    subst e1 e3
    exact hs i x' T σ _ (y xs q) p e2
  · have e : i = xs.length := by omega
    subst e
    exact .inl ⟨⟨xs, q, Nat.le_refl _⟩, hd σ H p⟩
/-- the list of a comprehension as it grows: its items are G -/
def PvW (D : Addr) (H1 : Hp) (G : V → Prop) (i : Nat) (H' : Hp) : Prop := ∃ acc : List V, H' D = some (.lst acc) ∧ acc.length ≤ i ∧ (∀ v ∈ acc, G v) ∧ Same H1 H'
theorem PvW.zero {D : Addr} {H1 : Hp} {G : V → Prop} (hD : H1 D = none) : PvW D H1 G 0 (upd H1 D (.lst [])) := ⟨[], upd_same, Nat.le_refl _, fun v hv => absurd hv List.not_mem_nil, upd0 hD⟩
theorem PvW.skip {D : Addr} {H1 H' H'' : Hp} {G : V → Prop} {i : Nat} (p : PvW D H1 G i H') (x : Same H' H'') : PvW D H1 G (i + 1) H'' := by
  obtain ⟨acc, h1, h2, h3, h4⟩ := p
  exact ⟨acc, x _ _ h1, Nat.le_succ_of_le h2, h3, fun y o h => x y o (h4 y o h)⟩
theorem PvW.add {D : Addr} {H1 H' H'' : Hp} {G : V → Prop} {i : Nat} {y : V} (p : PvW D H1 G i H') (x : Same H' H'') (hy : G y) (hi : i < 1000) (hD : H1 D = none) : ∃ acc, H'' D = some (.lst acc) ∧ acc.length < sizeLine ∧ PvW D H1 G (i + 1) (upd H'' D (.lst (acc ++ [y]))) := by
  obtain ⟨acc, h1, h2, h3, h4⟩ := p
  refine ⟨acc, x _ _ h1, Nat.lt_of_le_of_lt (Nat.le_trans h2 (Nat.le_of_lt hi)) (by decide), acc ++ [y], upd_same, by rw [List.length_append]; exact Nat.succ_le_succ h2, fun v hv => ?_, same_put (fun y o h => x y o (h4 y o h)) hD⟩
  rcases List.mem_append.mp hv with hv | hv
  · exact h3 v hv
  · rw [List.mem_singleton.mp hv]; exact hy
theorem cutV_sub {xs : List V} {lo hi : Option Int} : ∀ v ∈ cutV xs lo hi, v ∈ xs := fun v hv => by
  unfold cutV at hv
  exact List.mem_of_mem_drop (List.mem_of_mem_take hv)
/-- a list of parts -/
structure LsP (H : Hp) (q l : Addr) (vs : List V) : Prop where
  at_ : H l = some (.lst vs)
  pts : ∀ v ∈ vs, PtAt H q v
  len : vs.length ≤ 60
theorem LsP.same {H H' : Hp} {q l : Addr} {vs : List V} (h : LsP H q l vs) (x : Same H H') : LsP H' q l vs := ⟨x _ _ h.at_, fun v hv => (h.pts v hv).same x, h.len⟩
theorem LsP.of {H H' : Hp} {q l : Addr} {us vs : List V} (x : Same H H') (h : LsP H q l us) {D : Addr} (g : H' D = some (.lst vs)) (s : ∀ v ∈ vs, v ∈ us) (hl : vs.length ≤ 60) : LsP H' q D vs := ⟨g, fun v hv => (h.pts v (s v hv)).same x, hl⟩
theorem ints_list : ∀ {vs : List V}, (∀ v ∈ vs, ∃ i, v = .int i) → ∃ ns : List Int, vs = ns.map V.int
  | [], _ => ⟨[], rfl⟩
  | v :: vs, h => by
    obtain ⟨ns, e⟩ := ints_list fun u hu => h u (List.mem_cons_of_mem _ hu)
    obtain ⟨i, rfl⟩ := h v (List.mem_cons_self ..)
    exact ⟨i :: ns, by rw [e]; rfl⟩
theorem PtAt.dp {K : PySem.W.Frag} {H : Hp} {q : Addr} {v : V} (h : PtAt H q v) : ∃ d, Dp K H v d ∧ d.canLay0 = true ∧ d.depth ≤ 60 := by
  obtain ⟨t, a, b, c, d, ml, ns, rfl, h1, h2, h3, h4⟩ := h
  have l1 : PyData.canLayAll0 (ns.map PyData.int) = true := layAll fun d hd => by
    obtain ⟨n, _, rfl⟩ := List.mem_map.mp hd
    rfl
  have l2 : PyData.depthAll (ns.map PyData.int) ≤ 0 := depAll fun d hd => by
    obtain ⟨n, _, rfl⟩ := List.mem_map.mp hd
    exact Nat.le_refl _
  refine ⟨.tuple [.int a, .int b, .int c, .bool d, .list (ns.map .int)], .tup (SqT.of h1) (.cons (.int _) (.cons (.int _) (.cons (.int _) (.cons (.bl _) (.cons (.lst (SqL.of h2) (dp_ints ns)) .nil))))), ?_, ?_⟩
  · show (true && (true && (true && (true && (PyData.canLayAll0 (ns.map PyData.int) && true))))) = true
    rw [l1]
    rfl
  · show max 0 (max 0 (max 0 (max 0 (max (PyData.depthAll (ns.map PyData.int) + 1) 0)))) + 1 ≤ 60
    omega
theorem dpPts {K : PySem.W.Frag} {H : Hp} {q : Addr} : ∀ {vs : List V}, (∀ v ∈ vs, PtAt H q v) → ∃ ds, DpAll K H vs ds ∧ ∀ d ∈ ds, d.canLay0 = true ∧ d.depth ≤ 60
  | [], _ => ⟨[], .nil, fun d hd => absurd hd List.not_mem_nil⟩
  | v :: vs, h => by
    obtain ⟨ds, h1, h2⟩ := dpPts (K := K) fun u hu => h u (List.mem_cons_of_mem _ hu)
    obtain ⟨d, g1, g2⟩ := (h v (List.mem_cons_self ..)).dp (K := K)
    refine ⟨d :: ds, .cons g1 h1, fun e he => ?_⟩
    rcases List.mem_cons.mp he with rfl | he
    · exact g2
    · exact h2 e he
theorem shaped_d {d : PyData} (h : d.canLay0 = true ∧ d.depth ≤ 60) : SeqAt.shaped d = true := by
  unfold SeqAt.shaped
  rw [h.1, decide_eq_true (show d.depth ≤ 64 by omega)]
  rfl
end
section
variable {P : Program} {w : World} {K : PySem.W.Frag} {mg : Str → Option Value} {base : Heap}
def spLeastK (K : PySem.W.Frag) : Sp := fun vs H Q _ => ∃ (q : Addr) (us : List V), vs = [.ref q] ∧ LsP H q q us ∧ ∀ H' r size most wait, Same H H' → H' r = some (.tup [.int size, .int most, .int wait]) → 1 ≤ size → 0 ≤ most → Q (.ref r) H'
theorem ok_leastK (T : Fx K mg) (F : DF K mg "_law_least" s_least ["_law_parts_so"]) : Cal P w K mg base 1 "_law_least" (spLeastK K) [] := by
  refine F.cal sc_least (fun vs H Q E h => ?_) (fun f cdv A outer s H vs Q E hr h => ?_)
  · obtain ⟨_, _, rfl, _⟩ := h
    rfl
  obtain ⟨q, us, rfl, L0, k⟩ := h
  have nd := sc_least.nd
  have hu64 := hu64_of hr
  have hu65 := hu65_of hr
  refine ⟨_, (pss_cons (ps_asg (pe_tup (pa_cons pe_int (pa_cons pe_int (pa_cons pe_int pa_nil)))) (pg_tup rfl (pgs_cons (pg_name (i := 1) nd rfl (by first | exact .inl rfl | exact .inr rfl)) (pgs_cons (pg_name (i := 2) nd rfl (by first | exact .inl rfl | exact .inr rfl)) (pgs_cons (pg_name (i := 3) nd rfl (by first | exact .inl rfl | exact .inr rfl)) pgs_nil)))))
  (pss_cons (ps_for PassesOwn.never rfl (pi_enum (by rfl) T.n_enumerate (pa_cons (pv 0) pa_nil)) (pg_tup rfl (pgs_cons (pg_name (i := 4) nd rfl (by first | exact .inl rfl | exact .inr rfl)) (pgs_cons (pg_tup rfl (pgs_cons (pg_name (i := 5) nd rfl (by first | exact .inl rfl | exact .inr rfl)) (pgs_cons (pg_name (i := 6) nd rfl (by first | exact .inl rfl | exact .inr rfl)) (pgs_cons (pg_name (i := 7) nd rfl (by first | exact .inl rfl | exact .inr rfl)) (pgs_cons (pg_name (i := 8) nd rfl (by first | exact .inl rfl | exact .inr rfl)) (pgs_cons (pg_name (i := 9) nd rfl (by first | exact .inl rfl | exact .inr rfl)) pgs_nil)))))) pgs_nil))) (pss_cons (ps_setLc (i := 10) (own := [("_law_own", 15)]) (g := (gName 15)) (tt := (tTest (tOp _ (tOp (rIxT K) (tVar 15) _) (tVar 5)))) (te := (tVar 15)) rfl nd rfl rfl (sw_true rfl rfl rfl (by decide +kernel)) (pi_list (pe_slice sl_list (pv 0) po_none (po_some (pv 4)))) (blkOk_by (N := ["_law_parts_so", "_law_size_so", "_law_most_so", "_law_wait_so", "_law_at", "_law_part", "_law_place_so", "_law_count_so", "_law_is_shown", "_law_marked_so", "_law_ahead", "_law_to_come", "_law_late", "_law_held", "_law_lesser", "_law_own"]) (sc := defScope s_least) (by decide +kernel)) (fun _ _ _ _ _ => (pg_name (i := 15) nd rfl (by first | exact .inl rfl | exact .inr rfl))) (fun _ _ _ _ _ => (pts_one (pt_cmpR op_eq (pe_ix ix_tup (pv 15) pe_int (fun _ _ => rfl)) (pv 5) (nomark _)))) (fun _ _ _ _ _ => (pv 15)))
      (pss_cons (ps_set (i := 11) nd rfl (Or.inr rfl) (pe_lc (own := [("_law_own", 15)]) (g := (gName 15)) (tt := (tAnd (tTest (tOp _ (tOp (rIxT K) (tVar 15) _) (tVar 5))) (tB (tOp (rIxT K) (tVar 15) _)))) (te := (tOp (rIxT K) (tVar 15) _)) rfl nd (pi_list (pe_slice sl_list (pv 0) (po_some (pv 4)) po_none)) (blkOk_by (N := ["_law_parts_so", "_law_size_so", "_law_most_so", "_law_wait_so", "_law_at", "_law_part", "_law_place_so", "_law_count_so", "_law_is_shown", "_law_marked_so", "_law_ahead", "_law_to_come", "_law_late", "_law_held", "_law_lesser", "_law_own"]) (sc := defScope s_least) (by decide +kernel)) (fun _ _ _ _ _ => (pg_name (i := 15) nd rfl (by first | exact .inl rfl | exact .inr rfl))) (fun _ _ _ _ _ => (pts_one (PW.pt (pw_and (pt_cmpR op_eq (pe_ix ix_tup (pv 15) pe_int (fun _ _ => rfl)) (pv 5) (nomark _)) (pw_and1 (pt_val (pe_ix ix_tup (pv 15) pe_int (fun _ _ => rfl)))))))) (fun _ _ _ _ _ => (pe_ix ix_tup (pv 15) pe_int (fun _ _ => rfl)))))
      (pss_cons (ps_set (i := 12) nd rfl (Or.inr rfl) (pe_lc (own := [("_law_own", 15)]) (g := (gName 15)) (tt := (tAnd (tB (tOp (rIxT K) (tVar 15) _)) (tAnd (tTest (tOp (rNeD K) (tVar 11) (tLst tNil))) (tTest (tOp _ (tOp (rIxT K) (tVar 15) _) (tCB (rMin K) (tCons (tVar 11) tNil))))))) (te := (tVar 15)) rfl nd (pi_list (pv 10)) (blkOk_by (N := ["_law_parts_so", "_law_size_so", "_law_most_so", "_law_wait_so", "_law_at", "_law_part", "_law_place_so", "_law_count_so", "_law_is_shown", "_law_marked_so", "_law_ahead", "_law_to_come", "_law_late", "_law_held", "_law_lesser", "_law_own"]) (sc := defScope s_least) (by decide +kernel)) (fun _ _ _ _ _ => (pg_name (i := 15) nd rfl (by first | exact .inl rfl | exact .inr rfl))) (fun _ _ _ _ _ => (pts_one (PW.pt (pw_and (pt_val (pe_ix ix_tup (pv 15) pe_int (fun _ _ => rfl))) (pw_and (pt_cmpR (op_neD hu64) (pv 11) (pe_lst pa_nil) (nomark _)) (pw_and1 (pt_cmpR op_gt (pe_ix ix_tup (pv 15) pe_int (fun _ _ => rfl)) (pe_callB (cr_min rfl) (by rfl) T.n_min boot_min (pa_cons (pv 11) pa_nil)) (nomark _)))))))) (fun _ _ _ _ _ => (pv 15))))
      (pss_cons (ps_setLc (i := 13) (own := [("_law_own", 15)]) (g := (gName 15)) (tt := (tOr (tTest (tOp (rIn K false) (tOp (rIxT K) (tVar 15) _) (tVar 9))) (tTest (tOp (rInD K) (tVar 15) (tVar 12))))) (te := (tVar 15)) rfl nd rfl rfl (sw_true rfl rfl rfl (by decide +kernel)) (pi_list (pv 10)) (blkOk_by (N := ["_law_parts_so", "_law_size_so", "_law_most_so", "_law_wait_so", "_law_at", "_law_part", "_law_place_so", "_law_count_so", "_law_is_shown", "_law_marked_so", "_law_ahead", "_law_to_come", "_law_late", "_law_held", "_law_lesser", "_law_own"]) (sc := defScope s_least) (by decide +kernel)) (fun _ _ _ _ _ => (pg_name (i := 15) nd rfl (by first | exact .inl rfl | exact .inr rfl))) (fun _ _ _ _ _ => (pts_one (PW.pt (pw_or (pt_cmpR op_in_seq (pe_ix ix_tup (pv 15) pe_int (fun _ _ => rfl)) (pv 9) (by with_unfolding_all rfl)) (pw_or1 (pt_cmpR (op_inD hu65) (pv 15) (pv 12) (by with_unfolding_all rfl))))))) (fun _ _ _ _ _ => (pv 15)))
      (pss_cons (ps_set (i := 1) nd rfl (Or.inl rfl) (pe_callB (call_max2 rfl) (by rfl) T.n_max boot_max (pa_cons (pv 1) (pa_cons (pe_op op_add pe_int (pe_callB call_len_seq (by rfl) T.n_len PySem.boot_len (pa_cons (pv 13) pa_nil))) pa_nil))))
      (pss_one (ps_if (pt_val (pv 8)) (pss_cons (ps_set (i := 2) nd rfl (Or.inl rfl) (pe_callB (call_max2 rfl) (by rfl) T.n_max boot_max (pa_cons (pv 2) (pa_cons (pe_callB call_len_seq (by rfl) T.n_len PySem.boot_len (pa_cons (pe_lc (own := [("_law_own", 15)]) (g := (gName 15)) (tt := (tAnd (tB (tOp (rIxT K) (tVar 15) _)) (tTest (tOp _ (tOp (rIxT K) (tVar 15) _) (tVar 7))))) (te := (tVar 15)) rfl nd (pi_list (pv 10)) (blkOk_by (N := ["_law_parts_so", "_law_size_so", "_law_most_so", "_law_wait_so", "_law_at", "_law_part", "_law_place_so", "_law_count_so", "_law_is_shown", "_law_marked_so", "_law_ahead", "_law_to_come", "_law_late", "_law_held", "_law_lesser", "_law_own"]) (sc := defScope s_least) (by decide +kernel)) (fun _ _ _ _ _ => (pg_name (i := 15) nd rfl (by first | exact .inl rfl | exact .inr rfl))) (fun _ _ _ _ _ => (pts_one (PW.pt (pw_and (pt_val (pe_ix ix_tup (pv 15) pe_int (fun _ _ => rfl))) (pw_and1 (pt_cmpR op_gt (pe_ix ix_tup (pv 15) pe_int (fun _ _ => rfl)) (pv 7) (nomark _))))))) (fun _ _ _ _ _ => (pv 15))) pa_nil)) pa_nil))))
          (pss_cons (ps_setLc (i := 14) (own := [("_law_own", 15)]) (g := (gName 15)) (tt := (tAnd (tTest (tOp _ (tOp (rIxT K) (tVar 15) _) (tVar 5))) (tAnd (tB (tOp (rIxT K) (tVar 15) _)) (tTest (tOp _ (tOp (rIxT K) (tVar 15) _) (tVar 7)))))) (te := (tVar 15)) rfl nd rfl rfl (sw_true rfl rfl rfl (by decide +kernel)) (pi_list (pe_slice sl_list (pv 0) (po_some (pe_op op_add (pv 4) pe_int)) po_none)) (blkOk_by (N := ["_law_parts_so", "_law_size_so", "_law_most_so", "_law_wait_so", "_law_at", "_law_part", "_law_place_so", "_law_count_so", "_law_is_shown", "_law_marked_so", "_law_ahead", "_law_to_come", "_law_late", "_law_held", "_law_lesser", "_law_own"]) (sc := defScope s_least) (by decide +kernel)) (fun _ _ _ _ _ => (pg_name (i := 15) nd rfl (by first | exact .inl rfl | exact .inr rfl))) (fun _ _ _ _ _ => (pts_one (PW.pt (pw_and (pt_cmpR op_eq (pe_ix ix_tup (pv 15) pe_int (fun _ _ => rfl)) (pv 5) (nomark _)) (pw_and (pt_val (pe_ix ix_tup (pv 15) pe_int (fun _ _ => rfl))) (pw_and1 (pt_cmpR op_lt (pe_ix ix_tup (pv 15) pe_int (fun _ _ => rfl)) (pv 7) (nomark _)))))))) (fun _ _ _ _ _ => (pv 15)))
          (pss_one (ps_set (i := 3) nd rfl (Or.inl rfl) (pe_callB (call_max2 rfl) (by rfl) T.n_max boot_max (pa_cons (pv 3) (pa_cons (pe_callB call_len_seq (by rfl) T.n_len PySem.boot_len (pa_cons (pv 14) pa_nil)) pa_nil))))))) pss_nil))))))))
  (pss_one (ps_ret (pe_tup (pa_cons (pe_callB (call_max2 rfl) (by rfl) T.n_max boot_max (pa_cons (pv 1) (pa_cons (pe_op op_add (pv 2) pe_int) pa_nil))) (pa_cons (pv 2) (pa_cons (pv 3) pa_nil)))))))), ?_⟩
  refine ⟨by show 3 ≤ sizeLine; decide, fun p0 hp0 => ⟨p0, _, rfl, SqT.of upd_same, rfl, _, _, rfl, _, _, rfl, _, _, rfl, rfl, ?_⟩⟩
  have x0 : Same H (upd H p0 (.tup [.int 1, .int 0, .int 1])) := upd0 hp0
  refine ⟨_, rfl, q, us, rfl, SqL.of (x0 _ _ L0.at_), ?_⟩
  refine for_enum (K := K) (a := q) (xs := us) (fun i σ H' => ∃ (size most wait : Int) (v4 v5 v6 v7 v8 v9 v10 v11 v12 v13 v14 : Option V), σ = [some (.ref q), some (.int size), some (.int most), some (.int wait), v4, v5, v6, v7, v8, v9, v10, v11, v12, v13, v14, none] ∧ Same H H' ∧ 1 ≤ size ∧ 0 ≤ most)
    ⟨1, 0, 1, none, none, none, none, none, none, none, none, none, none, none, rfl, x0, by decide, by decide⟩ (fun i σ H' _ ⟨_, _, _, _, _, _, _, _, _, _, _, _, _, _, _, x', _⟩ => SqL.of (x' _ _ L0.at_)) ?_ ?_
  · rintro i x T σ H1 hx ⟨size, most, wait, v4, v5, v6, v7, v8, v9, v10, v11, v12, v13, v14, rfl, x1, hs, hm⟩ hT
    obtain ⟨t, part, place, count, shown, ml, ns, rfl, ht, hml, hmq, hns⟩ := L0.pts x (mem_at hx)
    have hil : i < us.length := (List.getElem?_eq_some_iff.mp hx).1
    have x2 : Same H (upd H1 T (.tup [.int (i : Nat), .ref t])) := fun y o h => upd_keep (x1 y o h) hT
    refine ⟨T, _, rfl, SqT.of upd_same, rfl, _, _, rfl, _, _, rfl, ⟨t, _, rfl, SqT.of (x2 _ _ ht), rfl, _, _, rfl, _, _, rfl, _, _, rfl, _, _, rfl, _, _, rfl, rfl, rfl, ?_⟩⟩
    have pt : ∀ {H' : Hp} {v : V}, Same H H' → v ∈ us → PtAt H' q v := fun x h => (L0.pts _ h).same x
    have hlu := L0.len
    generalize upd H1 T (.tup [.int (i : Nat), .ref t]) = H2 at x2
    -- ahead
    refine ⟨_, rfl, _, rfl, _, rfl, q, us, rfl, SqL.of (x2 _ _ L0.at_), fun p hp => ⟨p, rfl, ⟨_, SqL.of upd_same⟩, fun D hD => ?_⟩⟩
    have xp : Same H (upd H2 p (.lst (cutV us none (some (i : Int))))) := fun y o h => upd_keep (x2 y o h) hp
    refine lc_list (K := K) (a := p) (xs := cutV us none (some (i : Int))) (PvW D _ fun v => v ∈ us) (PvW.zero hD) (fun j H' _ ⟨_, _, _, _, x'⟩ => SqL.of (x' _ _ upd_same)) (fun j v H5 hv pw => ?_) fun H5 ⟨ah, h5, hl5, hg5, x5⟩ => ?_
    · have hvu := cutV_sub v (mem_at hv)
      have hj : j < 1000 := by have := (List.getElem?_eq_some_iff.mp hv).1; have := cutV_length us none (some (i : Int)); omega
      obtain ⟨_, _, _, _, x5⟩ := id pw
      obtain ⟨t', a', b', c', d', ml', ns', rfl, g1, g2, g3, g4⟩ := pt (fun y o h => x5 y o (xp y o h)) hvu
      refine ⟨rfl, _, rfl, t', _, 0, _, rfl, rfl, SqT.of g1, rfl, _, rfl, rfl, _, rfl, ite2 (fun _ => ?_) fun _ => pw.skip fun _ _ h => h⟩
      exact ⟨_, rfl, pw.add (fun _ _ h => h) hvu hj hD⟩
    have x5' : Same H H5 := fun y o h => x5 y o (xp y o h)
    have LA : LsP H5 q D ah := LsP.of x5' L0 h5 hg5 (by have := cutV_length us none (some (i : Int)); omega)
    clear hl5 h5
    -- to_come
    refine ⟨_, rfl, _, rfl, _, rfl, q, us, rfl, SqL.of (x5' _ _ L0.at_), fun p2 hp2 => ⟨p2, rfl, ⟨_, SqL.of upd_same⟩, fun D2 hD2 => ?_⟩⟩
    have xp2 : Same H5 (upd H5 p2 (.lst (cutV us (some (i : Int)) none))) := upd0 hp2
    refine lc_list (K := K) (a := p2) (xs := cutV us (some (i : Int)) none) (PvW D2 _ fun v => ∃ i, v = V.int i) (PvW.zero hD2) (fun j H' _ ⟨_, _, _, _, x'⟩ => SqL.of (x' _ _ upd_same)) (fun j v H6 hv pw => ?_) fun H6 ⟨tc, h6, hl6, hg6, x6⟩ => ?_
    · have hvu := cutV_sub v (mem_at hv)
      have hj : j < 1000 := by have := (List.getElem?_eq_some_iff.mp hv).1; have := cutV_length us (some (i : Int)) none; omega
      obtain ⟨_, _, _, _, x6⟩ := id pw
      obtain ⟨t', a', b', c', d', ml', ns', rfl, g1, g2, g3, g4⟩ := pt (fun y o h => x6 y o (xp2 y o (x5' y o h))) hvu
      refine ⟨rfl, _, rfl, t', _, 0, _, rfl, rfl, SqT.of g1, rfl, _, rfl, rfl, _, rfl, ite2 (fun _ => ?_) fun _ => pw.skip fun _ _ h => h⟩
      refine ⟨_, rfl, t', _, 3, _, rfl, rfl, SqT.of g1, rfl, _, rfl, ite2 (fun _ => ?_) fun _ => pw.skip fun _ _ h => h⟩
      exact ⟨_, rfl, t', _, 2, _, rfl, rfl, SqT.of g1, rfl, pw.add (fun _ _ h => h) ⟨_, rfl⟩ hj hD2⟩
    obtain ⟨tn, rfl⟩ := ints_list hg6
    have x56 : Same H5 H6 := fun y o h => x6 y o (xp2 y o h)
    have x6' : Same H H6 := fun y o h => x56 y o (x5' y o h)
    have LA6 := LA.same x56
    -- late
    refine ⟨_, rfl, D, rfl, ⟨_, SqL.of LA6.at_⟩, fun D3 hD3 => ?_⟩
    refine lc_list (K := K) (a := D) (xs := ah) (PvW D3 H6 fun v => v ∈ us) (PvW.zero hD3) (fun j H' _ ⟨_, _, _, _, x'⟩ => SqL.of (x' _ _ LA6.at_)) (fun j v H7 hv pw => ?_) fun H7 ⟨lt, h7, hl7, hg7, x7⟩ => ?_
    · have hvu := hg5 v (mem_at hv)
      have hj : j < 1000 := by have := (List.getElem?_eq_some_iff.mp hv).1; have := LA.len; omega
      obtain ⟨_, _, _, _, x7⟩ := id pw
      obtain ⟨t', a', b', c', d', ml', ns', rfl, g1, g2, g3, g4⟩ := pt (fun y o h => x7 y o (x6' y o h)) hvu
      refine ⟨rfl, _, rfl, t', _, 3, _, rfl, rfl, SqT.of g1, rfl, _, rfl, ite2 (fun _ => ?_) fun _ => pw.skip fun _ _ h => h⟩
      refine ⟨_, rfl, Nat.zero_le _, fun z hz => ?_⟩
      have htc : upd H7 z (.lst []) D2 = some (.lst (tn.map V.int)) := upd_keep (x7 _ _ h6) hz
      refine ne_nil (ds := tn.map PyData.int) (.lst (SqL.of htc) (dp_ints tn)) (fun d hd => by
        obtain ⟨n, _, rfl⟩ := List.mem_map.mp hd
        exact ⟨rfl, by show 0 ≤ 60; decide⟩) upd_same ⟨_, rfl, ite2 (fun hne => ?_) fun _ => pw.skip (upd0 hz)⟩
      have hpos : 0 < tn.length := by
        rw [isEmpty_map] at hne
        cases tn with
        | nil => cases hne
        | cons _ _ => exact Nat.succ_pos _
      refine ⟨_, rfl, t', _, 2, _, rfl, rfl, SqT.of (upd_keep g1 hz), rfl, _, rfl, D2, tn, rfl, SqL.of htc, hpos, fun m _ _ => ⟨_, _, rfl, rfl, _, rfl, ite2 (fun _ => ?_) fun _ => pw.skip (upd0 hz)⟩⟩
      exact ⟨_, rfl, pw.add (upd0 hz) hvu hj hD3⟩
    have x7' : Same H H7 := fun y o h => x7 y o (x6' y o h)
    have LA7 := LA6.same x7
    have LL : LsP H7 q D3 lt := LsP.of x7' L0 h7 hg7 (Nat.le_trans hl7 LA.len)
    -- held
    refine ⟨_, rfl, D, rfl, ⟨_, SqL.of LA7.at_⟩, fun D4 hD4 => ?_⟩
    refine lc_list (K := K) (a := D) (xs := ah) (PvW D4 H7 fun v => v ∈ us) (PvW.zero hD4) (fun j H' _ ⟨_, _, _, _, x'⟩ => SqL.of (x' _ _ LA7.at_)) (fun j v H8 hv pw => ?_) fun H8 ⟨hd8, h8, hl8, hg8, x8⟩ => ?_
    · have hvu := hg5 v (mem_at hv)
      have hj : j < 1000 := by have := (List.getElem?_eq_some_iff.mp hv).1; have := LA.len; omega
      obtain ⟨_, _, _, _, x8⟩ := id pw
      have pv8 := pt (fun y o h => x8 y o (x7' y o h)) hvu
      obtain ⟨t', a', b', c', d', ml', ns', rfl, g1, g2, g3, g4⟩ := id pv8
      have hml8 : H8 ml = some (.lst (ns.map V.int)) := x8 _ _ (x7' _ _ hml)
      refine ⟨rfl, _, rfl, t', _, 1, _, rfl, rfl, SqT.of g1, rfl, _, rfl, ml, _, rfl, .inl (SqL.of hml8), rfl, ?_, _, rfl, ite2 (fun _ => ⟨_, rfl, pw.add (fun _ _ h => h) hvu hj hD4⟩) fun _ => ?_⟩
      · rw [List.all_eq_true]
        intro z hz
        obtain ⟨n, _, rfl⟩ := List.mem_map.mp hz
        rfl
      · obtain ⟨d, e1, e2⟩ := pv8.dp (K := K)
        have LL8 := LL.same x8
        obtain ⟨ds, e3, e4⟩ := dpPts (K := K) LL8.pts
        exact ⟨_, rfl, _, rfl, d, ds, e1, .lst (SqL.of LL8.at_) e3, shaped_d e2, shaped_l e4, _, rfl, ite2 (fun _ => ⟨_, rfl, pw.add (fun _ _ h => h) hvu hj hD4⟩) fun _ => pw.skip fun _ _ h => h⟩
    have x8' : Same H H8 := fun y o h => x8 y o (x7' y o h)
    have LA8 := LA7.same x8
    refine ⟨_, rfl, _, rfl, _, _, rfl, .inl (SqL.of h8), _, _, rfl, rfl, _, _, rfl, ?_⟩
    have hs' : 1 ≤ (if 1 + ((hd8.length : Nat) : Int) > size then 1 + ((hd8.length : Nat) : Int) else size) := by split <;> omega
    generalize (if 1 + ((hd8.length : Nat) : Int) > size then 1 + ((hd8.length : Nat) : Int) else size) = size' at hs'
    refine ⟨_, rfl, shown, rfl, ite2 (fun _ => ?_) fun _ => ?_⟩
    · refine ⟨_, rfl, _, rfl, D, rfl, ⟨_, SqL.of LA8.at_⟩, fun D5 hD5 => ?_⟩
      refine lc_list (K := K) (a := D) (xs := ah) (PvW D5 H8 fun v => v ∈ us) (PvW.zero hD5) (fun j H' _ ⟨_, _, _, _, x'⟩ => SqL.of (x' _ _ LA8.at_)) (fun j v H9 hv pw => ?_) fun H9 ⟨a9, h9, hl9, hg9, x9⟩ => ?_
      · have hvu := hg5 v (mem_at hv)
        have hj : j < 1000 := by have := (List.getElem?_eq_some_iff.mp hv).1; have := LA.len; omega
        obtain ⟨_, _, _, _, x9⟩ := id pw
        obtain ⟨t', a', b', c', d', ml', ns', rfl, g1, g2, g3, g4⟩ := pt (fun y o h => x9 y o (x8' y o h)) hvu
        refine ⟨rfl, _, rfl, t', _, 3, _, rfl, rfl, SqT.of g1, rfl, _, rfl, ite2 (fun _ => ?_) fun _ => pw.skip fun _ _ h => h⟩
        exact ⟨_, rfl, t', _, 2, _, rfl, rfl, SqT.of g1, rfl, _, rfl, _, _, rfl, rfl, _, rfl, ite2 (fun _ => ⟨_, rfl, pw.add (fun _ _ h => h) hvu hj hD5⟩) fun _ => pw.skip fun _ _ h => h⟩
      have x9' : Same H H9 := fun y o h => x9 y o (x8' y o h)
      refine ⟨_, _, rfl, .inl (SqL.of h9), _, _, rfl, ?_⟩
      have hm' : 0 ≤ (if ((a9.length : Nat) : Int) > most then ((a9.length : Nat) : Int) else most) := by split <;> omega
      generalize (if ((a9.length : Nat) : Int) > most then ((a9.length : Nat) : Int) else most) = most' at hm'
      refine ⟨_, rfl, _, rfl, _, _, rfl, rfl, _, rfl, q, us, rfl, SqL.of (x9' _ _ L0.at_), fun p6 hp6 => ⟨p6, rfl, ⟨_, SqL.of upd_same⟩, fun D6 hD6 => ?_⟩⟩
      refine lc_list (K := K) (a := p6) (xs := cutV us (some ((i : Int) + 1)) none) (PvW D6 _ fun v => v ∈ us) (PvW.zero hD6) (fun j H' _ ⟨_, _, _, _, x'⟩ => SqL.of (x' _ _ upd_same)) (fun j v H10 hv pw => ?_) fun H10 ⟨a10, h10, hl10, hg10, x10⟩ => ?_
      · have hvu := cutV_sub v (mem_at hv)
        have hj : j < 1000 := by have := (List.getElem?_eq_some_iff.mp hv).1; have := cutV_length us (some ((i : Int) + 1)) none; omega
        obtain ⟨_, _, _, _, x10⟩ := id pw
        obtain ⟨t', a', b', c', d', ml', ns', rfl, g1, g2, g3, g4⟩ := pt (fun y o h => x10 y o (upd_keep (x9' y o h) hp6)) hvu
        refine ⟨rfl, _, rfl, t', _, 0, _, rfl, rfl, SqT.of g1, rfl, _, rfl, rfl, _, rfl, ite2 (fun _ => ?_) fun _ => pw.skip fun _ _ h => h⟩
        refine ⟨_, rfl, t', _, 3, _, rfl, rfl, SqT.of g1, rfl, _, rfl, ite2 (fun _ => ?_) fun _ => pw.skip fun _ _ h => h⟩
        exact ⟨_, rfl, t', _, 2, _, rfl, rfl, SqT.of g1, rfl, _, rfl, _, _, rfl, rfl, _, rfl, ite2 (fun _ => ⟨_, rfl, pw.add (fun _ _ h => h) hvu hj hD6⟩) fun _ => pw.skip fun _ _ h => h⟩
      · have x10' : Same H H10 := fun y o h => x10 y o (upd_keep (x9' y o h) hp6)
        exact ⟨_, rfl, _, rfl, _, _, rfl, .inl (SqL.of h10), _, _, rfl, _, _, _, _, _, _, _, _, _, _, _, _, _, _, rfl, x10', hs', hm'⟩
    · exact ⟨_, _, _, _, _, _, _, _, _, _, _, _, _, _, rfl, x8', hs', hm⟩
  · rintro σ H1 ⟨size, most, wait, v4, v5, v6, v7, v8, v9, v10, v11, v12, v13, v14, rfl, x1, hs, hm⟩
    refine ⟨_, rfl, _, rfl, _, _, rfl, rfl, _, _, rfl, _, rfl, _, rfl, by show 3 ≤ sizeLine; decide, fun r hr => ?_⟩
    exact k _ r _ _ _ (fun y o h => upd_keep (x1 y o h) hr) upd_same (by split <;> omega) hm
end

end L2.K13
set_option Elab.async false
set_option linter.all false
set_option maxRecDepth 100000
set_option maxHeartbeats 4000000
set_option pp.maxSteps 150
namespace L2.K13
open PySem PySem.Spec PyProof.Rows L2
/-! ### d.update(e), two dicts of ints and texts -/
theorem type_dict_update : typeOf (.builtin "dict.update") = pure (.type "method_descriptor") := by show builtinType _ = _; rw [builtinType_eq_fast]; kernel_rfl
def rDup : V → List V → Hp → VK → Prop := fun x vs H Q => ∃ (a b : Addr) (kvs ls : List (Key × V)), x = .ref a ∧ vs = [.ref b] ∧ H a = some (.dK kvs) ∧ H b = some (.dK ls) ∧ a ≠ b ∧ kvs.length + ls.length ≤ 1000 ∧ Q .non (upd H a (.dK (mergeK kvs ls)))
section
variable {X : Cx}
theorem mt_dup : MtR X "dict.update" rDup := by
  intro pins s σ H x vs v us Q I rx rv h
  obtain ⟨a, b, kvs, ls, rfl, rfl, ha, hb, hne, hl, q⟩ := h
  cases rx
  obtain ⟨u, rfl, ru⟩ := rv.one
  cases ru
  obtain ⟨z, hd, xs, rel, dd⟩ := dk_of I.hok ha
  obtain ⟨z2, hd2, ys, rel2, dd2⟩ := dk_of I.hok hb
  have e1 := rel.length
  have e2 := rel2.length
  have hs : (1000 : Nat) ≤ sizeLine := by decide
  refine call_meetsIn PySem.F.slot_dict_update dd.typeIs PySem.F.entry_dict_update (PySem.F.args_dict_update_2 _ _) (meets_dict_update (mixKind X.prog X.w) a b hne hd2) ⟨xs, ys, dd, dd2, by omega, fun h' hm _ hsb => ?_⟩
  have hz : (mergeK kvs ls).length ≤ sizeLine := Nat.le_trans (length_mergeK ls kvs) (by omega)
  have he : ∃ q, h'.get? a = some q := let ⟨q, _, _, hq, _⟩ := hm; ⟨q, hq⟩
  exact ⟨.non, _, d_write (t' := s.toks) I (by rw [ha]; exact True.intro) hsb he (dk_new hz hd (rel2.merge rel) hm), rfl, q⟩
end
end L2.K13
set_option Elab.async false
set_option linter.all false
set_option maxRecDepth 100000
set_option maxHeartbeats 4000000
set_option pp.maxSteps 150
namespace L2.K13
open PySem PySem.Spec PyProof.Rows L2
open C8 (Cal Met Mak pe_c pe_mt pe_mt0 pe_mk)
local macro_rules | `(tactic| walk_at "hp") => `(tactic| first | assumption | exact upd_same | (refine upd_keep ?_ (by assumption); walk_at "hp") | (refine upd_off ?_ (by assumption) (by intro z; cases z); walk_at "hp"))
local macro_rules | `(tactic| walk_at "seq") => `(tactic| first | assumption | exact SqT.of (by walk_at "hp") | exact SqL.of (by walk_at "hp"))
section
/-- the state of a sound stream -/
structure SS where
  bits : Nat
  ml : Addr
  st : Addr
  last : Int
  entry : Int
  lo : Addr
  an : Bool
  nw : Bool
  layers : Nat
  hush : Int
  marks : List V
  ts : List (Option Pic)
  lows : List Int
def ssl (s : SS) : List (Key × V) := [(.inr "span", .int ((2 ^ s.bits : Nat) : Int)), (.inr "marks", .ref s.ml), (.inr "stream", .ref s.st), (.inr "last", .int s.last), (.inr "entry", .int s.entry), (.inr "lows", .ref s.lo), (.inr "anew", .bl s.an), (.inr "new", .bl s.nw), (.inr "layers", .int (s.layers : Nat)), (.inr "hush", .int s.hush)]
theorem sd_span (s : SS) : valV (ssl s) (.inr "span") = some (.int ((2 ^ s.bits : Nat) : Int)) := by kernel_rfl
theorem SS.gSpan {H : Hp} {x : Addr} {s : SS} (h : H x = some (.dK (ssl s))) : DGet H x (.str "span") (some (.int ((2 ^ s.bits : Nat) : Int))) := by
  have := DGet.k (k := .inr "span") h
  rwa [sd_span] at this
theorem sd_marks (s : SS) : valV (ssl s) (.inr "marks") = some (.ref s.ml) := by kernel_rfl
theorem SS.gMarks {H : Hp} {x : Addr} {s : SS} (h : H x = some (.dK (ssl s))) : DGet H x (.str "marks") (some (.ref s.ml)) := by
  have := DGet.k (k := .inr "marks") h
  rwa [sd_marks] at this
theorem sd_stream (s : SS) : valV (ssl s) (.inr "stream") = some (.ref s.st) := by kernel_rfl
theorem SS.gStream {H : Hp} {x : Addr} {s : SS} (h : H x = some (.dK (ssl s))) : DGet H x (.str "stream") (some (.ref s.st)) := by
  have := DGet.k (k := .inr "stream") h
  rwa [sd_stream] at this
theorem sd_last (s : SS) : valV (ssl s) (.inr "last") = some (.int s.last) := by kernel_rfl
theorem SS.gLast {H : Hp} {x : Addr} {s : SS} (h : H x = some (.dK (ssl s))) : DGet H x (.str "last") (some (.int s.last)) := by
  have := DGet.k (k := .inr "last") h
  rwa [sd_last] at this
theorem sd_entry (s : SS) : valV (ssl s) (.inr "entry") = some (.int s.entry) := by kernel_rfl
theorem SS.gEntry {H : Hp} {x : Addr} {s : SS} (h : H x = some (.dK (ssl s))) : DGet H x (.str "entry") (some (.int s.entry)) := by
  have := DGet.k (k := .inr "entry") h
  rwa [sd_entry] at this
theorem sd_lows (s : SS) : valV (ssl s) (.inr "lows") = some (.ref s.lo) := by kernel_rfl
theorem SS.gLows {H : Hp} {x : Addr} {s : SS} (h : H x = some (.dK (ssl s))) : DGet H x (.str "lows") (some (.ref s.lo)) := by
  have := DGet.k (k := .inr "lows") h
  rwa [sd_lows] at this
theorem sd_anew (s : SS) : valV (ssl s) (.inr "anew") = some (.bl s.an) := by kernel_rfl
theorem SS.gAnew {H : Hp} {x : Addr} {s : SS} (h : H x = some (.dK (ssl s))) : DGet H x (.str "anew") (some (.bl s.an)) := by
  have := DGet.k (k := .inr "anew") h
  rwa [sd_anew] at this
theorem sd_new (s : SS) : valV (ssl s) (.inr "new") = some (.bl s.nw) := by kernel_rfl
theorem SS.gNew {H : Hp} {x : Addr} {s : SS} (h : H x = some (.dK (ssl s))) : DGet H x (.str "new") (some (.bl s.nw)) := by
  have := DGet.k (k := .inr "new") h
  rwa [sd_new] at this
theorem sd_layers (s : SS) : valV (ssl s) (.inr "layers") = some (.int (s.layers : Nat)) := by kernel_rfl
theorem SS.gLayers {H : Hp} {x : Addr} {s : SS} (h : H x = some (.dK (ssl s))) : DGet H x (.str "layers") (some (.int (s.layers : Nat))) := by
  have := DGet.k (k := .inr "layers") h
  rwa [sd_layers] at this
theorem sd_hush (s : SS) : valV (ssl s) (.inr "hush") = some (.int s.hush) := by kernel_rfl
theorem SS.gHush {H : Hp} {x : Addr} {s : SS} (h : H x = some (.dK (ssl s))) : DGet H x (.str "hush") (some (.int s.hush)) := by
  have := DGet.k (k := .inr "hush") h
  rwa [sd_hush] at this
theorem sp_marks (s : SS) (v : Addr) (vs : List V) : putK (ssl s) (.inr "marks") (.ref v) = ssl { s with ml := v, marks := vs } := by kernel_rfl
theorem SS.pMarks {H : Hp} {x : Addr} {s : SS} (h : H x = some (.dK (ssl s))) (v : Addr) (vs : List V) : DPut H x (.str "marks") (.ref v) (upd H x (.dK (ssl { s with ml := v, marks := vs }))) := by
  have := DPut.k (k := .inr "marks") (v := .ref v) h (by show 10 < sizeLine; decide)
  rwa [sp_marks s v vs] at this
theorem sp_last (s : SS) (v : Int) : putK (ssl s) (.inr "last") (.int v) = ssl { s with last := v } := by kernel_rfl
theorem SS.pLast {H : Hp} {x : Addr} {s : SS} (h : H x = some (.dK (ssl s))) (v : Int) : DPut H x (.str "last") (.int v) (upd H x (.dK (ssl { s with last := v }))) := by
  have := DPut.k (k := .inr "last") (v := .int v) h (by show 10 < sizeLine; decide)
  rwa [sp_last s v] at this
theorem sp_entry (s : SS) (v : Int) : putK (ssl s) (.inr "entry") (.int v) = ssl { s with entry := v } := by kernel_rfl
theorem SS.pEntry {H : Hp} {x : Addr} {s : SS} (h : H x = some (.dK (ssl s))) (v : Int) : DPut H x (.str "entry") (.int v) (upd H x (.dK (ssl { s with entry := v }))) := by
  have := DPut.k (k := .inr "entry") (v := .int v) h (by show 10 < sizeLine; decide)
  rwa [sp_entry s v] at this
theorem sp_lows (s : SS) (v : Addr) (vs : List Int) : putK (ssl s) (.inr "lows") (.ref v) = ssl { s with lo := v, lows := vs } := by kernel_rfl
theorem SS.pLows {H : Hp} {x : Addr} {s : SS} (h : H x = some (.dK (ssl s))) (v : Addr) (vs : List Int) : DPut H x (.str "lows") (.ref v) (upd H x (.dK (ssl { s with lo := v, lows := vs }))) := by
  have := DPut.k (k := .inr "lows") (v := .ref v) h (by show 10 < sizeLine; decide)
  rwa [sp_lows s v vs] at this
theorem sp_anew (s : SS) (v : Bool) : putK (ssl s) (.inr "anew") (.bl v) = ssl { s with an := v } := by kernel_rfl
theorem SS.pAnew {H : Hp} {x : Addr} {s : SS} (h : H x = some (.dK (ssl s))) (v : Bool) : DPut H x (.str "anew") (.bl v) (upd H x (.dK (ssl { s with an := v }))) := by
  have := DPut.k (k := .inr "anew") (v := .bl v) h (by show 10 < sizeLine; decide)
  rwa [sp_anew s v] at this
theorem sp_new (s : SS) (v : Bool) : putK (ssl s) (.inr "new") (.bl v) = ssl { s with nw := v } := by kernel_rfl
theorem SS.pNew {H : Hp} {x : Addr} {s : SS} (h : H x = some (.dK (ssl s))) (v : Bool) : DPut H x (.str "new") (.bl v) (upd H x (.dK (ssl { s with nw := v }))) := by
  have := DPut.k (k := .inr "new") (v := .bl v) h (by show 10 < sizeLine; decide)
  rwa [sp_new s v] at this
/-- a mark: (count, place, layer, kept, sort, how) -/
abbrev mkV (c p ly : Int) (kp : Bool) (so how : Str) : List V := [.int c, .int p, .int ly, .bl kp, .str so, .str how]
def MarkAt (H : Hp) (v : V) : Prop := ∃ r c p ly kp so how, v = .ref r ∧ H r = some (.lst (mkV c p ly kp so how))
end
section
variable {P : Program} {w : World} {K : PySem.W.Frag} {mg : Str → Option Value} {base : Heap}
def spMayN (K : PySem.W.Frag) : Sp := fun vs H Q _ => ∃ (x : Addr) (s : SS) (sort : Str) (v : V), vs = [.ref x, .str sort, v] ∧ H x = some (.dK (ssl s)) ∧ MarkAt H v ∧ ∀ H' b, Same H H' → Q (.bl b) H'
theorem ok_mayN (T : Fx K mg) (F : DF K mg "_law_may_name" s_may_name ["_law_state", "_law_sort", "_law_mark"]) : Cal P w K mg base 1 "_law_may_name" (spMayN K) [] := by
  refine F.cal sc_may_name (fun vs H Q E h => ?_) (fun f cdv A outer s H vs Q E hr h => ?_)
  · obtain ⟨_, _, _, _, rfl, _⟩ := h
    rfl
  obtain ⟨x, s, sort, v, rfl, hx, ⟨m, c, p, ly, kp, so, how, rfl, hm⟩, k⟩ := h
  have nd := sc_may_name.nd
  have hu := hu_of hr
  refine ⟨_, (pss_cons (ps_set (i := 3) nd rfl (Or.inl rfl) (pe_cmpR op_in_seq (pe_ix ix_list (pv 2) pe_int (fun _ _ => rfl)) (pe_tup (pa_cons pe_str (pa_cons pe_str pa_nil))) (by with_unfolding_all rfl)))
  (pss_one (ps_ret (pe_or (pe_cmpR op_in_seq (pv 1) (pe_tup (pa_cons pe_str (pa_cons pe_str pa_nil))) (by with_unfolding_all rfl)) (pe_one (pe_and (pe_cmpR op_ge (pe_ix ix_list (pv 2) pe_int (fun _ _ => rfl)) (pe_dget hu (pv 0) pe_str (fun _ _ => rfl)) (nomark _)) (pe_one (pe_not (pv 3))))))))), ?_⟩
  refine ⟨_, rfl, m, _, 4, _, rfl, rfl, SqL.of hm, rfl, by show 2 ≤ sizeLine; decide, fun t ht => ⟨t, _, rfl, .inr (SqT.of upd_same), rfl, rfl, ?_⟩⟩
  generalize (if false = true then !inV (.str so) [.str "skip", .str "lead"] else inV (.str so) [.str "skip", .str "lead"]) = il
  have x1 : Same H (upd H t (.tup [.str "skip", .str "lead"])) := upd0 ht
  refine ⟨_, rfl, by show 2 ≤ sizeLine; decide, fun t2 ht2 => ⟨t2, _, rfl, .inr (SqT.of upd_same), rfl, rfl, _, rfl, ?_⟩⟩
  have x2 : Same H (upd (upd H t (.tup [.str "skip", .str "lead"])) t2 (.tup [.str "skip", .str "lead"])) := fun y o h => upd_keep (x1 y o h) ht2
  refine ite2 (fun _ => k _ true x2) fun _ => ?_
  refine ⟨_, rfl, m, _, 1, _, rfl, rfl, SqL.of (x2 _ _ hm), rfl, _, rfl, x, _, rfl, SS.gEntry (x2 _ _ hx), _, _, rfl, rfl, _, rfl, ite2 (fun _ => ?_) fun _ => k _ false x2⟩
  exact ⟨_, rfl, il, rfl, k _ _ x2⟩
def spMayU (K : PySem.W.Frag) : Sp := fun vs H Q _ => ∃ (x : Addr) (s : SS) (sort : Str) (layer : Int) (v : V), vs = [.ref x, .str sort, .int layer, v] ∧ H x = some (.dK (ssl s)) ∧ MarkAt H v ∧ ∀ b, Q (.bl b) H
theorem ok_mayU (T : Fx K mg) (F : DF K mg "_law_may_use" s_may_use ["_law_state", "_law_sort", "_law_layer_so", "_law_mark"]) : Cal P w K mg base 1 "_law_may_use" (spMayU K) [] := by
  refine F.cal sc_may_use (fun vs H Q E h => ?_) (fun f cdv A outer s H vs Q E hr h => ?_)
  · obtain ⟨_, _, _, _, _, rfl, _⟩ := h
    rfl
  obtain ⟨x, s, sort, layer, v, rfl, hx, ⟨m, c, p, ly, kp, so, how, rfl, hm⟩, k⟩ := h
  have nd := sc_may_use.nd
  have hu := hu_of hr
  refine ⟨_, (pss_cons (ps_if (PW.pt (pw_or (pt_cmpR op_eq (pv 1) pe_str (nomark _)) (pw_or (pt_cmpR op_gt (pe_ix ix_list (pv 3) pe_int (fun _ _ => rfl)) (pv 2) (nomark _)) (pw_or1 (PW.pt (pw_and (pt_cmpR op_eq (pe_ix ix_list (pv 3) pe_int (fun _ _ => rfl)) (pv 2) (nomark _)) (pw_and1 (pt_not (pt_val (pe_ix ix_list (pv 3) pe_int (fun _ _ => rfl))))))))))) (pss_one (ps_ret pe_bl)) pss_nil)
  (pss_cons (ps_set (i := 4) nd rfl (Or.inl rfl) (pe_or (pe_cmpR op_eq (pe_ix ix_list (pv 3) pe_int (fun _ _ => rfl)) (pe_dget hu (pv 0) pe_str (fun _ _ => rfl)) (nomark _)) (pe_one (pe_and (pe_cmpR op_eq (pe_ix ix_list (pv 3) pe_int (fun _ _ => rfl)) pe_str (nomark _)) (pe_one (pe_cmpR op_gt (pe_ix ix_list (pv 3) pe_int (fun _ _ => rfl)) (pe_dget hu (pv 0) pe_str (fun _ _ => rfl)) (nomark _)))))))
  (pss_one (ps_ret (pe_or (pe_cmpR op_ne (pv 1) pe_str (nomark _)) (pe_one (pv 4))))))), ?_⟩
  have im : ∀ (i : Nat) {y : V}, (mkV c p ly kp so how)[i]? = some y → atI (mkV c p ly kp so how) (i : Int) = some y := fun i {y} h => atI_natE h
  change tOr _ _ _ _ _
  refine tt_cut (fun b H1 => H1 = H) ?_ fun key => ?_
  · rintro b H1 rfl
    refine ite2 (fun _ => k false) fun _ => ?_
    unfold tNext
    dsimp only
    change tOrV _ _ _ _ _
    refine or_cut (fun v H2 => ∃ b : Bool, v = .bl b ∧ H2 = H1) ?_ fun key2 => ?_
    · rintro v H2 ⟨b, rfl, rfl⟩
      exact ⟨_, rfl, rfl, _, rfl, ite2 (fun _ => k true) fun _ => ⟨_, rfl, k b⟩⟩
    · refine ⟨_, rfl, m, _, 1, _, rfl, rfl, SqL.of hm, rfl, _, rfl, x, _, rfl, SS.gEntry hx, rfl, _, rfl, ite2 (fun _ => key2 _ _ ⟨true, rfl, rfl⟩) fun _ => ?_⟩
      refine ⟨_, rfl, m, _, 4, _, rfl, rfl, SqL.of hm, rfl, rfl, _, rfl, ite2 (fun _ => ?_) fun _ => key2 _ _ ⟨false, rfl, rfl⟩⟩
      exact ⟨_, rfl, m, _, 1, _, rfl, rfl, SqL.of hm, rfl, _, rfl, x, _, rfl, SS.gEntry hx, _, _, rfl, rfl, key2 _ _ ⟨_, rfl, rfl⟩⟩
  · refine ⟨_, rfl, rfl, _, rfl, ite2 (fun _ => key true _ rfl) fun _ => ?_⟩
    refine ⟨_, rfl, m, _, 2, _, rfl, rfl, SqL.of hm, rfl, _, rfl, _, _, rfl, rfl, _, rfl, ite2 (fun _ => key true _ rfl) fun _ => ?_⟩
    refine ⟨_, rfl, m, _, 2, _, rfl, rfl, SqL.of hm, rfl, _, rfl, rfl, _, rfl, ite2 (fun _ => ?_) fun _ => key false _ rfl⟩
    exact ⟨_, rfl, m, _, 3, _, rfl, rfl, SqL.of hm, rfl, _, rfl, key _ _ rfl⟩
end

end L2.K13
set_option Elab.async false
set_option linter.all false
set_option maxRecDepth 100000
set_option maxHeartbeats 4000000
set_option pp.maxSteps 150
namespace L2.K13
open PySem PySem.Spec PyProof.Rows L2
open C8 (Cal Met Mak pe_c pe_mt pe_mt0 pe_mk)
local macro_rules | `(tactic| walk_at "hp") => `(tactic| first | assumption | exact upd_same | (refine upd_keep ?_ (by assumption); walk_at "hp") | (refine upd_off ?_ (by assumption) (by intro z; cases z); walk_at "hp"))
local macro_rules | `(tactic| walk_at "seq") => `(tactic| first | assumption | exact SqT.of (by walk_at "hp") | exact SqL.of (by walk_at "hp"))
section
structure Sst (K : PySem.W.Frag) (H : Hp) (b : Addr) (n : Nat) (x : Addr) (s : SS) : Prop where
  box : Box H b n
  hx : H x = some (.dK (ssl s))
  hm : H s.ml = some (.lst s.marks)
  mat : ∀ v ∈ s.marks, MarkAt H v
  mlen : s.marks.length ≤ s.ts.length
  hst : LD K 3 H s.st (s.ts.map encThing)
  tok : ∀ t ∈ s.ts, ThingOk t ∧ LowOk (2 ^ s.bits) t
  hlo : H s.lo = some (.lst (s.lows.map V.int))
  nmb : s.ml ≠ b
  nsb : s.st ≠ b
  nlb : s.lo ≠ b
  nms : s.ml ≠ s.st
  nls : s.lo ≠ s.st
  b0 : 2 ≤ s.bits
  b1 : s.bits ≤ 5
  y0 : 1 ≤ s.layers
  y1 : s.layers ≤ 3
  tl : s.ts.length ≤ 60
  wl : s.lows.length ≤ s.ts.length
theorem Box.nx {H : Hp} {b x : Addr} {n : Nat} {kvs : List (Key × V)} (h : Box H b n) (g : H x = some (.dK kvs)) : x ≠ b := fun e => by
  obtain ⟨_, _, _, h, _⟩ := h
  rw [e, h] at g
  cases g
theorem MarkAt.nb {H : Hp} {b : Addr} {n : Nat} (h : Box H b n) {r : Addr} {c p ly : Int} {kp : Bool} {so how : Str} (g : H r = some (.lst (mkV c p ly kp so how))) : r ≠ b := fun e => by
  obtain ⟨_, _, _, h, _⟩ := h
  rw [e, h] at g
  injection g with g
  injection g with g
  have := congrArg List.length g
  cases this
theorem MarkAt.fr {H H' : Hp} {b : Addr} {n : Nat} {v : V} (m : MarkAt H v) (h : Box H b n) (f : Fr (only b) H H') : MarkAt H' v := by
  obtain ⟨r, c, p, ly, kp, so, how, e, g⟩ := m
  exact ⟨r, c, p, ly, kp, so, how, e, f.out g (MarkAt.nb h g)⟩
theorem Sst.step {K : PySem.W.Frag} {H H' : Hp} {b x : Addr} {n n' : Nat} {s : SS} (k : Sst K H b n x s) (f : Fr (only b) H H') (h : Box H' b n') : Sst K H' b n' x s :=
  ⟨h, f.out k.hx (k.box.nx k.hx), f.out k.hm k.nmb, fun v hv => (k.mat v hv).fr k.box f, k.mlen, k.hst.fr f k.nsb, k.tok, f.out k.hlo k.nlb, k.nmb, k.nsb, k.nlb, k.nms, k.nls, k.b0, k.b1, k.y0, k.y1, k.tl, k.wl⟩
def ShV (H : Hp) (v : V) : Prop := ∃ (t : Addr) (i : Int) (c : Bool), v = .ref t ∧ H t = some (.tup [.int i, .bl c])
def LoV (H : Hp) (v : V) : Prop := ∃ (t : Addr) (i j : Int) (c : Bool), v = .ref t ∧ H t = some (.tup [.int i, .int j, .bl c])
theorem ShV.fr {S : Addr → Prop} {H H' : Hp} {v : V} (h : ShV H v) (f : Fr S H H') : ShV H' v := by
  obtain ⟨t, i, c, e, g⟩ := h
  exact ⟨t, i, c, e, f.tup g⟩
theorem LoV.fr {S : Addr → Prop} {H H' : Hp} {v : V} (h : LoV H v) (f : Fr S H H') : LoV H' v := by
  obtain ⟨t, i, j, c, e, g⟩ := h
  exact ⟨t, i, j, c, e, f.tup g⟩
theorem shs_of {K : PySem.W.Frag} {H : Hp} : ∀ {vs : List V}, (∀ v ∈ vs, ShV H v) → ∃ shs : List (Int × Bool), DpAll K H vs (shs.map encN) ∧ shs.length = vs.length
  | [], _ => ⟨[], .nil, rfl⟩
  | v :: vs, h => by
    obtain ⟨shs, h1, h2⟩ := shs_of (K := K) fun u hu => h u (List.mem_cons_of_mem _ hu)
    obtain ⟨t, i, c, rfl, g⟩ := h v (List.mem_cons_self ..)
    exact ⟨(i, c) :: shs, .cons (.tup (SqT.of g) (.cons (.int _) (.cons (.bl _) .nil))) h1, congrArg Nat.succ h2⟩
theorem los_of {K : PySem.W.Frag} {H : Hp} : ∀ {vs : List V}, (∀ v ∈ vs, LoV H v) → ∃ los : List (Int × Int × Bool), DpAll K H vs (los.map encL) ∧ los.length = vs.length
  | [], _ => ⟨[], .nil, rfl⟩
  | v :: vs, h => by
    obtain ⟨los, h1, h2⟩ := los_of (K := K) fun u hu => h u (List.mem_cons_of_mem _ hu)
    obtain ⟨t, i, j, c, rfl, g⟩ := h v (List.mem_cons_self ..)
    exact ⟨(i, j, c) :: los, .cons (.tup (SqT.of g) (.cons (.int _) (.cons (.int _) (.cons (.bl _) .nil)))) h1, congrArg Nat.succ h2⟩
theorem encN_ok {shs : List (Int × Bool)} : PySem.W.AllAlike (shs.map encN) ∧ PySem.W.Sortable (shs.map encN) ∧ ∀ d ∈ shs.map encN, d.depth ≤ 8 := by
  refine ⟨fun d hd d' hd' => ?_, .inl fun d hd => ?_, fun d hd => ?_⟩
  · obtain ⟨n, _, rfl⟩ := List.mem_map.mp hd
    obtain ⟨n', _, rfl⟩ := List.mem_map.mp hd'
    simp [encN, PySem.W.alike, PySem.W.alikeAll]
  · obtain ⟨n, _, rfl⟩ := List.mem_map.mp hd
    exact ⟨_, _, rfl⟩
  · obtain ⟨n, _, rfl⟩ := List.mem_map.mp hd
    show 1 ≤ 8
    decide
theorem encL_ok {los : List (Int × Int × Bool)} : PySem.W.AllAlike (los.map encL) ∧ PySem.W.Sortable (los.map encL) ∧ ∀ d ∈ los.map encL, d.depth ≤ 8 := by
  refine ⟨fun d hd d' hd' => ?_, .inl fun d hd => ?_, fun d hd => ?_⟩
  · obtain ⟨n, _, rfl⟩ := List.mem_map.mp hd
    obtain ⟨n', _, rfl⟩ := List.mem_map.mp hd'
    simp [encL, PySem.W.alike, PySem.W.alikeAll]
  · obtain ⟨n, _, rfl⟩ := List.mem_map.mp hd
    exact ⟨_, _, rfl⟩
  · obtain ⟨n, _, rfl⟩ := List.mem_map.mp hd
    show 1 ≤ 8
    decide
/-- chosen's own lists -/
structure CL (H0 H : Hp) (b n : Nat) (S L F : Addr) (i : Nat) (svs lvs fvs : List V) : Prop where
  hS : H S = some (.lst svs)
  hL : H L = some (.lst lvs)
  hF : H F = some (.lst fvs)
  sv : ∀ v ∈ svs, ShV H v
  lv : ∀ v ∈ lvs, LoV H v
  fv : ∀ v ∈ fvs, MarkAt H v
  sl : svs.length ≤ i
  ll : lvs.length ≤ i
  fl : fvs.length ≤ i
  fr : Fr (only b) H0 H
  s0 : H0 S = none
  l0 : H0 L = none
  f0 : H0 F = none
  bx : Box H b n
  sb : S ≠ b
  lb : L ≠ b
  fb : F ≠ b
  nSL : S ≠ L
  nSF : S ≠ F
  nLF : L ≠ F
variable {H0 H H' : Hp} {b : Addr} {n n' : Nat} {S L F : Addr} {i : Nat} {svs lvs fvs : List V}
theorem CL.step (k : CL H0 H b n S L F i svs lvs fvs) (f : Fr (only b) H H') (h : Box H' b n') : CL H0 H' b n' S L F i svs lvs fvs :=
  ⟨f.out k.hS k.sb, f.out k.hL k.lb, f.out k.hF k.fb, fun v hv => (k.sv v hv).fr f, fun v hv => (k.lv v hv).fr f, fun v hv => (k.fv v hv).fr k.bx f, k.sl, k.ll, k.fl, k.fr.tr f, k.s0, k.l0, k.f0, h, k.sb, k.lb, k.fb, k.nSL, k.nSF, k.nLF⟩
theorem CL.up (k : CL H0 H b n S L F i svs lvs fvs) : CL H0 H b n S L F (i + 1) svs lvs fvs :=
  ⟨k.hS, k.hL, k.hF, k.sv, k.lv, k.fv, Nat.le_succ_of_le k.sl, Nat.le_succ_of_le k.ll, Nat.le_succ_of_le k.fl, k.fr, k.s0, k.l0, k.f0, k.bx, k.sb, k.lb, k.fb, k.nSL, k.nSF, k.nLF⟩
theorem ShV.lst {H : Hp} {v : V} {p : Addr} {xs : List V} {o : HO} (h : ShV H v) (g : H p = some (.lst xs)) : ShV (upd H p o) v := by
  obtain ⟨t, i, c, e, h⟩ := h
  exact ⟨t, i, c, e, (upd_ne (ne_of h g (by intro z; cases z))).trans h⟩
theorem LoV.lst {H : Hp} {v : V} {p : Addr} {xs : List V} {o : HO} (h : LoV H v) (g : H p = some (.lst xs)) : LoV (upd H p o) v := by
  obtain ⟨t, i, j, c, e, h⟩ := h
  exact ⟨t, i, j, c, e, (upd_ne (ne_of h g (by intro z; cases z))).trans h⟩
/-- v is no mark that lies at p: p holds references -/
theorem MarkAt.lst {H : Hp} {v : V} {p : Addr} {xs : List V} {o : HO} (h : MarkAt H v) (g : H p = some (.lst xs)) (hr : ∀ v ∈ xs, ∃ a, v = V.ref a) : MarkAt (upd H p o) v := by
  obtain ⟨r, c, q, ly, kp, so, how, e, h⟩ := h
  refine ⟨r, c, q, ly, kp, so, how, e, (upd_ne fun z => ?_).trans h⟩
  rw [z, g] at h
  injection h with h
  injection h with h
  obtain ⟨a, ea⟩ := hr (.int c) (by rw [h]; exact List.mem_cons_self ..)
  cases ea
theorem ShV.ref {H : Hp} {v : V} (h : ShV H v) : ∃ a, v = V.ref a := by obtain ⟨t, _, _, e, _⟩ := h; exact ⟨t, e⟩
theorem LoV.ref {H : Hp} {v : V} (h : LoV H v) : ∃ a, v = V.ref a := by obtain ⟨t, _, _, _, e, _⟩ := h; exact ⟨t, e⟩
theorem MarkAt.ref {H : Hp} {v : V} (h : MarkAt H v) : ∃ a, v = V.ref a := by obtain ⟨t, _, _, _, _, _, _, e, _⟩ := h; exact ⟨t, e⟩
theorem Box.put {H : Hp} {b p : Addr} {n : Nat} {o : HO} (h : Box H b n) (ne : p ≠ b) : Box (upd H p o) b n := by
  obtain ⟨a0, a1, a2, h1, h2⟩ := h
  exact ⟨a0, a1, a2, (upd_ne ne.symm).trans h1, h2⟩
theorem CL.pushS (k : CL H0 H b n S L F i svs lvs fvs) {v : V} (hv : ShV H v) (hi : svs.length < i) : CL H0 (upd H S (.lst (svs ++ [v]))) b n S L F i (svs ++ [v]) lvs fvs :=
  ⟨upd_same, (upd_ne k.nSL.symm).trans k.hL, (upd_ne k.nSF.symm).trans k.hF, fun u hu => by
    rcases List.mem_append.mp hu with hu | hu
    · exact (k.sv u hu).lst k.hS
    · rw [List.mem_singleton.mp hu]; exact hv.lst k.hS, fun u hu => (k.lv u hu).lst k.hS, fun u hu => (k.fv u hu).lst k.hS fun v hv => (k.sv v hv).ref, by rw [List.length_append]; exact hi, k.ll, k.fl, k.fr.put k.hS rfl (.inr k.s0), k.s0, k.l0, k.f0, k.bx.put k.sb, k.sb, k.lb, k.fb, k.nSL, k.nSF, k.nLF⟩
theorem CL.pushL (k : CL H0 H b n S L F i svs lvs fvs) {v : V} (hv : LoV H v) (hi : lvs.length < i) : CL H0 (upd H L (.lst (lvs ++ [v]))) b n S L F i svs (lvs ++ [v]) fvs :=
  ⟨(upd_ne k.nSL).trans k.hS, upd_same, (upd_ne k.nLF.symm).trans k.hF, fun u hu => (k.sv u hu).lst k.hL, fun u hu => by
    rcases List.mem_append.mp hu with hu | hu
    · exact (k.lv u hu).lst k.hL
    · rw [List.mem_singleton.mp hu]; exact hv.lst k.hL, fun u hu => (k.fv u hu).lst k.hL fun v hv => (k.lv v hv).ref, k.sl, by rw [List.length_append]; exact hi, k.fl, k.fr.put k.hL rfl (.inr k.l0), k.s0, k.l0, k.f0, k.bx.put k.lb, k.sb, k.lb, k.fb, k.nSL, k.nSF, k.nLF⟩
theorem CL.pushF (k : CL H0 H b n S L F i svs lvs fvs) {v : V} (hv : MarkAt H v) (hi : fvs.length < i) : CL H0 (upd H F (.lst (fvs ++ [v]))) b n S L F i svs lvs (fvs ++ [v]) :=
  ⟨(upd_ne k.nSF).trans k.hS, (upd_ne k.nLF).trans k.hL, upd_same, fun u hu => (k.sv u hu).lst k.hF, fun u hu => (k.lv u hu).lst k.hF, fun u hu => by
    rcases List.mem_append.mp hu with hu | hu
    · exact (k.fv u hu).lst k.hF fun v hv => (k.fv v hv).ref
    · rw [List.mem_singleton.mp hu]; exact hv.lst k.hF fun v hv => (k.fv v hv).ref, k.sl, k.ll, by rw [List.length_append]; exact hi, k.fr.put k.hF rfl (.inr k.f0), k.s0, k.l0, k.f0, k.bx.put k.fb, k.sb, k.lb, k.fb, k.nSL, k.nSF, k.nLF⟩
end

end L2.K13
set_option Elab.async false
set_option linter.all false
set_option maxRecDepth 100000
set_option maxHeartbeats 4000000
set_option pp.maxSteps 150
namespace L2.K13
open PySem PySem.Spec PyProof.Rows L2
open C8 (Cal Met Mak pe_c pe_mt pe_mt0 pe_mk)
local macro_rules | `(tactic| walk_at "hp") => `(tactic| first | assumption | exact upd_same | (refine upd_keep ?_ (by assumption); walk_at "hp") | (refine upd_off ?_ (by assumption) (by intro z; cases z); walk_at "hp"))
local macro_rules | `(tactic| walk_at "seq") => `(tactic| first | assumption | exact SqT.of (by walk_at "hp") | exact SqL.of (by walk_at "hp"))
section
theorem CL.le {H0 H : Hp} {b n m : Nat} {S L F : Addr} {i : Nat} {svs lvs fvs : List V} (k : CL H0 H b n S L F i svs lvs fvs) (h : n ≤ m) : CL H0 H b m S L F i svs lvs fvs :=
  ⟨k.hS, k.hL, k.hF, k.sv, k.lv, k.fv, k.sl, k.ll, k.fl, k.fr, k.s0, k.l0, k.f0, k.bx.le h, k.sb, k.lb, k.fb, k.nSL, k.nSF, k.nLF⟩
theorem CL.new {H0 H : Hp} {b n : Nat} {S L F p : Addr} {o : HO} {i : Nat} {svs lvs fvs : List V} (k : CL H0 H b n S L F i svs lvs fvs) (hp : H p = none) : CL H0 (upd H p o) b n S L F i svs lvs fvs := k.step ((Fr.refl _ _).new hp) (k.bx.new hp)
theorem MarkAt.dict {H : Hp} {v : V} {p : Addr} {kvs : List (Key × V)} {o : HO} (h : MarkAt H v) (g : H p = some (.dK kvs)) : MarkAt (upd H p o) v := by
  obtain ⟨r, c, q, ly, kp, so, how, e, h⟩ := h
  exact ⟨r, c, q, ly, kp, so, how, e, (upd_ne (ne_of h g (by intro z; cases z))).trans h⟩
theorem LD.dict {K : PySem.W.Frag} {m : Nat} {H : Hp} {l p : Addr} {ds : List PyData} {kvs : List (Key × V)} {o : HO} (h : LD K m H l ds) (g : H p = some (.dK kvs)) : LD K m (upd H p o) l ds := by
  obtain ⟨r2, g1, g2, g3⟩ := id h
  exact h.fr (S := only p) ((Fr.refl _ _).put g rfl (.inl rfl)) (ne_of g1 g (by intro z; cases z))
theorem Sst.marksTo {K : PySem.W.Frag} {H : Hp} {b x F : Addr} {n : Nat} {s : SS} {fvs : List V} (k : Sst K H b n x s) (hF : H F = some (.lst fvs)) (fv : ∀ v ∈ fvs, MarkAt H v) (fb : F ≠ b) (fs : F ≠ s.st) (fl : fvs.length ≤ s.ts.length) :
    Sst K (upd H x (.dK (ssl { s with ml := F, marks := fvs }))) b n x { s with ml := F, marks := fvs } :=
  ⟨k.box.put (k.box.nx k.hx), upd_same, (upd_ne (ne_of hF k.hx (by intro z; cases z))).trans hF, fun v hv => (fv v hv).dict k.hx, fl, k.hst.dict k.hx, k.tok, (upd_ne (ne_of k.hlo k.hx (by intro z; cases z))).trans k.hlo, fb, k.nsb, k.nlb, fs, k.nls, k.b0, k.b1, k.y0, k.y1, k.tl, k.wl⟩
end
section
variable {P : Program} {w : World} {K : PySem.W.Frag} {mg : Str → Option Value} {base : Heap}
abbrev two (b x : Addr) : Addr → Prop := fun y => y = b ∨ y = x
def spChosen (K : PySem.W.Frag) : Sp := fun vs H Q _ => ∃ (b : Addr) (n : Nat) (x : Addr) (s : SS) (sort : Str) (layer count : Int), vs = [.ref b, .ref x, .str sort, .int layer, .int count] ∧ Sst K H b n x s ∧ n + 300 < 2 ^ 30 ∧
  ∀ (H' : Hp) (r ps pl : Addr) (shs : List (Int × Bool)) (los : List (Int × Int × Bool)) (F : Addr) (fvs : List V), Sst K H' b (n + 300) x { s with ml := F, marks := fvs } → Fr (two b x) H H' → H' r = some (.tup [.ref ps, .ref pl]) → Dp K H' (.ref ps) (.tuple (shs.map encN)) → Dp K H' (.ref pl) (.tuple (los.map encL)) → shs.length ≤ 100 → los.length ≤ 100 → fvs.length ≤ s.marks.length → Q (.ref r) H'
theorem ok_chosen (T : Fx K mg) (F : DF K mg "_law_chosen" s_chosen ["_law_box_here", "_law_state", "_law_sort", "_law_layer_so", "_law_count_so"]) (c_take : Cal P w K mg base 2 "_law_take" (spTk K) []) (c_may_name : Cal P w K mg base 1 "_law_may_name" (spMayN K) []) (c_may_use : Cal P w K mg base 1 "_law_may_use" (spMayU K) []) : Cal P w K mg base 3 "_law_chosen" (spChosen K) [] := by
  refine F.cal sc_chosen (fun vs H Q E h => ?_) (fun f cdv A outer s0 H vs Q E hr h => ?_)
  · obtain ⟨_, _, _, _, _, _, _, rfl, _⟩ := h
    rfl
  obtain ⟨b, n, x, s, sort, layer, count, rfl, S0, hn, k⟩ := h
  have nd := sc_chosen.nd
  have hu := hu_of hr
  have hu64 := hu64_of hr
  have hpw := pow_le (n := s.bits) S0.b1
  have nxb := S0.box.nx S0.hx
  have hml : s.marks.length ≤ 60 := Nat.le_trans S0.mlen S0.tl
  refine ⟨_, (pss_cons (ps_asg (pe_tup (pa_cons (pe_dget hu (pv 1) pe_str (fun _ _ => rfl)) (pa_cons (pe_lst pa_nil) (pa_cons (pe_lst pa_nil) (pa_cons (pe_lst pa_nil) pa_nil))))) (pg_tup rfl (pgs_cons (pg_name (i := 5) nd rfl (by first | exact .inl rfl | exact .inr rfl)) (pgs_cons (pg_name (i := 6) nd rfl (by first | exact .inl rfl | exact .inr rfl)) (pgs_cons (pg_name (i := 7) nd rfl (by first | exact .inl rfl | exact .inr rfl)) (pgs_cons (pg_name (i := 8) nd rfl (by first | exact .inl rfl | exact .inr rfl)) pgs_nil))))))
  (pss_cons (ps_for PassesOwn.never rfl (pi_list (pe_dget hu (pv 1) pe_str (fun _ _ => rfl))) (pg_name (i := 9) nd rfl (by first | exact .inl rfl | exact .inr rfl)) (pss_one (ps_if (PW.pt (pw_and (pt_cmpR op_lt (pe_callB call_len_seq (by rfl) T.n_len PySem.boot_len (pa_cons (pv 8) pa_nil)) pe_int (nomark _)) (pw_and (pt_val (pe_c c_may_name hr (by first | decide | omega) (by rfl) (pa_cons (pv 1) (pa_cons (pv 2) (pa_cons (pv 9) pa_nil))))) (pw_and1 (pt_cmpR op_gt (pe_c c_take hr (by first | decide | omega) (by rfl) (pa_cons (pv 0) (pa_cons pe_int pa_nil))) pe_int (nomark _)))))) (pss_cons (ps_set (i := 10) nd rfl (Or.inl rfl) (pe_and (pe_c c_may_use hr (by first | decide | omega) (by rfl) (pa_cons (pv 1) (pa_cons (pv 2) (pa_cons (pv 3) (pa_cons (pv 9) pa_nil))))) (pe_one (pe_cmpR op_gt (pe_c c_take hr (by first | decide | omega) (by rfl) (pa_cons (pv 0) (pa_cons pe_int pa_nil))) pe_int (nomark _)))))
          (pss_cons (ps_set (i := 11) nd rfl (Or.inl rfl) (pe_op op_sub (pe_op op_fdiv (pe_callTy call_int1 (by rfl) T.n_int boot_int (pa_cons (pv 4) pa_nil)) (pv 5)) (pe_op op_fdiv (pe_callTy call_int1 (by rfl) T.n_int boot_int (pa_cons (pe_ix ix_list (pv 9) pe_int (fun _ _ => rfl)) pa_nil)) (pv 5))))
          (pss_cons (ps_set (i := 11) nd rfl (Or.inl rfl) (pe_ifExp (pt_cmpR op_ge (pv 11) pe_int (nomark _)) (pv 11) (pe_un un_neg pe_int)))
          (pss_cons (ps_if (PW.pt (pw_and (pt_cmpR op_eq (pe_bm PySem.F.plainAttrs_list PySem.F.slot_list_count PySem.F.type_list_count mt_lcount (pe_dget hu (pv 1) pe_str (fun _ _ => rfl)) (pa_cons (pe_op op_mod (pe_callTy call_int1 (by rfl) T.n_int boot_int (pa_cons (pe_ix ix_list (pv 9) pe_int (fun _ _ => rfl)) pa_nil)) (pv 5)) pa_nil)) pe_int (nomark _)) (pw_and1 (pt_cmpR op_eq (pe_c c_take hr (by first | decide | omega) (by rfl) (pa_cons (pv 0) (pa_cons pe_int pa_nil))) pe_int (nomark _))))) (pss_one (ps_set (i := 11) nd rfl (Or.inl rfl) (pe_un un_neg pe_int))) pss_nil)
          (pss_one (ps_if (PW.pt (pw_and (pt_cmpR op_eq (pe_ix ix_list (pv 9) pe_int (fun _ _ => rfl)) pe_str (nomark _)) (pw_and1 (PW.pt (pw_or (pt_cmpR op_gt (pe_c c_take hr (by first | decide | omega) (by rfl) (pa_cons (pv 0) (pa_cons pe_int pa_nil))) pe_int (nomark _)) (pw_or1 (pt_cmpR op_lt (pv 11) (pe_un un_neg pe_int) (nomark _)))))))) (pss_cons (ps_expr (pe_bm PySem.F.plainAttrs_list PySem.F.slot_list_append PySem.F.type_list_append mt_append (pv 6) (pa_cons (pe_tup (pa_cons (pe_op op_sub (pe_ix ix_list (pv 9) pe_int (fun _ _ => rfl)) (pv 4)) (pa_cons (pv 10) pa_nil))) pa_nil)))
              (pss_one (ps_expr (pe_bm PySem.F.plainAttrs_list PySem.F.slot_list_append PySem.F.type_list_append mt_append (pv 8) (pa_cons (pv 9) pa_nil))))) (pss_one (ps_if (pt_cmpR op_ge (pv 11) (pe_un un_neg pe_int) (nomark _)) (pss_cons (ps_expr (pe_bm PySem.F.plainAttrs_list PySem.F.slot_list_append PySem.F.type_list_append mt_append (pv 7) (pa_cons (pe_tup (pa_cons (pe_op op_mod (pe_callTy call_int1 (by rfl) T.n_int boot_int (pa_cons (pe_ix ix_list (pv 9) pe_int (fun _ _ => rfl)) pa_nil)) (pv 5)) (pa_cons (pv 11) (pa_cons (pv 10) pa_nil)))) pa_nil)))
                  (pss_one (ps_expr (pe_bm PySem.F.plainAttrs_list PySem.F.slot_list_append PySem.F.type_list_append mt_append (pv 8) (pa_cons (pe_op op_cat (pe_slice sl_list (pv 9) po_none (po_some pe_int)) (pe_lst (pa_cons pe_str pa_nil))) pa_nil))))) pss_nil)))))))) pss_nil)))
  (pss_cons (ps_dput hu (pv 1) pe_str (pv 8) rfl)
  (pss_one (ps_ret (pe_tup (pa_cons (pe_callTy call_tuple_of (by rfl) T.n_tuple boot_tuple (pa_cons (pe_callB (cr_sortD hu64) (by rfl) T.n_sorted boot_sorted (pa_cons (pv 6) pa_nil)) pa_nil)) (pa_cons (pe_callTy call_tuple_of (by rfl) T.n_tuple boot_tuple (pa_cons (pe_callB (cr_sortD hu64) (by rfl) T.n_sorted boot_sorted (pa_cons (pv 7) pa_nil)) pa_nil)) pa_nil)))))))), ?_⟩
  refine ⟨_, rfl, x, _, rfl, SS.gSpan S0.hx, Nat.zero_le _, fun S hS => ⟨Nat.zero_le _, fun L hL => ⟨Nat.zero_le _, fun F hF => ⟨by show 4 ≤ sizeLine; decide, fun t ht => ⟨t, _, rfl, SqT.of upd_same, rfl, _, _, rfl, _, _, rfl, _, _, rfl, _, _, rfl, rfl, ?_⟩⟩⟩⟩⟩
  have hL0 : H L = none := upd_no hL
  have hF0 : H F = none := upd_no (upd_no hF)
  have nSL : S ≠ L := ne_of_none upd_same hL
  have nLF : L ≠ F := ne_of_none upd_same hF
  have nSF : S ≠ F := ne_of_none (upd_keep upd_same hL) hF
  have C0 : CL H (upd (upd (upd (upd H S (.lst [])) L (.lst [])) F (.lst [])) t (.tup [.int ((2 ^ s.bits : Nat) : Int), .ref S, .ref L, .ref F])) b n S L F 0 [] [] [] :=
    ⟨upd_keep (upd_keep (upd_keep upd_same hL) hF) ht, upd_keep (upd_keep upd_same hF) ht, upd_keep upd_same ht, fun v hv => absurd hv List.not_mem_nil, fun v hv => absurd hv List.not_mem_nil, fun v hv => absurd hv List.not_mem_nil, Nat.le_refl _, Nat.le_refl _, Nat.le_refl _, ((((Fr.refl _ _).new hS).new hL).new hF).new ht, hS, hL0, hF0, (((S0.box.new hS).new hL).new hF).new ht, S0.box.ne hS, S0.box.ne hL0, S0.box.ne hF0, nSL, nSF, nLF⟩
  generalize upd (upd (upd (upd H S (.lst [])) L (.lst [])) F (.lst [])) t (.tup [.int ((2 ^ s.bits : Nat) : Int), .ref S, .ref L, .ref F]) = H1 at C0
  generalize hspan : ((2 ^ s.bits : Nat) : Int) = span at hpw
  have cd : ∀ i : Int, CDiv i span := fun i => ⟨hpw.1, by omega⟩
  refine ⟨_, rfl, x, _, rfl, SS.gMarks (C0.fr.out S0.hx nxb), s.ml, rfl, ⟨_, SqL.of (C0.fr.out S0.hm S0.nmb)⟩, ?_⟩
  refine for_list (K := K) (a := s.ml) (xs := s.marks) (fun i σ H' => ∃ (v9 v10 v11 : Option V) (svs lvs fvs : List V), σ = [some (.ref b), some (.ref x), some (.str sort), some (.int layer), some (.int count), some (.int span), some (.ref S), some (.ref L), some (.ref F), v9, v10, v11] ∧ CL H H' b (n + 4 * i) S L F i svs lvs fvs)
    ⟨none, none, none, [], [], [], rfl, C0⟩ (fun i σ H' _ ⟨_, _, _, _, _, _, _, C'⟩ => SqL.of (C'.fr.out S0.hm S0.nmb)) ?_ ?_
  · rintro i y σ H2 hy ⟨v9, v10, v11, svs, lvs, fvs, rfl, C2⟩
    have hi : i < s.marks.length := (List.getElem?_eq_some_iff.mp hy).1
    have hmk := S0.mat y (mem_at hy)
    obtain ⟨r, c, p, ly, kp, so, how, ey, hr0⟩ := id hmk
    have hrb := MarkAt.nb S0.box hr0
    have lz : ∀ {m : Nat}, m ≤ i → m < sizeLine := fun h => Nat.lt_of_le_of_lt (show _ ≤ 60 by omega) (by decide)
    have mk : ∀ {H' : Hp} {m : Nat} {s1 l1 f1 : List V}, CL H H' b m S L F i s1 l1 f1 → SqL K H' r (mkV c p ly kp so how) := fun C => SqL.of (C.fr.out hr0 hrb)
    have fin : ∀ {H' : Hp} {m : Nat} {s1 l1 f1 : List V}, CL H H' b m S L F (i + 1) s1 l1 f1 → m ≤ n + 4 * (i + 1) → CL H H' b (n + 4 * (i + 1)) S L F (i + 1) s1 l1 f1 := fun C h => C.le h
    refine gn_cut ?_
    dsimp only
    change tAnd _ _ _ _ _
    refine tt_cut (fun _ H3 => CL H H3 b (n + 4 * i + 1) S L F i svs lvs fvs) ?_ fun key => ?_
    · rintro g H3 C3
      refine ite2 (fun _ => ?_) fun _ => ⟨_, _, _, svs, lvs, fvs, rfl, fin C3.up (by omega)⟩
      change tAndV _ _ _ _ _
      refine and_cut (fun v H4 => ∃ u : Bool, v = .bl u ∧ CL H H4 b (n + 4 * i + 2) S L F i svs lvs fvs) ?_ fun key2 => ?_
      · rintro v H4 ⟨u, rfl, C4⟩
        subst ey
        refine ⟨_, rfl, .inl ⟨count, rfl, _, rfl, _, _, rfl, rfl, cd _, _, rfl, r, _, 0, _, rfl, rfl, mk C4, rfl, .inl ⟨c, rfl, _, rfl, _, _, rfl, rfl, cd _, _, _, rfl, rfl, ?_⟩⟩⟩
        refine gn_cut ?_
        dsimp only
        change tIf _ _ _ _ _ _
        refine if_cut (fun v H5 => ∃ rr : Int, v = .int rr ∧ H5 = H4) ?_ fun key3 => ?_
        · rintro v H5 ⟨rr, rfl, rfl⟩
          refine gn_cut ?_
          dsimp only
          refine seq_cut (fun σ' H' => ∃ rr : Int, σ' = [some (.ref b), some (.ref x), some (.str sort), some (.int layer), some (.int count), some (.int span), some (.ref S), some (.ref L), some (.ref F), some (.ref r), some (.bl u), some (.int rr)] ∧ CL H H' b (n + 4 * i + 3) S L F i svs lvs fvs) ?_ fun key4 => ?_
          · rintro σ' H6 ⟨rr, rfl, C6⟩
            change tAnd _ _ _ _ _
            refine tt_cut (fun _ H7 => CL H H7 b (n + 4 * i + 4) S L F i svs lvs fvs) ?_ fun key5 => ?_
            · rintro g H7 C7
              refine ite2 (fun _ => ?_) fun _ => ?_
              · refine ⟨_, rfl, .inl ⟨rfl, _, SqL.of C7.hS⟩, _, rfl, r, _, 0, _, rfl, rfl, mk C7, rfl, _, rfl, _, _, rfl, rfl, _, rfl, by show 2 ≤ sizeLine; decide, fun t ht => ?_⟩
                have C8 := (C7.new (o := .tup [.int (c - count), .bl u]) ht).up
                refine ⟨S, _, _, rfl, rfl, C8.hS, lz C7.sl, ?_⟩
                have C9 := C8.pushS (v := .ref t) ⟨t, _, _, rfl, upd_same⟩ (Nat.lt_succ_of_le C7.sl)
                refine ⟨_, rfl, .inl ⟨rfl, _, SqL.of C9.hF⟩, _, rfl, F, _, _, rfl, rfl, C9.hF, lz C7.fl, ?_⟩
                exact ⟨_, _, _, _, _, _, rfl, fin (C9.pushF (v := .ref r) ⟨r, c, p, ly, kp, so, how, rfl, C9.fr.out hr0 hrb⟩ (Nat.lt_succ_of_le C7.fl)) (by omega)⟩
              · refine ⟨_, rfl, _, rfl, _, _, rfl, rfl, _, rfl, ite2 (fun _ => ?_) fun _ => ⟨_, _, _, _, _, _, rfl, fin C7.up (by omega)⟩⟩
                refine ⟨_, rfl, .inl ⟨rfl, _, SqL.of C7.hL⟩, _, rfl, r, _, 0, _, rfl, rfl, mk C7, rfl, .inl ⟨c, rfl, _, rfl, _, _, rfl, rfl, hpw.1, _, rfl, _, rfl, by show 3 ≤ sizeLine; decide, fun t ht => ?_⟩⟩
                have C8 := (C7.new (o := .tup [.int (c % span), .int rr, .bl u]) ht).up
                refine ⟨L, _, _, rfl, rfl, C8.hL, lz C7.ll, ?_⟩
                have C9 := C8.pushL (v := .ref t) ⟨t, _, _, _, rfl, upd_same⟩ (Nat.lt_succ_of_le C7.ll)
                refine ⟨_, rfl, .inl ⟨rfl, _, SqL.of C9.hF⟩, _, rfl, _, rfl, r, _, rfl, SqL.of (C9.fr.out hr0 hrb), fun p1 h1 => ⟨by show 1 ≤ sizeLine; decide, fun p2 h2 => ?_⟩⟩
                refine ⟨p1, p2, mkV c p ly kp so how |>.take 5, _, rfl, rfl, upd_keep upd_same h2, upd_same, by show 6 ≤ sizeLine; decide, fun p3 h3 => ?_⟩
                have C10 := ((C9.new (o := .lst (cutV (mkV c p ly kp so how) none (some 5))) h1).new (o := .lst [.str "long"]) h2).new (o := .lst ((mkV c p ly kp so how).take 5 ++ [.str "long"])) h3
                refine ⟨F, _, _, rfl, rfl, C10.hF, lz C7.fl, ?_⟩
                exact ⟨_, _, _, _, _, _, rfl, fin (C10.pushF (v := .ref p3) ⟨p3, c, p, ly, kp, so, "long", rfl, upd_same⟩ (Nat.lt_succ_of_le C7.fl)) (by omega)⟩
            · refine ⟨_, rfl, r, _, 5, _, rfl, rfl, mk C6, rfl, rfl, _, rfl, ite2 (fun _ => ?_) fun _ => key5 false _ (C6.le (by omega))⟩
              refine ⟨_, rfl, b, _, 5, rfl, C6.bx, by omega, by decide, by decide, fun H7 r7 hb7 fr7 _ _ => ⟨_, _, rfl, rfl, _, rfl, ite2 (fun _ => key5 true _ (C6.step fr7 hb7)) fun _ => ?_⟩⟩
              exact ⟨_, rfl, _, rfl, _, _, rfl, rfl, _, rfl, key5 _ _ (C6.step fr7 hb7)⟩
          · change tAnd _ _ _ _ _
            refine tt_cut (fun _ H6 => CL H H6 b (n + 4 * i + 3) S L F i svs lvs fvs) ?_ fun key5 => ?_
            · rintro g H6 C6
              exact ite2 (fun _ => ⟨_, rfl, key4 _ _ ⟨_, rfl, C6⟩⟩) fun _ => key4 _ _ ⟨_, rfl, C6⟩
            · refine ⟨_, rfl, x, _, rfl, SS.gLows (C4.fr.out S0.hx nxb), .inl ⟨rfl, _, SqL.of (C4.fr.out S0.hlo S0.nlb)⟩, _, rfl, r, _, 0, _, rfl, rfl, mk C4, rfl, .inl ⟨c, rfl, _, rfl, _, _, rfl, rfl, hpw.1, ?_⟩⟩
              refine ⟨s.lo, s.lows, _, rfl, rfl, SqL.of (C4.fr.out S0.hlo S0.nlb), rfl, _, rfl, ite2 (fun _ => ?_) fun _ => key5 false _ (C4.le (by omega))⟩
              exact ⟨_, rfl, b, _, 2, rfl, C4.bx, by omega, by decide, by decide, fun H6 r6 hb6 fr6 _ _ => ⟨rfl, _, rfl, key5 _ _ (C4.step fr6 hb6)⟩⟩
        · exact ⟨_, rfl, _, _, rfl, rfl, _, rfl, ite2 (fun _ => ⟨_, rfl, key3 _ _ ⟨_, rfl, rfl⟩⟩) fun _ => ⟨_, rfl, key3 _ _ ⟨_, rfl, rfl⟩⟩⟩
      · refine ⟨_, rfl, _, rfl, _, rfl, _, rfl, x, s, sort, layer, y, rfl, C3.fr.out S0.hx nxb, hmk.fr S0.box C3.fr, fun bb => ⟨_, rfl, ite2 (fun _ => ?_) fun _ => key2 _ _ ⟨false, rfl, C3.le (by omega)⟩⟩⟩
        exact ⟨_, rfl, b, _, 3, rfl, C3.bx, by omega, by decide, by decide, fun H4 r4 hb4 fr4 _ _ => ⟨_, _, rfl, rfl, key2 _ _ ⟨_, rfl, C3.step fr4 hb4⟩⟩⟩
    · refine ⟨_, rfl, F, _, rfl, .inl (SqL.of C2.hF), _, _, rfl, rfl, _, rfl, ite2 (fun _ => ?_) fun _ => key false _ (C2.le (by omega))⟩
      refine ⟨_, rfl, _, rfl, _, rfl, x, s, sort, y, rfl, C2.fr.out S0.hx nxb, hmk.fr S0.box C2.fr, fun H3 bb x3 => ⟨_, rfl, ?_⟩⟩
      have C3 := C2.step (Same.fr x3 _) (C2.bx.fr (Same.fr x3 (fun _ => False)) id)
      refine ite2 (fun _ => ?_) fun _ => key false _ (C3.le (by omega))
      exact ⟨_, rfl, b, _, 5, rfl, C3.bx, by omega, by decide, by decide, fun H4 r4 hb4 fr4 _ _ => ⟨_, _, rfl, rfl, _, rfl, key _ _ (C3.step fr4 hb4)⟩⟩
  · rintro σ H2 ⟨v9, v10, v11, svs, lvs, fvs, rfl, C2⟩
    have S2 := S0.step C2.fr C2.bx
    have nFst : F ≠ s.st := fun e => by
      obtain ⟨_, g, _⟩ := S0.hst
      rw [← e, hF0] at g
      cases g
    have S3 := S2.marksTo C2.hF C2.fv C2.fb nFst (Nat.le_trans C2.fl S0.mlen)
    refine ⟨_, rfl, _, rfl, x, _, rfl, SS.pMarks S2.hx F fvs, ?_⟩
    have hS3 : upd H2 x (.dK (ssl { s with ml := F, marks := fvs })) S = some (.lst svs) := (upd_ne (ne_of C2.hS S2.hx (by intro z; cases z))).trans C2.hS
    have hL3 : upd H2 x (.dK (ssl { s with ml := F, marks := fvs })) L = some (.lst lvs) := (upd_ne (ne_of C2.hL S2.hx (by intro z; cases z))).trans C2.hL
    have f3 : Fr (two b x) H (upd H2 x (.dK (ssl { s with ml := F, marks := fvs }))) := (C2.fr.mono fun y z => .inl (.inl z)).put S2.hx rfl (.inl (.inr rfl))
    have sv3 : ∀ v ∈ svs, ShV (upd H2 x (.dK (ssl { s with ml := F, marks := fvs }))) v := fun v hv => (C2.sv v hv).fr (S := only x) ((Fr.refl _ _).put S2.hx rfl (.inl rfl))
    have lv3 : ∀ v ∈ lvs, LoV (upd H2 x (.dK (ssl { s with ml := F, marks := fvs }))) v := fun v hv => (C2.lv v hv).fr (S := only x) ((Fr.refl _ _).put S2.hx rfl (.inl rfl))
    generalize upd H2 x (.dK (ssl { s with ml := F, marks := fvs })) = H3 at S3 hS3 hL3 f3 sv3 lv3
    obtain ⟨d1, e1, _⟩ := shs_of (K := K) sv3
    obtain ⟨a1, a2, a3⟩ := encN_ok (shs := d1)
    refine ⟨_, rfl, S, svs, d1.map encN, rfl, SqL.of hS3, e1, a1, a2, a3, fun ys p hy hp => ⟨p, ys, rfl, .inl ⟨SqL.of upd_same, fun t1 h1 => ?_⟩⟩⟩
    have lv4 : ∀ v ∈ lvs, LoV (upd (upd H3 p (.lst ys)) t1 (.tup ys)) v := fun v hv => (lv3 v hv).fr (((Fr.refl (only b) _).new hp).new h1)
    obtain ⟨d2, e2, _⟩ := los_of (K := K) lv4
    obtain ⟨a1, a2, a3⟩ := encL_ok (los := d2)
    refine ⟨_, rfl, L, lvs, d2.map encL, rfl, SqL.of (upd_keep (upd_keep hL3 hp) h1), e2, a1, a2, a3, fun zs p2 hz hp2 => ⟨p2, zs, rfl, .inl ⟨SqL.of upd_same, fun t2 h2 => ⟨by show 2 ≤ sizeLine; decide, fun r hr => ?_⟩⟩⟩⟩
    have f4 : Fr (only b) H3 (upd (upd (upd (upd (upd H3 p (.lst ys)) t1 (.tup ys)) p2 (.lst zs)) t2 (.tup zs)) r (.tup [.ref t1, .ref t2])) := (((((Fr.refl _ _).new hp).new h1).new hp2).new h2).new hr
    have S4 := S3.step f4 (((((S3.box.new hp).new h1).new hp2).new h2).new hr)
    have g1 : upd (upd (upd (upd (upd H3 p (.lst ys)) t1 (.tup ys)) p2 (.lst zs)) t2 (.tup zs)) r (.tup [.ref t1, .ref t2]) t1 = some (.tup ys) := upd_keep (upd_keep (upd_keep upd_same hp2) h2) hr
    have g2 : upd (upd (upd (upd (upd H3 p (.lst ys)) t1 (.tup ys)) p2 (.lst zs)) t2 (.tup zs)) r (.tup [.ref t1, .ref t2]) t2 = some (.tup zs) := upd_keep upd_same hr
    obtain ⟨shs, e3, l3⟩ := shs_of (K := K) fun v hv => (sv3 v (hy.subset hv)).fr f4
    obtain ⟨los, e4, l4⟩ := los_of (K := K) fun v hv => (lv3 v (hz.subset hv)).fr f4
    have ly := hy.length_eq
    have lzz := hz.length_eq
    have := C2.sl
    have := C2.ll
    exact k _ r t1 t2 shs los F fvs (by
      have hb := S4.box.le (show n + 4 * s.marks.length ≤ n + 300 by omega)
      exact S4.step (Fr.refl _ _) hb) (f3.tr (f4.mono fun y z => .inl (.inl z))) upd_same (.tup (SqT.of g1) e3) (.tup (SqT.of g2) e4) (by omega) (by omega) C2.fl
end

end L2.K13
set_option Elab.async false
set_option linter.all false
set_option maxRecDepth 100000
set_option maxHeartbeats 4000000
set_option pp.maxSteps 150
namespace L2.K13
open PySem PySem.Spec PyProof.Rows L2
open C8 (Cal Met Mak pe_c pe_mt pe_mt0 pe_mk)
local macro_rules | `(tactic| walk_at "hp") => `(tactic| first | assumption | exact upd_same | (refine upd_keep ?_ (by assumption); walk_at "hp") | (refine upd_off ?_ (by assumption) (by intro z; cases z); walk_at "hp"))
local macro_rules | `(tactic| walk_at "seq") => `(tactic| first | assumption | exact SqT.of (by walk_at "hp") | exact SqL.of (by walk_at "hp"))
section
variable {K : PySem.W.Frag} {H H' : Hp} {b x : Addr} {n n' : Nat} {s : SS}
theorem thing_ref {v : V} {t : Option Pic} (h : Dp K H v (encThing t)) : ∃ a, v = V.ref a := by
  cases t with
  | none => obtain ⟨a, _, e, _⟩ := dp_tup h; exact ⟨a, e⟩
  | some p => obtain ⟨a, _, e, _⟩ := dp_tup h; exact ⟨a, e⟩
theorem Sst.new (k : Sst K H b n x s) {p : Addr} {o : HO} (hp : H p = none) : Sst K (upd H p o) b n x s := k.step ((Fr.refl _ _).new hp) (k.box.new hp)
theorem Sst.same (k : Sst K H b n x s) (f : Same H H') : Sst K H' b n x s := k.step (Same.fr f _) (k.box.fr (Same.fr f (fun _ => False)) id)
theorem Sst.le (k : Sst K H b n x s) (h : n ≤ n') : Sst K H b n' x s := k.step (Fr.refl _ _) (k.box.le h)
/-- other fields -/
theorem Sst.fld (k : Sst K H b n x s) (last entry : Int) (an nw : Bool) : Sst K (upd H x (.dK (ssl { s with last := last, entry := entry, an := an, nw := nw }))) b n x { s with last := last, entry := entry, an := an, nw := nw } :=
  ⟨k.box.put (k.box.nx k.hx), upd_same, (upd_ne (ne_of k.hm k.hx (by intro z; cases z))).trans k.hm, fun v hv => (k.mat v hv).dict k.hx, k.mlen, k.hst.dict k.hx, k.tok, (upd_ne (ne_of k.hlo k.hx (by intro z; cases z))).trans k.hlo, k.nmb, k.nsb, k.nlb, k.nms, k.nls, k.b0, k.b1, k.y0, k.y1, k.tl, k.wl⟩
theorem Sst.lowsTo (k : Sst K H b n x s) {F : Addr} {ns : List Int} (hF : H F = some (.lst (ns.map V.int))) (fb : F ≠ b) (fs : F ≠ s.st) (wl : ns.length ≤ s.ts.length) : Sst K (upd H x (.dK (ssl { s with lo := F, lows := ns }))) b n x { s with lo := F, lows := ns } :=
  ⟨k.box.put (k.box.nx k.hx), upd_same, (upd_ne (ne_of k.hm k.hx (by intro z; cases z))).trans k.hm, fun v hv => (k.mat v hv).dict k.hx, k.mlen, k.hst.dict k.hx, k.tok, (upd_ne (ne_of hF k.hx (by intro z; cases z))).trans hF, k.nmb, k.nsb, fb, k.nms, fs, k.b0, k.b1, k.y0, k.y1, k.tl, wl⟩
/-- a thing more -/
theorem Sst.push (k : Sst K H b n x s) {rvs : List V} (g1 : H s.st = some (.lst rvs)) (g2 : All2 (Dp K H) rvs (s.ts.map encThing)) {v : V} {t : Option Pic} (hv : Dp K H v (encThing t)) (ok : ThingOk t) (lo : LowOk (2 ^ s.bits) t) (hl : s.ts.length < 60) :
    Sst K (upd H s.st (.lst (rvs ++ [v]))) b n x { s with ts := s.ts ++ [t] } := by
  have hr : ∀ v ∈ rvs, ∃ a, v = V.ref a := fun v hv => by
    obtain ⟨i, hi⟩ := List.mem_iff_getElem?.mp hv
    have hil := (List.getElem?_eq_some_iff.mp hi).1
    have hl2 : i < s.ts.length := by rw [g2.1, List.length_map] at hil; exact hil
    exact thing_ref (g2.2 i v _ hi (by rw [List.getElem?_map, List.getElem?_eq_getElem hl2]; rfl))
  refine ⟨k.box.put k.nsb, (upd_ne (ne_of k.hx g1 (by intro z; cases z))).trans k.hx, (upd_ne k.nms).trans k.hm, fun v hv => (k.mat v hv).lst g1 hr, by rw [List.length_append]; exact Nat.le_succ_of_le k.mlen, ?_, fun u hu => ?_, (upd_ne k.nls).trans k.hlo, k.nmb, k.nsb, k.nlb, k.nms, k.nls, k.b0, k.b1, k.y0, k.y1, by rw [List.length_append]; exact hl, by rw [List.length_append]; exact Nat.le_succ_of_le k.wl⟩
  · show LD K 3 _ s.st ((s.ts ++ [t]).map encThing)
    rw [List.map_append]
    exact LD.push g1 g2 (fun d hd => by
      obtain ⟨u, hu, rfl⟩ := List.mem_map.mp hd
      exact to_thing (k.tok u hu).1) hv (to_thing ok)
  · rcases List.mem_append.mp hu with hu | hu
    · exact k.tok u hu
    · rw [List.mem_singleton.mp hu]; exact ⟨ok, lo⟩
theorem merge3 (s : SS) (e : Int) (an : Bool) : mergeK (ssl s) [(.inr "entry", .int e), (.inr "anew", .bl an), (.inr "new", .bl false)] = ssl { s with entry := e, an := an, nw := false } := by kernel_rfl
theorem merge3n (e : Int) (an : Bool) : mergeK [] [(.inr "entry", .int e), (.inr "anew", .bl an), (.inr "new", .bl false)] = [(.inr "entry", V.int e), (.inr "anew", .bl an), (.inr "new", .bl false)] := by kernel_rfl
/-- what a step of the state keeps -/
structure Rl (s s1 : SS) : Prop where
  ts : s1.ts = s.ts
  st : s1.st = s.st
  bits : s1.bits = s.bits
  layers : s1.layers = s.layers
end
section
variable {P : Program} {w : World} {K : PySem.W.Frag} {mg : Str → Option Value} {base : Heap}
abbrev three (b x st : Addr) : Addr → Prop := fun y => y = b ∨ y = x ∨ y = st
def spAdded (K : PySem.W.Frag) : Sp := fun vs H Q _ => ∃ (b : Addr) (n : Nat) (x : Addr) (s : SS) (sort : Str) (layer count : Int) (anchor : Bool), vs = [.ref b, .ref x, .str sort, .int layer, .int count, .bl anchor] ∧ Sst K H b n x s ∧ n + 310 < 2 ^ 30 ∧ sort ∈ kinds ∧ (isEntry sort = true → layer = 0 ∧ anchor = true) ∧ s.ts.length < 60 ∧
  ∀ (H' : Hp) (s' : SS) (p : Pic), Sst K H' b (n + 310) x s' → Fr (three b x s.st) H H' → s'.ts = s.ts ++ [some p] → p.kind = sort → s'.st = s.st → s'.bits = s.bits → s'.layers = s.layers → Q .non H'
theorem ok_added (T : Fx K mg) (F : DF K mg "_law_added" s_added ["_law_box_here", "_law_state", "_law_sort", "_law_layer_so", "_law_count_so", "_law_is_anchor"]) (c_take : Cal P w K mg base 2 "_law_take" (spTk K) []) (c_chosen : Cal P w K mg base 3 "_law_chosen" (spChosen K) []) : Cal P w K mg base 4 "_law_added" (spAdded K) [] := by
  refine F.cal sc_added (fun vs H Q E h => ?_) (fun f cdv A outer s0 H vs Q E hr h => ?_)
  · obtain ⟨_, _, _, _, _, _, _, _, rfl, _⟩ := h
    rfl
  obtain ⟨b, n, x, s, sort, layer, count, anchor, rfl, S0, hn, hkd, hen, hlt, k⟩ := h
  have nd := sc_added.nd
  have hu := hu_of hr
  have hpw := pow_le (n := s.bits) S0.b1
  refine ⟨_, (pss_cons (ps_par (i := 6) (j := 7) rfl nd rfl rfl (by decide) rfl rfl (pa_cons (pe_dget hu (pv 1) pe_str (fun _ _ => rfl)) (pa_cons (pe_and (pe_or (pe_cmpR op_gt (pv 3) pe_int (nomark _)) (pe_one (pe_cmpR op_ne (pv 2) pe_str (nomark _)))) (pe_one (pe_cmpR op_eq (pe_c c_take hr (by first | decide | omega) (by rfl) (pa_cons (pv 0) (pa_cons pe_int pa_nil))) pe_int (nomark _)))) pa_nil)) rfl)
  (pss_cons (ps_set (i := 7) nd rfl (Or.inl rfl) (pe_or (pv 7) (pe_one (pv 5))))
  (pss_cons (ps_par3 (i := 8) (j := 9) (l := 10) rfl nd rfl rfl rfl (by decide) (by decide) (by decide) rfl rfl rfl (pa_cons (pe_callB call_len_seq (by rfl) T.n_len PySem.boot_len (pa_cons (pv 6) pa_nil)) (pa_cons (pe_tup (pa_cons (pe_tup pa_nil) (pa_cons (pe_tup pa_nil) pa_nil))) (pa_cons (pe_cmpR op_in_seq (pv 2) (pe_tup (pa_cons pe_str (pa_cons pe_str pa_nil))) (by with_unfolding_all rfl)) pa_nil))) rfl)
  (pss_cons (ps_set (i := 11) nd rfl (Or.inl rfl) (pe_or (pe_cmpR op_eq (pv 2) pe_str (nomark _)) (pe_one (pe_and (pe_dget hu (pv 1) pe_str (fun _ _ => rfl)) (pe_one (pv 10))))))
  (pss_cons (ps_if (pt_val (pv 11)) (pss_one (ps_asg (pe_tup (pa_cons (pe_lst pa_nil) (pa_cons (pe_lst pa_nil) pa_nil))) (pg_tup rfl (pgs_cons (pg_sub (pv 1) pe_str (set_dict hu)) (pgs_cons (pg_sub (pv 1) pe_str (set_dict hu)) pgs_nil))))) (pss_one (ps_if (PW.pt (pw_or (pt_not (pt_val (pe_dget hu (pv 1) pe_str (fun _ _ => rfl)))) (pw_or1 (pt_cmpR op_ne (pv 2) pe_str (nomark _))))) (pss_one (ps_set (i := 9) nd rfl (Or.inl rfl) (pe_c c_chosen hr (by first | decide | omega) (by rfl) (pa_cons (pv 0) (pa_cons (pv 1) (pa_cons (pv 2) (pa_cons (pv 3) (pa_cons (pv 4) pa_nil)))))))) pss_nil)))
  (pss_cons (ps_if (pt_val (pv 10)) (pss_one (ps_expr (pe_bm PySem.F.plainAttrs_dict PySem.F.slot_dict_update type_dict_update mt_dup (pv 1) (pa_cons (pe_disp (pps_cons pe_str (pv 8) (pps_cons pe_str (pv 11) (pps_cons pe_str pe_bl pps_nil))) rfl rfl (by simp) (by decide)) pa_nil)))) pss_nil)
  (pss_cons (ps_set (i := 12) nd rfl (Or.inl rfl) (pe_and (pv 10) (pe_one (pe_cmpR op_lt (pe_c c_take hr (by first | decide | omega) (by rfl) (pa_cons (pv 0) (pa_cons pe_int pa_nil))) (pe_dget hu (pv 1) pe_str (fun _ _ => rfl)) (nomark _)))))
  (pss_cons (ps_set (i := 13) nd rfl (Or.inl rfl) (pe_op op_mod (pe_callTy call_int1 (by rfl) T.n_int boot_int (pa_cons (pv 4) pa_nil)) (pe_dget hu (pv 1) pe_str (fun _ _ => rfl))))
  (pss_cons (ps_expr (pe_bm PySem.F.plainAttrs_list PySem.F.slot_list_append PySem.F.type_list_append mt_append (pv 6) (pa_cons (pe_op op_catA (pe_op op_catA (pe_tup (pa_cons (pv 2) (pa_cons (pv 3) (pa_cons (pv 13) (pa_cons (pv 7) (pa_cons (pe_cmpR op_gt (pe_c c_take hr (by first | decide | omega) (by rfl) (pa_cons (pv 0) (pa_cons pe_int pa_nil))) pe_int (nomark _)) pa_nil)))))) (pv 9)) (pe_tup (pa_cons (pv 12) pa_nil))) pa_nil)))
  (pss_one (ps_if (PW.pt (pw_or (pt_cmpR op_ne (pv 2) pe_str (nomark _)) (pw_or1 (pt_not (pt_val (pe_dget hu (pv 1) pe_str (fun _ _ => rfl))))))) (pss_cons (ps_dput hu (pv 1) pe_str (pe_op op_cat (pe_dget hu (pv 1) pe_str (fun _ _ => rfl)) (pe_lst (pa_cons (pe_lst (pa_cons (pv 4) (pa_cons (pv 8) (pa_cons (pv 3) (pa_cons (pv 7) (pa_cons (pv 2) (pa_cons pe_str pa_nil))))))) pa_nil))) rfl)
      (pss_one (ps_dput hu (pv 1) pe_str (pe_op op_cat (pe_dget hu (pv 1) pe_str (fun _ _ => rfl)) (pe_lst (pa_cons (pv 13) pa_nil))) rfl))) pss_nil))))))))))), ?_⟩
  refine ⟨_, rfl, x, _, rfl, SS.gStream S0.hx, ?_⟩
  change tAndV _ _ _ _ _
  refine and_cut (fun v H1 => ∃ k0 : Bool, v = .bl k0 ∧ Sst K H1 b (n + 1) x s ∧ Fr (only b) H H1) ?_ fun key => ?_
  · rintro v H1 ⟨k0, rfl, S1, f1⟩
    refine ⟨_, _, rfl, ?_⟩
    dsimp only
    change tOrV _ _ _ _ _
    refine or_cut (fun v H2 => ∃ kp : Bool, v = .bl kp ∧ H2 = H1 ∧ (anchor = true → kp = true)) ?_ fun key1 => ?_
    · rintro v H2 ⟨kp, rfl, rfl, hkp⟩
      obtain ⟨rvs0, g1, g2, g3⟩ := id S1.hst
      refine ⟨_, rfl, _, _, rfl, .inl (SqL.of g1), Nat.zero_le _, fun t1 h1 => ⟨Nat.zero_le _, fun t2 h2 => ⟨by show 2 ≤ sizeLine; decide, fun t3 h3 => ⟨_, rfl, by show 2 ≤ sizeLine; decide, fun t4 h4 => ⟨t4, _, rfl, .inr (SqT.of upd_same), rfl, rfl, ?_⟩⟩⟩⟩⟩
      rw [show (if false = true then !inV (.str sort) [.str "clean", .str "open"] else inV (.str sort) [.str "clean", .str "open"]) = isEntry sort from inV_entry _]
      refine ⟨_, _, _, rfl, ?_⟩
      have S2 := (((S1.new (o := .tup []) h1).new (o := .tup []) h2).new (o := .tup [.ref t1, .ref t2]) h3).new (o := .tup [.str "clean", .str "open"]) h4
      have f2 : Fr (only b) H _ := (((f1.new (o := .tup []) h1).new (o := .tup []) h2).new (o := .tup [.ref t1, .ref t2]) h3).new (o := .tup [.str "clean", .str "open"]) h4
      have e1 : upd (upd (upd (upd H2 t1 (.tup [])) t2 (.tup [])) t3 (.tup [.ref t1, .ref t2])) t4 (.tup [.str "clean", .str "open"]) t1 = some (.tup []) := upd_keep (upd_keep (upd_keep upd_same h2) h3) h4
      have e2 : upd (upd (upd (upd H2 t1 (.tup [])) t2 (.tup [])) t3 (.tup [.ref t1, .ref t2])) t4 (.tup [.str "clean", .str "open"]) t2 = some (.tup []) := upd_keep (upd_keep upd_same h3) h4
      have e3 : upd (upd (upd (upd H2 t1 (.tup [])) t2 (.tup [])) t3 (.tup [.ref t1, .ref t2])) t4 (.tup [.str "clean", .str "open"]) t3 = some (.tup [.ref t1, .ref t2]) := upd_keep upd_same h4
      generalize upd (upd (upd (upd H2 t1 (.tup [])) t2 (.tup [])) t3 (.tup [.ref t1, .ref t2])) t4 (.tup [.str "clean", .str "open"]) = H3 at S2 f2 e1 e2 e3
      obtain ⟨isE, hE⟩ : ∃ e, isEntry sort = e := ⟨_, rfl⟩
      rw [hE] at hen ⊢
      generalize ((rvs0.length : Nat) : Int) = place
      dsimp only
      change tOrV _ _ _ _ _
      refine or_cut (fun v H4 => ∃ nw : Bool, v = .bl nw ∧ H4 = H3) ?_ fun key2 => ?_
      · rintro v H4 ⟨nw, rfl, rfl⟩
        refine gn_cut ?_
        dsimp only
        refine seq_cut (fun σ' H' => ∃ (nr ps pl : Addr) (shs : List (Int × Bool)) (los : List (Int × Int × Bool)) (s1 : SS), σ' = [some (.ref b), some (.ref x), some (.str sort), some (.int layer), some (.int count), some (.bl anchor), some (.ref s.st), some (.bl kp), some (.int place), some (.ref nr), some (.bl isE), some (.bl nw), none, none] ∧ Sst K H' b (n + 301) x s1 ∧ Fr (two b x) H H' ∧ Rl s s1 ∧ H' nr = some (.tup [.ref ps, .ref pl]) ∧ Dp K H' (.ref ps) (.tuple (shs.map encN)) ∧ Dp K H' (.ref pl) (.tuple (los.map encL)) ∧ shs.length ≤ 100 ∧ los.length ≤ 100) ?_ fun key4 => ?_
        · rintro σ' H5 ⟨nr, ps, pl, shs, los, s1, rfl, S5, f5, rl1, hnr, dps, dpl, hl1, hl2⟩
          have tps : TO 2 (.tuple (shs.map encN)) := to_map (by omega) fun x _ => to_encN x
          have tpl : TO 2 (.tuple (los.map encL)) := to_map (by omega) fun x _ => to_encL x
          refine seq_cut (fun σ' H' => σ' = [some (.ref b), some (.ref x), some (.str sort), some (.int layer), some (.int count), some (.bl anchor), some (.ref s.st), some (.bl kp), some (.int place), some (.ref nr), some (.bl isE), some (.bl nw), none, none] ∧ ∃ s2 : SS, Sst K H' b (n + 301) x s2 ∧ Fr (two b x) H H' ∧ Rl s s2 ∧ Fr (two b x) H5 H') ?_ fun key5 => ?_
          · rintro σ' H6 ⟨rfl, s2, S6, f6, rl2, f56⟩
            have hnr6 := f56.tup hnr
            have dps6 := Dp.fr tps dps f56
            have dpl6 := Dp.fr tpl dpl f56
            change tAndV _ _ _ _ _
            refine and_cut (fun v H7 => ∃ hs : Bool, v = .bl hs ∧ Sst K H7 b (n + 302) x s2 ∧ Fr (only b) H6 H7) ?_ fun key6 => ?_
            · rintro v H7 ⟨hs, rfl, S7, f67⟩
              have hnr7 := f67.tup hnr6
              refine ⟨_, rfl, .inl ⟨count, rfl, _, rfl, x, _, rfl, SS.gSpan S7.hx, _, _, rfl, rfl, by rw [rl2.bits]; exact hpw.1, ?_⟩⟩
              rw [rl2.bits]
              have lo0 : 0 ≤ count % ((2 ^ s.bits : Nat) : Int) := Int.emod_nonneg _ (by omega)
              have lo1 : count % ((2 ^ s.bits : Nat) : Int) < ((2 ^ s.bits : Nat) : Int) := Int.emod_lt_of_pos _ hpw.1
              obtain ⟨rvs, g1, g2, g3⟩ := id S7.hst
              rw [rl2.st] at g1
              refine ⟨_, rfl, .inl ⟨rfl, _, SqL.of g1⟩, _, rfl, _, rfl, _, rfl, _, rfl, _, rfl, b, _, 8, rfl, S7.box, by omega, by decide, by decide, fun H8 r8 hb8 fr8 _ _ => ⟨_, _, rfl, rfl, by show 5 ≤ sizeLine; decide, fun u hu' => ?_⟩⟩
              have S8 := (S7.step fr8 hb8).new (o := .tup [.str sort, .int layer, .int (count % ((2 ^ s.bits : Nat) : Int)), .bl kp, .bl (decide (0 < r8))]) hu'
              have f78 : Fr (only b) H7 (upd H8 u (.tup [.str sort, .int layer, .int (count % ((2 ^ s.bits : Nat) : Int)), .bl kp, .bl (decide (0 < r8))])) := fr8.new hu'
              refine ⟨_, rfl, catA_of (SqT.of upd_same) (SqT.of (f78.tup hnr7)) (by show 7 ≤ sizeLine; decide) fun r9 H9 x9 hr9 => ⟨_, rfl, by show 1 ≤ sizeLine; decide, fun q hq => ?_⟩⟩
              refine catA_of (SqT.extN hr9 (ext_new hq)) (SqT.of upd_same) (by show 8 ≤ sizeLine; decide) fun r12 H12 x12 hr12 => ?_
              have S12 := ((S8.same x9).new (o := .tup [.bl hs]) hq).same x12
              have f712 : Fr (only b) H7 H12 := ((f78.tr (Same.fr x9 _)).new hq).tr (Same.fr x12 _)
              obtain ⟨rvs, g1, g2, g3⟩ := id S12.hst
              have hd12 : Dp K H12 (.ref r12) (encThing (some ⟨sort, layer, count % ((2 ^ s.bits : Nat) : Int), kp, decide (0 < r8), shs, los, hs⟩)) :=
                .tup hr12 (.cons (.str _) (.cons (.int _) (.cons (.int _) (.cons (.bl _) (.cons (.bl _) (.cons (Dp.fr tps dps6 (f67.tr f712)) (.cons (Dp.fr tpl dpl6 (f67.tr f712)) (.cons (.bl _) .nil))))))))
              have hpok : ThingOk (some ⟨sort, layer, count % ((2 ^ s.bits : Nat) : Int), kp, decide (0 < r8), shs, los, hs⟩) := ⟨hkd, hl1, hl2, fun he => by
                have := hen (hE.symm.trans he)
                exact ⟨this.1, hkp this.2⟩⟩
              have S13 := S12.push g1 g2 hd12 hpok (by rw [rl2.bits]; exact ⟨lo0, lo1⟩) (by rw [rl2.ts]; exact hlt)
              have f13 : Fr (three b x s.st) H (upd H12 s2.st (.lst (rvs ++ [.ref r12]))) := by
                have ff : Fr (three b x s.st) H H12 := (f6.mono fun y z => .inl (z.elim .inl fun z => .inr (.inl z))).tr (((f67.tr f712)).mono fun y z => .inl (.inl z))
                exact ff.put g1 rfl (.inl (.inr (.inr rl2.st)))
              have hlen : rvs.length < sizeLine := by
                rw [g2.1, List.length_map]
                exact Nat.lt_of_le_of_lt S12.tl (by decide)
              rw [rl2.st] at g1
              refine ⟨s.st, _, _, rfl, rfl, g1, hlen, ?_⟩
              rw [← rl2.st]
              generalize upd H12 s2.st (.lst (rvs ++ [.ref r12])) = H13 at S13 f13
              have hm1 := S12.mlen
              have hw1 := S12.wl
              have tl1 := S13.tl
              have ets : s2.ts = s.ts := rl2.ts
              have fin : ∀ H' s', Sst K H' b (n + 302 + 1) x s' → Fr (three b x s.st) H13 H' → s'.ts = s2.ts ++ [some ⟨sort, layer, count % ((2 ^ s.bits : Nat) : Int), kp, decide (0 < r8), shs, los, hs⟩] → s'.st = s2.st → s'.bits = s2.bits → s'.layers = s2.layers → Q .non H' := fun H' s' S' f' e1 e2 e3 e4 =>
                k H' s' _ (S'.le (by omega)) (f13.tr f') (by rw [e1, ets]) rfl (e2.trans rl2.st) (e3.trans rl2.bits) (e4.trans rl2.layers)
              clear k
              dsimp only
              change tOr _ _ _ _ _
              refine tt_cut (fun _ H' => H' = H13) ?_ fun key7 => ?_
              · rintro c H' rfl
                refine ite2 (fun _ => ?_) fun _ => fin _ _ S13 (Fr.refl _ _) rfl rfl rfl rfl
                refine ⟨_, rfl, x, _, rfl, SS.gMarks S13.hx, _, rfl, _, rfl, _, rfl, _, rfl, _, rfl, by show 6 ≤ sizeLine; decide, fun m hm => ⟨by show 1 ≤ sizeLine; decide, fun m2 hm2 => ?_⟩⟩
                have S14 := (S13.new (o := .lst (mkV count place layer kp sort "short")) hm).new (o := .lst [.ref m]) hm2
                refine ⟨s2.ml, m2, _, _, rfl, rfl, S14.hm, upd_same, Nat.le_trans (Nat.add_le_add (Nat.le_trans hm1 (Nat.le_trans (by rw [List.length_append] at tl1; exact Nat.le_of_succ_le tl1) (Nat.le_refl 60))) (Nat.le_refl 1)) (by decide), fun M hM => ?_⟩
                have S15 := S14.new (o := .lst (s2.marks ++ [V.ref m])) hM
                have f15 : Fr (three b x s.st) H' (upd (upd (upd H' m (.lst (mkV count place layer kp sort "short"))) m2 (.lst [.ref m])) M (.lst (s2.marks ++ [V.ref m]))) := (((Fr.refl _ _).new hm).new hm2).new hM
                have mk15 : ∀ v ∈ s2.marks ++ [V.ref m], MarkAt (upd (upd (upd H' m (.lst (mkV count place layer kp sort "short"))) m2 (.lst [.ref m])) M (.lst (s2.marks ++ [V.ref m]))) v := fun v hv => by
                  rcases List.mem_append.mp hv with hv | hv
                  · exact S15.mat v hv
                  · rw [List.mem_singleton.mp hv]
                    exact ⟨m, count, place, layer, kp, sort, "short", rfl, upd_keep (upd_keep upd_same hm2) hM⟩
                obtain ⟨_, gst, _⟩ := id S14.hst
                have S16 := S15.marksTo (F := M) (fvs := s2.marks ++ [V.ref m]) upd_same mk15 (S14.box.ne hM) (ne_of_none gst hM).symm (by
                  show (s2.marks ++ [V.ref m]).length ≤ (s2.ts ++ [_]).length
                  rw [List.length_append, List.length_append]
                  exact Nat.add_le_add hm1 (Nat.le_refl 1))
                have f16 := f15.put (o := .dK (ssl { s2 with ts := s2.ts ++ [some ⟨sort, layer, count % ((2 ^ s.bits : Nat) : Int), kp, decide (0 < r8), shs, los, hs⟩], ml := M, marks := s2.marks ++ [V.ref m] })) S15.hx rfl (.inl (.inr (.inl rfl)))
                refine ⟨_, rfl, x, _, rfl, SS.pMarks S15.hx M (s2.marks ++ [V.ref m]), ?_⟩
                refine ⟨_, rfl, x, _, rfl, SS.gLows S16.hx, _, rfl, by show 1 ≤ sizeLine; decide, fun q1 hq1 => ?_⟩
                have S17 := S16.new (o := .lst [.int (count % ((2 ^ s.bits : Nat) : Int))]) hq1
                refine ⟨s2.lo, q1, _, _, rfl, rfl, S17.hlo, upd_same, by rw [List.length_map]; exact Nat.le_trans (Nat.add_le_add (Nat.le_trans hw1 (by rw [List.length_append] at tl1; exact Nat.le_of_succ_le tl1)) (Nat.le_refl 1)) (by decide), fun W hW => ?_⟩
                have S18 := S17.new (o := .lst (s2.lows.map V.int ++ [.int (count % ((2 ^ s.bits : Nat) : Int))])) hW
                obtain ⟨_, gst2, _⟩ := id S17.hst
                have S19 := S18.lowsTo (F := W) (ns := s2.lows ++ [count % ((2 ^ s.bits : Nat) : Int)]) (by rw [upd_same, List.map_append]; rfl) (S17.box.ne hW) (ne_of_none gst2 hW).symm (by
                  show (s2.lows ++ [_]).length ≤ (s2.ts ++ [_]).length
                  rw [List.length_append, List.length_append]
                  exact Nat.add_le_add hw1 (Nat.le_refl 1))
                refine ⟨_, rfl, x, _, rfl, SS.pLows S18.hx W (s2.lows ++ [count % ((2 ^ s.bits : Nat) : Int)]), ?_⟩
                exact fin _ _ S19 (((f16.new hq1).new hW).put S18.hx rfl (.inl (.inr (.inl rfl)))) rfl rfl rfl rfl
              · refine ⟨_, rfl, rfl, _, rfl, ite2 (fun _ => key7 true _ rfl) fun _ => ?_⟩
                exact ⟨_, rfl, x, _, rfl, SS.gAnew S13.hx, _, rfl, key7 _ _ rfl⟩
            · refine ⟨_, rfl, isE, rfl, ite2 (fun _ => ?_) fun _ => key6 _ _ ⟨false, rfl, S6.le (by omega), Fr.refl _ _⟩⟩
              exact ⟨_, rfl, b, _, 8, rfl, S6.box, by omega, by decide, by decide, fun H7 r7 hb7 fr7 _ _ => ⟨_, rfl, x, _, rfl, SS.gHush (S6.step fr7 hb7).hx, _, _, rfl, rfl, key6 _ _ ⟨_, rfl, S6.step fr7 hb7, fr7⟩⟩⟩
          · refine ⟨_, rfl, isE, rfl, ite2 (fun _ => ?_) fun _ => key5 _ _ ⟨rfl, s1, S5, f5, rl1, Fr.refl _ _⟩⟩
            refine ⟨_, rfl, .inr (.inr (.inl ⟨rfl, .inl ⟨_, S5.hx⟩⟩)), fun p hp => ⟨_, rfl, _, rfl, upd_same, [(.inr "entry", .int place), (.inr "anew", .bl nw), (.inr "new", .bl false)], rfl, by show 3 ≤ 15; decide, ?_⟩⟩
            rw [merge3n, upd2]
            have S6 := S5.new (o := .dK [(.inr "entry", V.int place), (.inr "anew", .bl nw), (.inr "new", .bl false)]) hp
            refine ⟨x, p, ssl s1, _, rfl, rfl, S6.hx, upd_same, ne_of_none S5.hx hp, by show 13 ≤ 1000; decide, ?_⟩
            rw [merge3]
            have f6 : Fr (two b x) H5 (upd (upd H5 p (.dK [(.inr "entry", V.int place), (.inr "anew", .bl nw), (.inr "new", .bl false)])) x (.dK (ssl { s1 with entry := place, an := nw, nw := false }))) := ((Fr.refl _ _).new hp).put S6.hx rfl (.inl (.inr rfl))
            exact key5 _ _ ⟨rfl, _, S6.fld s1.last place nw false, f5.tr f6, ⟨rl1.ts, rl1.st, rl1.bits, rl1.layers⟩, f6⟩
        · refine ⟨_, rfl, nw, rfl, ite2 (fun _ => ?_) fun _ => ?_⟩
          · refine ⟨Nat.zero_le _, fun M hM => ⟨Nat.zero_le _, fun W hW => ⟨by show 2 ≤ sizeLine; decide, fun p hp => ?_⟩⟩⟩
            have hW0 := upd_no hW
            have f5 : Fr (only b) H4 (upd (upd (upd H4 M (.lst [])) W (.lst [])) p (.tup [.ref M, .ref W])) := (((Fr.refl _ _).new hM).new hW).new hp
            have S5 := ((S2.new (o := .lst []) hM).new (o := .lst []) hW).new (o := .tup [.ref M, .ref W]) hp
            obtain ⟨_, gst, _⟩ := id S2.hst
            have S6 := S5.marksTo (F := M) (fvs := []) (upd_keep (upd_keep upd_same hW) hp) (fun v hv => absurd hv List.not_mem_nil) (S2.box.ne hM) (ne_of_none gst hM).symm (Nat.zero_le _)
            have hW6 : upd (upd (upd (upd H4 M (.lst [])) W (.lst [])) p (.tup [.ref M, .ref W])) x (.dK (ssl { s with ml := M, marks := [] })) W = some (.lst (([] : List Int).map V.int)) := (upd_ne (ne_of (upd_keep upd_same hp) S5.hx (by intro z; cases z))).trans (upd_keep upd_same hp)
            have S7 := S6.lowsTo (F := W) (ns := []) hW6 (S2.box.ne hW0) (ne_of_none gst hW0).symm (Nat.zero_le _)
            have f7 : Fr (two b x) H4 (upd (upd (upd (upd (upd H4 M (.lst [])) W (.lst [])) p (.tup [.ref M, .ref W])) x (.dK (ssl { s with ml := M, marks := [] }))) x (.dK (ssl { s with ml := M, marks := [], lo := W, lows := [] }))) := ((f5.mono fun y z => .inl (.inl z)).put S5.hx rfl (.inl (.inr rfl))).put S6.hx rfl (.inl (.inr rfl))
            refine ⟨p, _, rfl, SqT.of upd_same, rfl, _, _, rfl, _, rfl, x, _, rfl, SS.pMarks S5.hx M [], _, _, rfl, _, rfl, x, _, rfl, SS.pLows S6.hx W [], rfl, key4 _ _ ⟨t3, t1, t2, [], [], _, rfl, S7.le (by omega), (f2.mono fun y z => .inl (.inl z)).tr f7, ⟨rfl, rfl, rfl, rfl⟩, f7.tup e3, .tup (SqT.of (f7.tup e1)) .nil, .tup (SqT.of (f7.tup e2)) .nil, Nat.zero_le _, Nat.zero_le _⟩⟩
          · change tOr _ _ _ _ _
            refine tt_cut (fun _ H5 => H5 = H4) ?_ fun key5 => ?_
            · rintro c H5 rfl
              refine ite2 (fun _ => ?_) fun _ => key4 _ _ ⟨t3, t1, t2, [], [], s, rfl, S2.le (by omega), f2.mono fun y z => .inl (.inl z), ⟨rfl, rfl, rfl, rfl⟩, e3, .tup (SqT.of e1) .nil, .tup (SqT.of e2) .nil, Nat.zero_le _, Nat.zero_le _⟩
              exact ⟨_, rfl, _, rfl, _, rfl, _, rfl, _, rfl, b, n + 1, x, s, sort, layer, count, rfl, S2, by omega, fun H6 r ps pl shs los F fvs S6 f6 hr dps dpl hl1 hl2 hl3 => key4 _ _ ⟨r, ps, pl, shs, los, _, rfl, S6.le (by omega), (f2.mono fun y z => .inl (.inl z)).tr f6, ⟨rfl, rfl, rfl, rfl⟩, hr, dps, dpl, hl1, hl2⟩⟩
            · refine ⟨_, rfl, x, _, rfl, SS.gAnew S2.hx, _, rfl, ite2 (fun _ => key5 true _ rfl) fun _ => ?_⟩
              exact ⟨_, rfl, rfl, _, rfl, key5 _ _ rfl⟩
      · refine ⟨_, rfl, rfl, _, rfl, ite2 (fun _ => key2 _ _ ⟨true, rfl, rfl⟩) fun _ => ?_⟩
        exact ⟨_, rfl, x, _, rfl, SS.gNew S2.hx, _, rfl, ite2 (fun _ => ⟨_, rfl, key2 _ _ ⟨isE, rfl, rfl⟩⟩) fun _ => key2 _ _ ⟨false, rfl, rfl⟩⟩
    · exact ⟨_, rfl, k0, rfl, ite2 (fun _ => key1 _ _ ⟨true, rfl, rfl, fun _ => rfl⟩) fun _ => ⟨_, rfl, key1 _ _ ⟨anchor, rfl, rfl, id⟩⟩⟩
  · have tk : ∀ (Q' : VK), (∀ v H1, (∃ k0 : Bool, v = .bl k0 ∧ Sst K H1 b (n + 1) x s ∧ Fr (only b) H H1) → Q' v H1) → True := fun _ _ => trivial
    refine ⟨_, rfl, _, _, rfl, rfl, _, rfl, ite2 (fun _ => ⟨_, rfl, ifT rfl ?_⟩) fun _ => ⟨_, rfl, rfl, _, rfl, ite2 (fun _ => ?_) fun _ => key _ _ ⟨false, rfl, S0.le (Nat.le_succ _), Fr.refl _ _⟩⟩⟩
    · exact ⟨_, rfl, b, _, 2, rfl, S0.box, by omega, by decide, by decide, fun H1 r1 hb1 fr1 _ _ => ⟨rfl, key _ _ ⟨_, rfl, S0.step fr1 hb1, fr1⟩⟩⟩
    · exact ⟨_, rfl, b, _, 2, rfl, S0.box, by omega, by decide, by decide, fun H1 r1 hb1 fr1 _ _ => ⟨rfl, key _ _ ⟨_, rfl, S0.step fr1 hb1, fr1⟩⟩⟩
end

end L2.K13
set_option Elab.async false
set_option linter.all false
set_option maxRecDepth 100000
set_option maxHeartbeats 4000000
set_option pp.maxSteps 150
namespace L2.K13
open PySem PySem.Spec PyProof.Rows L2
open C8 (Cal Met Mak pe_c pe_mt pe_mt0 pe_mk)
local macro_rules | `(tactic| walk_at "hp") => `(tactic| first | assumption | exact upd_same | (refine upd_keep ?_ (by assumption); walk_at "hp") | (refine upd_off ?_ (by assumption) (by intro z; cases z); walk_at "hp"))
local macro_rules | `(tactic| walk_at "seq") => `(tactic| first | assumption | exact SqT.of (by walk_at "hp") | exact SqL.of (by walk_at "hp"))
section
theorem to_lay : ∀ {n : Nat} {d : PyData}, TO n d → d.canLay0 = true ∧ d.depth ≤ n
  | _, .none, _ => ⟨rfl, Nat.zero_le _⟩
  | _, .bool _, _ => ⟨rfl, Nat.zero_le _⟩
  | _, .int _, _ => ⟨rfl, Nat.zero_le _⟩
  | 0, .str _, h => ⟨h, Nat.zero_le _⟩
  | _ + 1, .str _, h => ⟨h, Nat.zero_le _⟩
  | 0, .tuple _, h => h.elim
  | n + 1, .tuple xs, h => by
    have h1 := layAll fun d hd => (to_lay (h.2 d hd)).1
    have h2 := depAll fun d hd => (to_lay (h.2 d hd)).2
    exact ⟨h1, Nat.succ_le_succ h2⟩
  | 0, .list _, h => h.elim
  | _ + 1, .list _, h => h.elim
  | 0, .dict _, h => h.elim
  | _ + 1, .dict _, h => h.elim
theorem LD.dp {K : PySem.W.Frag} {H : Hp} {l : Addr} {ds : List PyData} {m : Nat} (h : LD K m H l ds) : Dp K H (.ref l) (.list ds) := by
  obtain ⟨rvs, g1, g2, g3⟩ := h
  exact .lst (SqL.of g1) (dpAll_of g2)
/-- an order of counts -/
def OrdAt (H : Hp) (b st : Addr) (v : V) : Prop := ∃ (o : Addr) (ns : List Int), v = .ref o ∧ H o = some (.lst (ns.map V.int)) ∧ ns ≠ [] ∧ ns.length ≤ 4 ∧ o ≠ b ∧ o ≠ st
theorem OrdAt.fr {H H' : Hp} {b x st : Addr} {v : V} {kvs : List (Key × V)} (h : OrdAt H b st v) (f : Fr (three b x st) H H') (hx : H x = some (.dK kvs)) : OrdAt H' b st v := by
  obtain ⟨o, ns, e, g, h1, h2, h3, h4⟩ := h
  exact ⟨o, ns, e, f.out g fun z => z.elim h3 fun z => z.elim (fun z => by rw [z, hx] at g; cases g) h4, h1, h2, h3, h4⟩
theorem OrdAt.frb {H H' : Hp} {b st : Addr} {v : V} (h : OrdAt H b st v) (f : Fr (only b) H H') : OrdAt H' b st v := by
  obtain ⟨o, ns, e, g, h1, h2, h3, h4⟩ := h
  exact ⟨o, ns, e, f.out g h3, h1, h2, h3, h4⟩
theorem HeadEn.ne {ts : List (Option Pic)} (h : HeadEn ts) : ts ≠ [] := by
  obtain ⟨p, r, e, _⟩ := h
  rw [e]; simp
end
section
variable {P : Program} {w : World} {K : PySem.W.Frag} {mg : Str → Option Value} {base : Heap}
theorem only3 {b x st : Addr} {H H' : Hp} (f : Fr (only b) H H') : Fr (three b x st) H H' := f.mono fun y z => .inl (.inl z)
def spGroup (K : PySem.W.Frag) : Sp := fun vs H Q _ => ∃ (b : Addr) (n : Nat) (x : Addr) (s : SS), vs = [.ref b, .ref x] ∧ Sst K H b n x s ∧ n + 2000 < 2 ^ 30 ∧ (s.ts = [] ∨ HeadEn s.ts) ∧ s.ts.length ≤ 50 ∧
  ∀ H' s', Sst K H' b (n + 2000) x s' → Fr (three b x s.st) H H' → HeadEn s'.ts → s'.ts.length ≤ s.ts.length + 5 → s'.st = s.st → s'.bits = s.bits → s'.layers = s.layers → Q .non H'
theorem ok_group (T : Fx K mg) (F : DF K mg "_law_group" s_group ["_law_box_here", "_law_state"]) (c_take : Cal P w K mg base 2 "_law_take" (spTk K) []) (c_of : Cal P w K mg base 3 "_law_of" (spOf K) []) (c_added : Cal P w K mg base 4 "_law_added" (spAdded K) []) : Cal P w K mg base 5 "_law_group" (spGroup K) [] := by
  refine F.cal sc_group (fun vs H Q E h => ?_) (fun f cdv A outer s0 H vs Q E hr h => ?_)
  · obtain ⟨_, _, _, _, rfl, _⟩ := h
    rfl
  obtain ⟨b, n, x, s, rfl, S0, hn, hhd, hlt, k⟩ := h
  have nd := sc_group.nd
  have hu := hu_of hr
  have hu64 := hu64_of hr
  have hpw := pow_le (n := s.bits) S0.b1
  refine ⟨_, (pss_cons (ps_set (i := 2) nd rfl (Or.inl rfl) (pe_c c_of hr (by first | decide | omega) (by rfl) (pa_cons (pv 0) (pa_cons (pe_lst (pa_cons (pe_lst (pa_cons pe_int pa_nil)) (pa_cons (pe_lst (pa_cons pe_int (pa_cons pe_int pa_nil))) (pa_cons (pe_lst (pa_cons pe_int (pa_cons pe_int (pa_cons pe_int pa_nil)))) (pa_cons (pe_lst (pa_cons pe_int (pa_cons pe_int (pa_cons pe_int pa_nil)))) (pa_cons (pe_lst (pa_cons pe_int (pa_cons pe_int (pa_cons pe_int (pa_cons pe_int pa_nil))))) (pa_cons (pe_lst (pa_cons pe_int pa_nil)) pa_nil))))))) pa_nil))))
  (pss_cons (ps_if (pt_cmpR op_eq (pe_dget hu (pv 1) pe_str (fun _ _ => rfl)) pe_int (nomark _)) (pss_one (ps_set (i := 2) nd rfl (Or.inl rfl) (pe_c c_of hr (by first | decide | omega) (by rfl) (pa_cons (pv 0) (pa_cons (pe_lst (pa_cons (pe_lst (pa_cons pe_int pa_nil)) (pa_cons (pe_lst (pa_cons pe_int (pa_cons pe_int pa_nil))) pa_nil))) pa_nil))))) pss_nil)
  (pss_cons (ps_par (i := 3) (j := 4) rfl nd rfl rfl (by decide) rfl rfl (pa_cons (pe_c c_take hr (by first | decide | omega) (by rfl) (pa_cons (pv 0) (pa_cons pe_int pa_nil))) (pa_cons pe_str pa_nil)) rfl)
  (pss_cons (ps_if (pt_cmpR (op_eqD hu64) (pe_dget hu (pv 1) pe_str (fun _ _ => rfl)) (pe_lst pa_nil) (nomark _)) (pss_one (ps_set (i := 3) nd rfl (Or.inl rfl) (pe_c c_take hr (by first | decide | omega) (by rfl) (pa_cons (pv 0) (pa_cons pe_int pa_nil))))) pss_nil)
  (pss_cons (ps_if (PW.pt (pw_and (pt_cmpR op_eq (pv 3) pe_int (nomark _)) (pw_and1 (pt_cmpR op_eq (pe_c c_take hr (by first | decide | omega) (by rfl) (pa_cons (pv 0) (pa_cons pe_int pa_nil))) pe_int (nomark _))))) (pss_cons (ps_expr (pe_bm PySem.F.plainAttrs_list PySem.F.slot_list_append PySem.F.type_list_append mt_append (pe_dget hu (pv 1) pe_str (fun _ _ => rfl)) (pa_cons (pe_tup (pa_cons pe_str pa_nil)) pa_nil)))
      (pss_one (ps_asg (pe_tup (pa_cons pe_bl (pa_cons (pe_c c_take hr (by first | decide | omega) (by rfl) (pa_cons (pv 0) (pa_cons pe_int pa_nil))) pa_nil))) (pg_tup rfl (pgs_cons (pg_sub (pv 1) pe_str (set_dict hu)) (pgs_cons (pg_name (i := 3) nd rfl (by first | exact .inl rfl | exact .inr rfl)) pgs_nil)))))) pss_nil)
  (pss_cons (ps_set (i := 4) nd rfl (Or.inl rfl) (pe_ifExp (pt_cmpR op_lt (pv 3) pe_int (nomark _)) (pe_ix ix_list (pe_lst (pa_cons pe_str (pa_cons pe_str (pa_cons pe_str pa_nil)))) (pv 3) (fun _ _ => rfl)) pe_str))
  (pss_cons (ps_set (i := 5) nd rfl (Or.inl rfl) (pe_dget hu (pv 1) pe_str (fun _ _ => rfl)))
  (pss_cons (ps_if (pt_cmpR op_eq (pv 4) pe_str (nomark _)) (pss_one (ps_set (i := 5) nd rfl (Or.inl rfl) (pe_un un_neg (pe_ix ix_list (pv 2) pe_int (fun _ _ => rfl))))) pss_nil)
  (pss_cons (ps_if (PW.pt (pw_and (pt_val (pe_dget hu (pv 1) pe_str (fun _ _ => rfl))) (pw_and1 (pt_cmpR op_eq (pv 4) pe_str (nomark _))))) (pss_one (ps_set (i := 5) nd rfl (Or.inl rfl) (pe_op op_sub (pe_c c_take hr (by first | decide | omega) (by rfl) (pa_cons (pv 0) (pa_cons (pe_dget hu (pv 1) pe_str (fun _ _ => rfl)) pa_nil))) (pe_ix ix_list (pv 2) pe_int (fun _ _ => rfl))))) pss_nil)
  (pss_cons (ps_expr (pe_c c_added hr (by first | decide | omega) (by rfl) (pa_cons (pv 0) (pa_cons (pv 1) (pa_cons (pv 4) (pa_cons pe_int (pa_cons (pe_op op_add (pv 5) (pe_ix ix_list (pv 2) pe_int (fun _ _ => rfl))) (pa_cons pe_bl pa_nil))))))))
  (pss_cons (ps_for PassesOwn.never rfl (pi_list (pe_slice sl_list (pv 2) (po_some pe_int) po_none)) (pg_name (i := 6) nd rfl (by first | exact .inl rfl | exact .inr rfl)) (pss_cons (ps_set (i := 7) nd rfl (Or.inl rfl) (pe_ifExp (pt_cmpR op_eq (pv 4) pe_str (nomark _)) (pe_c c_of hr (by first | decide | omega) (by rfl) (pa_cons (pv 0) (pa_cons (pe_lst (pa_cons pe_str (pa_cons pe_str pa_nil))) pa_nil))) (pe_ifExp (pt_cmpR op_eq (pv 4) pe_str (nomark _)) pe_str pe_str)))
      (pss_one (ps_expr (pe_c c_added hr (by first | decide | omega) (by rfl) (pa_cons (pv 0) (pa_cons (pv 1) (pa_cons (pv 7) (pa_cons (pe_c c_take hr (by first | decide | omega) (by rfl) (pa_cons (pv 0) (pa_cons (pe_dget hu (pv 1) pe_str (fun _ _ => rfl)) pa_nil))) (pa_cons (pe_op op_add (pv 5) (pv 6)) (pa_cons pe_bl pa_nil)))))))))))
  (pss_one (ps_dput hu (pv 1) pe_str (pe_op op_add (pv 5) (pe_ix ix_list (pv 2) pe_int (fun _ _ => rfl))) rfl))))))))))))), ?_⟩
  obtain ⟨_, gst, _⟩ := id S0.hst
  refine ⟨_, rfl, by show 1 ≤ sizeLine; decide, fun p1 h1 => ⟨by show 2 ≤ sizeLine; decide, fun p2 h2 => ⟨by show 3 ≤ sizeLine; decide, fun p3 h3 => ⟨by show 3 ≤ sizeLine; decide, fun p4 h4 => ⟨by show 4 ≤ sizeLine; decide, fun p5 h5 => ⟨by show 1 ≤ sizeLine; decide, fun p6 h6 => ⟨by show 6 ≤ sizeLine; decide, fun p h => ?_⟩⟩⟩⟩⟩⟩⟩
  have S1 := ((((((S0.new (o := .lst [.int 1]) h1).new (o := .lst [.int 2, .int 1]) h2).new (o := .lst [.int 3, .int 2, .int 1]) h3).new (o := .lst [.int 3, .int 1, .int 2]) h4).new (o := .lst [.int 4, .int 2, .int 1, .int 3]) h5).new (o := .lst [.int 1]) h6).new (o := .lst [.ref p1, .ref p2, .ref p3, .ref p4, .ref p5, .ref p6]) h
  have f1 : Fr (only b) H _ := (((((((Fr.refl _ _).new (o := .lst [.int 1]) h1).new (o := .lst [.int 2, .int 1]) h2).new (o := .lst [.int 3, .int 2, .int 1]) h3).new (o := .lst [.int 3, .int 1, .int 2]) h4).new (o := .lst [.int 4, .int 2, .int 1, .int 3]) h5).new (o := .lst [.int 1]) h6).new (o := .lst [.ref p1, .ref p2, .ref p3, .ref p4, .ref p5, .ref p6]) h
  have n2 := upd_no h2
  have n3 := upd_no (upd_no h3)
  have n4 := upd_no (upd_no (upd_no h4))
  have n5 := upd_no (upd_no (upd_no (upd_no h5)))
  have n6 := upd_no (upd_no (upd_no (upd_no (upd_no h6))))
  have n7 := upd_no (upd_no (upd_no (upd_no (upd_no (upd_no h)))))
  have fresh : ∀ {y : Addr}, H y = none → y ≠ b ∧ y ≠ s.st := fun {y} hy => ⟨S0.box.ne hy, (ne_of_none gst hy).symm⟩
  refine ⟨b, p, n, _, rfl, S1.box, by omega, upd_same, by simp, by show 6 ≤ 1000; decide, (fresh n7).1, fun H2 v hb2 fr2 hv => ?_⟩
  have hord : OrdAt H2 b s.st v := by
    refine OrdAt.frb (H := _) ?_ fr2
    simp only [List.mem_cons, List.not_mem_nil, or_false] at hv
    rcases hv with rfl | rfl | rfl | rfl | rfl | rfl
    · exact ⟨p1, [1], rfl, upd_keep (upd_keep (upd_keep (upd_keep (upd_keep (upd_keep upd_same h2) h3) h4) h5) h6) h, by simp, by decide, fresh h1⟩
    · exact ⟨p2, [2, 1], rfl, upd_keep (upd_keep (upd_keep (upd_keep (upd_keep upd_same h3) h4) h5) h6) h, by simp, by decide, fresh n2⟩
    · exact ⟨p3, [3, 2, 1], rfl, upd_keep (upd_keep (upd_keep (upd_keep upd_same h4) h5) h6) h, by simp, by decide, fresh n3⟩
    · exact ⟨p4, [3, 1, 2], rfl, upd_keep (upd_keep (upd_keep upd_same h5) h6) h, by simp, by decide, fresh n4⟩
    · exact ⟨p5, [4, 2, 1, 3], rfl, upd_keep (upd_keep upd_same h6) h, by simp, by decide, fresh n5⟩
    · exact ⟨p6, [1], rfl, upd_keep upd_same h, by simp, by decide, fresh n6⟩
  have S2 := S1.step fr2 hb2
  have f2 := f1.tr fr2
  refine gn_cut ?_
  dsimp only
  refine seq_cut (fun σ' H' => ∃ v : V, σ' = [some (.ref b), some (.ref x), some v, none, none, none, none, none] ∧ Sst K H' b (n + 2) x s ∧ Fr (only b) H H' ∧ OrdAt H' b s.st v) ?_ fun key1 => ?_
  · rintro σ' H3 ⟨v, rfl, S3, f3, hord⟩
    obtain ⟨o, ns, rfl, ho, hne, hnl, nob, nos⟩ := id hord
    refine ⟨_, rfl, b, _, 8, rfl, S3.box, by omega, by decide, by decide, fun H4 way hb4 fr4 w0 w1 => ⟨_, _, rfl, ?_⟩⟩
    have S4 := S3.step fr4 hb4
    have f4 := f3.tr fr4
    dsimp only
    refine seq_cut (fun σ' H' => ∃ way : Int, σ' = [some (.ref b), some (.ref x), some (.ref o), some (.int way), some (.str "trail"), none, none, none] ∧ Sst K H' b (n + 4) x s ∧ Fr (only b) H H' ∧ Fr (only b) H4 H' ∧ 0 ≤ way ∧ way < 8 ∧ (s.ts = [] → way < 2)) ?_ fun key3 => ?_
    · rintro σ' H5 ⟨way, rfl, S5, f5, f45, w0, w1, w2⟩
      refine seq_cut (fun σ' H' => ∃ (way : Int) (s1 : SS), σ' = [some (.ref b), some (.ref x), some (.ref o), some (.int way), some (.str "trail"), none, none, none] ∧ Sst K H' b (n + 6) x s1 ∧ Fr (three b x s.st) H H' ∧ Fr (three b x s.st) H5 H' ∧ 0 ≤ way ∧ way < 8 ∧ ((s1.ts = [] ∧ way < 2) ∨ HeadEn s1.ts) ∧ s1.ts.length ≤ s.ts.length + 1 ∧ s1.st = s.st ∧ s1.bits = s.bits ∧ s1.layers = s.layers) ?_ fun key4 => ?_
      · rintro σ' H6 ⟨way, s1, rfl, S6, f6, f56, w0, w1, hcase, hlen1, est, eb, ely⟩
        obtain ⟨o', ns6, e0, ho6, hne6, hnl6, nob6, nos6⟩ := ((hord.frb fr4).frb f45).fr f56 S5.hx
        cases e0
        obtain ⟨n0, nr, rfl⟩ := List.exists_cons_of_ne_nil hne6
        have tsl : s1.ts.length ≤ 51 := by omega
        change tIf _ _ _ _ _ _
        refine if_cut (fun v H7 => ∃ kd : Str, v = .str kd ∧ kd ∈ kinds ∧ (way < 2 → isEntry kd = true) ∧ Sst K H7 b (n + 6) x s1 ∧ Fr (only b) H6 H7) ?_ fun key5 => ?_
        · rintro v H7 ⟨kd, rfl, hkd, hke, S7, f67⟩
          have ho7 := f67.out ho6 nob6
          have q1 : atI ((n0 :: nr).map V.int) 0 = some (.int n0) := at0
          refine gn_cut ?_
          dsimp only
          refine ⟨_, rfl, x, _, rfl, SS.gLast S7.hx, ?_⟩
          refine gn_cut ?_
          dsimp only
          refine seq_cut (fun σ' H' => ∃ st0 : Int, σ' = [some (.ref b), some (.ref x), some (.ref o), some (.int way), some (.str kd), some (.int st0), none, none] ∧ H' = H7) ?_ fun key7 => ?_
          · rintro σ' H' ⟨st0, rfl, rfl⟩
            refine seq_cut (fun σ' H' => ∃ st0 : Int, σ' = [some (.ref b), some (.ref x), some (.ref o), some (.int way), some (.str kd), some (.int st0), none, none] ∧ Sst K H' b (n + 7) x s1 ∧ Fr (only b) H6 H') ?_ fun key8 => ?_
            · rintro σ' H8 ⟨st0, rfl, S8, f68⟩
              have ho8 := f68.out ho6 nob6
              refine ⟨_, rfl, _, rfl, _, rfl, _, rfl, _, rfl, o, _, 0, .int n0, rfl, rfl, SqL.of ho8, q1, _, _, rfl, rfl, b, n + 7, x, s1, kd, 0, _, true, rfl, S8, by omega, hkd, fun _ => ⟨rfl, rfl⟩, by omega, fun H9 s9 p S9 f9 ets ek est9 eb9 ely9 => ?_⟩
              have f9' : Fr (three b x s.st) H8 H9 := by rw [← est]; exact f9
              have hH9 : HeadEn s9.ts := by
                rw [ets]
                rcases hcase with ⟨e, hw⟩ | e
                · rw [e]
                  exact ⟨p, [], rfl, by rw [ek]; exact hke hw⟩
                · exact e.app _
              have hl9 : s9.ts.length ≤ s.ts.length + 2 := by
                rw [ets, List.length_append]
                show s1.ts.length + 1 ≤ _
                omega
              have ho9 : H9 o = some (.lst ((n0 :: nr).map V.int)) := f9'.out ho8 fun z => z.elim nob6 fun z => z.elim (fun z => by rw [z, S8.hx] at ho8; cases ho8) nos6
              have f09 : Fr (three b x s.st) H H9 := (f6.tr (only3 f68)).tr f9'
              refine ⟨_, rfl, _, rfl, o, _, rfl, SqL.of ho9, fun pp hpp => ⟨pp, rfl, ⟨_, SqL.of upd_same⟩, ?_⟩⟩
              have hcl := cutV_length ((n0 :: nr).map V.int) (some 1) none
              have hcn : ∀ v ∈ cutV ((n0 :: nr).map V.int) (some 1) none, ∃ i, v = V.int i := fun v hv => by
                obtain ⟨i, _, rfl⟩ := List.mem_map.mp (cutV_sub v hv)
                exact ⟨i, rfl⟩
              have hcl3 : (cutV ((n0 :: nr).map V.int) (some 1) none).length ≤ 3 := by
                have hm : ((n0 :: nr).map V.int).length ≤ 4 := by rw [List.length_map]; exact hnl6
                unfold cutV
                rw [List.length_take, List.length_drop]
                have : HT.sIx ((n0 :: nr).map V.int).length 0 (some 1) = min 1 ((n0 :: nr).map V.int).length := HT.sIx_nat _ _ 1
                have h4 : 1 ≤ ((n0 :: nr).map V.int).length := by rw [List.length_map]; exact Nat.succ_le_succ (Nat.zero_le _)
                omega
              have npb : pp ≠ b := S9.box.ne hpp
              obtain ⟨_, gst9, _⟩ := id S9.hst
              have nps : pp ≠ s.st := by
                rw [est9, est] at gst9
                exact (ne_of_none gst9 hpp).symm
              have npx : pp ≠ x := (ne_of_none S9.hx hpp).symm
              generalize cutV ((n0 :: nr).map V.int) (some 1) none = cs at hcl hcn hcl3
              refine for_list (K := K) (a := pp) (xs := cs) (fun i σ H' => ∃ (v6 v7 : Option V) (s3 : SS), σ = [some (.ref b), some (.ref x), some (.ref o), some (.int way), some (.str kd), some (.int st0), v6, v7] ∧ Sst K H' b (n + 320 + 320 * i) x s3 ∧ Fr (three b x s.st) H H' ∧ H' pp = some (.lst cs) ∧ H' o = some (.lst ((n0 :: nr).map V.int)) ∧ HeadEn s3.ts ∧ s3.ts.length ≤ s.ts.length + 2 + i ∧ s3.st = s.st ∧ s3.bits = s.bits ∧ s3.layers = s.layers)
                ⟨none, none, s9, rfl, (S9.new hpp).le (by omega), f09.new hpp, upd_same, upd_keep ho9 hpp, hH9, hl9, est9.trans est, eb9.trans eb, ely9.trans ely⟩ (fun i σ H' _ ⟨_, _, _, _, _, _, g, _⟩ => SqL.of g) ?_ ?_
              · rintro i y σ H10 hy ⟨v6, v7, s3, rfl, S10, f10, g10, ho10, hH, hl, e1, e2, e3⟩
                obtain ⟨far, rfl⟩ := hcn y (mem_at hy)
                have hi : i < cs.length := (List.getElem?_eq_some_iff.mp hy).1
                refine gn_cut ?_
                dsimp only
                change tIf _ _ _ _ _ _
                refine if_cut (fun v H11 => ∃ ld : Str, v = .str ld ∧ ld ∈ kinds ∧ isEntry ld = false ∧ Sst K H11 b (n + 321 + 320 * i) x s3 ∧ Fr (only b) H10 H11) ?_ fun key11 => ?_
                · rintro v H11 ⟨ld, rfl, hld, hle, S11, f11⟩
                  refine ⟨_, rfl, _, rfl, _, rfl, _, rfl, _, rfl, x, _, rfl, SS.gLayers S11.hx, b, _, _, rfl, S11.box, by omega, ?_, ?_, fun H12 r12 hb12 fr12 _ _ => ?_⟩
                  · have := S11.y0; omega
                  · have := S11.y1; omega
                  · have S12 := S11.step fr12 hb12
                    refine ⟨_, rfl, _, rfl, _, _, rfl, rfl, b, _, x, s3, ld, r12, _, false, rfl, S12, by omega, hld, fun z => (by rw [hle] at z; cases z), by omega, fun H13 s13 p13 S13 f13 ets13 ek13 est13 eb13 ely13 => ?_⟩
                    have f13' : Fr (three b x s.st) H10 H13 := (only3 (f11.tr fr12)).tr (by rw [← e1]; exact f13)
                    have nx : ∀ {y : Addr} {xs : List V}, H10 y = some (.lst xs) → y ≠ x := fun h z => by rw [z, S10.hx] at h; cases h
                    exact ⟨_, _, s13, rfl, S13.le (by omega), f10.tr f13', f13'.out g10 fun z => z.elim npb fun z => z.elim npx nps, f13'.out ho10 fun z => z.elim nob6 fun z => z.elim (nx ho10) nos6, by rw [ets13]; exact hH.app _, by rw [ets13, List.length_append]; show s3.ts.length + 1 ≤ _; omega, est13.trans e1, eb13.trans e2, ely13.trans e3⟩
                · refine ⟨_, rfl, rfl, _, rfl, ite2 (fun _ => ?_) fun _ => ?_⟩
                  · refine ⟨_, rfl, by show 2 ≤ sizeLine; decide, fun q hq => ?_⟩
                    have S11 := S10.new (o := .lst [.str "skip", .str "lead"]) hq
                    refine ⟨b, q, _, _, rfl, S11.box, by omega, upd_same, by simp, by show 2 ≤ 1000; decide, S10.box.ne hq, fun H12 v12 hb12 fr12 hv12 => ?_⟩
                    simp only [List.mem_cons, List.not_mem_nil, or_false] at hv12
                    rcases hv12 with rfl | rfl
                    · exact key11 _ _ ⟨"skip", rfl, by decide +kernel, by decide +kernel, (S11.step fr12 hb12).le (by omega), ((Fr.refl _ _).new hq).tr fr12⟩
                    · exact key11 _ _ ⟨"lead", rfl, by decide +kernel, by decide +kernel, (S11.step fr12 hb12).le (by omega), ((Fr.refl _ _).new hq).tr fr12⟩
                  · exact ⟨_, rfl, rfl, _, rfl, ite2 (fun _ => key11 _ _ ⟨"lead", rfl, by decide +kernel, by decide +kernel, S10.le (by omega), Fr.refl _ _⟩) fun _ => key11 _ _ ⟨"trail", rfl, by decide +kernel, by decide +kernel, S10.le (by omega), Fr.refl _ _⟩⟩
              · rintro σ H10 ⟨v6, v7, s3, rfl, S10, f10, g10, ho10, hH, hl, e1, e2, e3⟩
                refine ⟨_, rfl, _, rfl, o, _, 0, .int n0, rfl, rfl, SqL.of ho10, q1, _, _, rfl, rfl, _, rfl, x, _, rfl, SS.pLast S10.hx _, ?_⟩
                exact k _ _ ((S10.fld _ s3.entry s3.an s3.nw).le (by omega)) (f10.put S10.hx rfl (.inl (.inr (.inl rfl)))) hH (by show s3.ts.length ≤ _; omega) e1 e2 e3
            · change tAnd _ _ _ _ _
              refine tt_cut (fun _ H8 => H8 = H') ?_ fun key9 => ?_
              · rintro c H8 rfl
                refine ite2 (fun _ => ?_) fun _ => key8 _ _ ⟨st0, rfl, S7.le (by omega), f67⟩
                refine ⟨_, rfl, _, rfl, x, _, rfl, SS.gSpan S7.hx, b, _, _, rfl, S7.box, by omega, by rw [eb]; exact hpw.1, by rw [eb]; omega, fun H9 r9 hb9 fr9 _ _ => ?_⟩
                exact ⟨_, rfl, o, _, 0, .int n0, rfl, rfl, SqL.of (fr9.out ho7 nob6), q1, _, _, rfl, rfl, key8 _ _ ⟨_, rfl, S7.step fr9 hb9, f67.tr fr9⟩⟩
              · refine ⟨_, rfl, x, _, rfl, SS.gNew S7.hx, _, rfl, ite2 (fun _ => ?_) fun _ => key9 false _ rfl⟩
                exact ⟨_, rfl, rfl, _, rfl, key9 _ _ rfl⟩
          · refine ⟨_, rfl, rfl, _, rfl, ite2 (fun _ => ?_) fun _ => key7 _ _ ⟨_, rfl, rfl⟩⟩
            exact ⟨_, rfl, o, _, 0, .int n0, rfl, rfl, SqL.of ho7, q1, _, rfl, key7 _ _ ⟨_, rfl, rfl⟩⟩
        · refine ⟨_, rfl, _, _, rfl, rfl, _, rfl, ite2 (fun hc => ?_) fun hc => ?_⟩
          · have hw3 : way < 3 := of_decide_eq_true hc
            refine ⟨by show 3 ≤ sizeLine; decide, fun p hp => ?_⟩
            have S7 := S6.new (o := .lst [.str "clean", .str "open", .str "open"]) hp
            have f7 : Fr (only b) H6 (upd H6 p (.lst [.str "clean", .str "open", .str "open"])) := (Fr.refl _ _).new hp
            have h3 : way = 0 ∨ way = 1 ∨ way = 2 := by omega
            rcases h3 with rfl | rfl | rfl
            · exact ⟨_, rfl, p, _, 0, .str "clean", rfl, rfl, SqL.of upd_same, at0, key5 _ _ ⟨"clean", rfl, by decide +kernel, fun _ => by decide +kernel, S7, f7⟩⟩
            · exact ⟨_, rfl, p, _, 1, .str "open", rfl, rfl, SqL.of upd_same, atI_natE (n := 1) rfl, key5 _ _ ⟨"open", rfl, by decide +kernel, fun _ => by decide +kernel, S7, f7⟩⟩
            · exact ⟨_, rfl, p, _, 2, .str "open", rfl, rfl, SqL.of upd_same, atI_natE (n := 2) rfl, key5 _ _ ⟨"open", rfl, by decide +kernel, fun _ => by decide +kernel, S7, f7⟩⟩
          · have hw3 : ¬ way < 3 := fun z => hc (decide_eq_true z)
            exact key5 _ _ ⟨"trail", rfl, by decide +kernel, fun z => absurd z (by omega), S6, Fr.refl _ _⟩
      · refine tt_cut (fun c H6 => Sst K H6 b (n + 5) x s ∧ Fr (only b) H5 H6 ∧ (c = true → way = 2)) ?_ fun key5 => ?_
        · rintro c H6 ⟨S6, f56, hc⟩
          have f6 := f5.tr f56
          refine ite2 (fun hct => ?_) fun _ => ?_
          · have hw := hc hct
            have hH : HeadEn s.ts := hhd.resolve_left fun e => by have := w2 e; omega
            obtain ⟨rvs, g1, g2, g3⟩ := id S6.hst
            refine ⟨_, rfl, x, _, rfl, SS.gStream S6.hx, .inl ⟨rfl, _, SqL.of g1⟩, by show 1 ≤ sizeLine; decide, fun t ht => ?_⟩
            have S7 := S6.new (o := .tup [.str "end"]) ht
            obtain ⟨rvs, g1, g2, g3⟩ := id S7.hst
            have S8 := S7.push g1 g2 (t := none) (v := .ref t) (.tup (SqT.of upd_same) (.cons (.str _) .nil)) trivial trivial (by omega)
            have f8 : Fr (three b x s.st) H (upd (upd H6 t (.tup [.str "end"])) s.st (.lst (rvs ++ [.ref t]))) := ((only3 f6).new ht).put g1 rfl (.inl (.inr (.inr rfl)))
            refine ⟨s.st, _, _, rfl, rfl, g1, by rw [g2.1, List.length_map]; exact Nat.lt_of_le_of_lt S7.tl (by decide), ?_⟩
            refine ⟨_, rfl, b, _, 2, rfl, S8.box, by omega, by decide, by decide, fun H9 r9 hb9 fr9 q0 q1 => ⟨by show 2 ≤ sizeLine; decide, fun p hp => ?_⟩⟩
            have S9 := (S8.step fr9 hb9).new (o := .tup [.bl true, .int r9]) hp
            refine ⟨p, _, rfl, SqT.of upd_same, rfl, _, _, rfl, _, rfl, x, _, rfl, SS.pNew S9.hx true, _, _, rfl, rfl, key4 _ _ ⟨r9, _, rfl, (S9.fld s.last s.entry s.an true).le (by omega), ((f8.tr (only3 fr9)).new hp).put S9.hx rfl (.inl (.inr (.inl rfl))), (((((only3 f56).new ht).put g1 rfl (.inl (.inr (.inr rfl)))).tr (only3 fr9)).new hp).put S9.hx rfl (.inl (.inr (.inl rfl))), q0, by omega, .inr (hH.app _), by rw [List.length_append]; exact Nat.le_refl _, rfl, rfl, rfl⟩⟩
          · exact key4 _ _ ⟨way, s, rfl, S6.le (by omega), only3 f6, only3 f56, w0, w1, hhd.imp (fun e => ⟨e, w2 e⟩) id, Nat.le_succ _, rfl, rfl, rfl⟩
        · refine ⟨_, rfl, rfl, _, rfl, ite2 (fun he => ?_) fun _ => key5 false _ ⟨S5.le (by omega), Fr.refl _ _, fun z => by cases z⟩⟩
          rw [decV] at he
          exact ⟨_, rfl, b, _, 2, rfl, S5.box, by omega, by decide, by decide, fun H6 r6 hb6 fr6 _ _ => ⟨rfl, _, rfl, key5 _ _ ⟨S5.step fr6 hb6, fr6, fun _ => of_decide_eq_true he⟩⟩⟩
    · refine ⟨_, rfl, x, _, rfl, SS.gStream S4.hx, Nat.zero_le _, fun z hz => ?_⟩
      have S5 := S4.new (o := .lst []) hz
      refine eq_nil (LD.dp S5.hst) (fun d hd => by
        obtain ⟨t, ht, rfl⟩ := List.mem_map.mp hd
        have := to_lay (to_thing (S5.tok t ht).1)
        exact ⟨this.1, Nat.le_trans this.2 (by decide)⟩) upd_same ⟨_, rfl, ite2 (fun hc => ?_) fun hc => ?_⟩
      · exact ⟨_, rfl, b, _, 2, rfl, S5.box, by omega, by decide, by decide, fun H6 r6 hb6 fr6 q0 q1 => key3 _ _ ⟨r6, rfl, S5.step fr6 hb6, (f4.new hz).tr fr6, ((Fr.refl _ _).new hz).tr fr6, q0, by omega, fun _ => q1⟩⟩
      · refine key3 _ _ ⟨way, rfl, S5.le (by omega), f4.new hz, (Fr.refl _ _).new hz, w0, w1, fun e => ?_⟩
        rw [isEmpty_map, e] at hc
        exact absurd rfl hc
  · refine ⟨_, rfl, x, _, rfl, SS.gSpan S2.hx, rfl, _, rfl, ite2 (fun _ => ?_) fun _ => key1 _ _ ⟨v, rfl, S2.le (by omega), f2, hord⟩⟩
    refine ⟨_, rfl, by show 1 ≤ sizeLine; decide, fun q1 e1 => ⟨by show 2 ≤ sizeLine; decide, fun q2 e2 => ⟨by show 2 ≤ sizeLine; decide, fun q e => ?_⟩⟩⟩
    have S3 := ((S2.new (o := .lst [.int 1]) e1).new (o := .lst [.int 2, .int 1]) e2).new (o := .lst [.ref q1, .ref q2]) e
    have f3 : Fr (only b) H _ := ((f2.new (o := .lst [.int 1]) e1).new (o := .lst [.int 2, .int 1]) e2).new (o := .lst [.ref q1, .ref q2]) e
    obtain ⟨_, gst2, _⟩ := id S2.hst
    have fresh2 : ∀ {y : Addr}, H2 y = none → y ≠ b ∧ y ≠ s.st := fun {y} hy => ⟨S2.box.ne hy, (ne_of_none gst2 hy).symm⟩
    have m2 := upd_no e2
    have m3 := upd_no (upd_no e)
    refine ⟨b, q, _, _, rfl, S3.box, by omega, upd_same, by simp, by show 2 ≤ 1000; decide, (fresh2 m3).1, fun H4 v4 hb4 fr4 hv4 => key1 _ _ ⟨v4, rfl, (S3.step fr4 hb4).le (by omega), f3.tr fr4, ?_⟩⟩
    refine OrdAt.frb (H := _) ?_ fr4
    simp only [List.mem_cons, List.not_mem_nil, or_false] at hv4
    rcases hv4 with rfl | rfl
    · exact ⟨q1, [1], rfl, upd_keep (upd_keep upd_same e2) e, by simp, by decide, fresh2 e1⟩
    · exact ⟨q2, [2, 1], rfl, upd_keep upd_same e, by simp, by decide, fresh2 m2⟩
end

end L2.K13
set_option Elab.async false
set_option linter.all false
set_option maxRecDepth 100000
set_option maxHeartbeats 4000000
set_option pp.maxSteps 150
namespace L2.K13
open PySem PySem.Spec PyProof.Rows L2
open C8 (Cal Met Mak pe_c pe_mt pe_mt0 pe_mk)
local macro_rules | `(tactic| walk_at "hp") => `(tactic| first | assumption | exact upd_same | (refine upd_keep ?_ (by assumption); walk_at "hp") | (refine upd_off ?_ (by assumption) (by intro z; cases z); walk_at "hp"))
local macro_rules | `(tactic| walk_at "seq") => `(tactic| first | assumption | exact SqT.of (by walk_at "hp") | exact SqL.of (by walk_at "hp"))
section
def d5 (bits : Nat) (ml st : Addr) : List (Key × V) := [(.inr "span", .int ((2 ^ bits : Nat) : Int)), (.inr "marks", .ref ml), (.inr "stream", .ref st), (.inr "last", .int 0), (.inr "entry", .int 0)]
def e5 (lo : Addr) (layers : Int) (hush : Int) : List (Key × V) := [(.inr "lows", .ref lo), (.inr "anew", .bl true), (.inr "new", .bl true), (.inr "layers", .int layers), (.inr "hush", .int hush)]
theorem merge_d5 (bits : Nat) (ml st : Addr) : mergeK [] (d5 bits ml st) = d5 bits ml st := by kernel_rfl
theorem merge_e5 (lo : Addr) (layers : Int) (hush : Int) : mergeK [] (e5 lo layers hush) = e5 lo layers hush := by kernel_rfl
theorem merge_s (bits : Nat) (ml st lo : Addr) (layers : Nat) (hush : Int) : mergeK (d5 bits ml st) (e5 lo (layers : Nat) hush) = ssl ⟨bits, ml, st, 0, 0, lo, true, true, layers, hush, [], [], []⟩ := by kernel_rfl
theorem spans4 : ∀ n : Nat, n < 4 → ([V.int 4, .int 8, .int 16, .int 32] : List V)[n]? = some (.int ((2 ^ (n + 2) : Nat) : Int))
  | 0, _ => rfl
  | 1, _ => rfl
  | 2, _ => rfl
  | 3, _ => rfl
  | n + 4, h => absurd h (by omega)
end
section
variable {P : Program} {w : World} {K : PySem.W.Frag} {mg : Str → Option Value} {base : Heap}
def spSound (K : PySem.W.Frag) : Sp := fun vs H Q _ => ∃ (b : Addr) (n g : Nat) (hush : Int), vs = [.ref b, .int g, .int hush] ∧ Box H b n ∧ n + 20000 < 2 ^ 30 ∧ 1 ≤ g ∧ g ≤ 6 ∧
  ∀ H' r sv tv bits sizes ts, Box H' b (n + 20000) → Fr (only b) H H' → H' r = some (.tup [sv, tv]) → Dp K H' sv (encSetup bits sizes) → SetupOk bits sizes → Dp K H' tv (encStream ts) → ts.length ≤ 60 → (∀ t ∈ ts, ThingOk t) → HeadEn ts → Q (.ref r) H'
theorem ok_sound (T : Fx K mg) (F : DF K mg "_law_sound" s_sound ["_law_box_here", "_law_groups", "_law_hush"]) (c_take : Cal P w K mg base 2 "_law_take" (spTk K) []) (c_of : Cal P w K mg base 3 "_law_of" (spOf K) []) (c_group : Cal P w K mg base 5 "_law_group" (spGroup K) []) (c_parts : Cal P w K mg base 5 "_law_parts" (spPartsK K) []) (c_least : Cal P w K mg base 1 "_law_least" (spLeastK K) []) : Cal P w K mg base 6 "_law_sound" (spSound K) [] := by
  refine F.cal sc_sound (fun vs H Q E h => ?_) (fun f cdv A outer s0 H vs Q E hr h => ?_)
  · obtain ⟨_, _, _, _, rfl, _⟩ := h
    rfl
  obtain ⟨b, n, g, hush, rfl, hb, hn, g0, g1, k⟩ := h
  have nd := sc_sound.nd
  have hu := hu_of hr
  refine ⟨_, (pss_cons (ps_par (i := 3) (j := 4) rfl nd rfl rfl (by decide) rfl rfl (pa_cons (pe_op op_add pe_int (pe_c c_take hr (by first | decide | omega) (by rfl) (pa_cons (pv 0) (pa_cons pe_int pa_nil)))) (pa_cons (pe_op op_add pe_int (pe_c c_take hr (by first | decide | omega) (by rfl) (pa_cons (pv 0) (pa_cons pe_int pa_nil)))) pa_nil)) rfl)
  (pss_cons (ps_set (i := 5) nd rfl (Or.inl rfl) (pe_disp (pps_cons pe_str (pe_ix ix_list (pe_lst (pa_cons pe_int (pa_cons pe_int (pa_cons pe_int (pa_cons pe_int pa_nil))))) (pe_op op_sub (pv 4) pe_int) (fun _ _ => rfl)) (pps_cons pe_str (pe_lst pa_nil) (pps_cons pe_str (pe_lst pa_nil) (pps_cons pe_str pe_int (pps_cons pe_str pe_int pps_nil))))) rfl rfl (by simp) (by decide)))
  (pss_cons (ps_expr (pe_bm PySem.F.plainAttrs_dict PySem.F.slot_dict_update type_dict_update mt_dup (pv 5) (pa_cons (pe_disp (pps_cons pe_str (pe_lst pa_nil) (pps_cons pe_str pe_bl (pps_cons pe_str pe_bl (pps_cons pe_str (pv 3) (pps_cons pe_str (pv 2) pps_nil))))) rfl rfl (by simp) (by decide)) pa_nil)))
  (pss_cons (ps_for PassesOwn.never rfl (pi_range1 (by rfl) T.n_range (pa_cons (pv 1) pa_nil)) (pg_name (i := 6) nd rfl (by first | exact .inl rfl | exact .inr rfl)) (pss_one (ps_expr (pe_c c_group hr (by first | decide | omega) (by rfl) (pa_cons (pv 0) (pa_cons (pv 5) pa_nil))))))
  (pss_cons (ps_par3 (i := 7) (j := 8) (l := 9) rfl nd rfl rfl rfl (by decide) (by decide) (by decide) rfl rfl rfl (pa_cons (pe_callTy call_tuple_of (by rfl) T.n_tuple boot_tuple (pa_cons (pe_dget hu (pv 5) pe_str (fun _ _ => rfl)) pa_nil)) (pa_cons (pe_lst pa_nil) (pa_cons (pe_tup (pa_cons (pv 4) (pa_cons (pe_tup (pa_cons (pe_tup (pa_cons pe_int (pa_cons pe_int (pa_cons pe_non pa_nil)))) pa_nil)) pa_nil))) pa_nil))) rfl)
  (pss_cons (ps_for PassesOwn.never rfl (pi_range1 (by rfl) T.n_range (pa_cons (pv 3) pa_nil)) (pg_name (i := 10) nd rfl (by first | exact .inl rfl | exact .inr rfl)) (pss_cons (ps_asg (pe_c c_least hr (by first | decide | omega) (by rfl) (pa_cons (pe_c c_parts hr (by first | decide | omega) (by rfl) (pa_cons (pv 9) (pa_cons (pv 7) (pa_cons (pv 10) (pa_cons pe_int pa_nil))))) pa_nil)) (pg_tup rfl (pgs_cons (pg_name (i := 11) nd rfl (by first | exact .inl rfl | exact .inr rfl)) (pgs_cons (pg_name (i := 12) nd rfl (by first | exact .inl rfl | exact .inr rfl)) (pgs_cons (pg_name (i := 13) nd rfl (by first | exact .inl rfl | exact .inr rfl)) pgs_nil)))))
      (pss_cons (ps_set (i := 12) nd rfl (Or.inl rfl) (pe_op op_add (pv 12) (pe_c c_take hr (by first | decide | omega) (by rfl) (pa_cons (pv 0) (pa_cons pe_int pa_nil)))))
      (pss_cons (ps_set (i := 11) nd rfl (Or.inl rfl) (pe_op op_add (pe_callB (call_max2 rfl) (by rfl) T.n_max boot_max (pa_cons (pv 11) (pa_cons (pe_op op_add (pv 12) pe_int) pa_nil))) (pe_c c_of hr (by first | decide | omega) (by rfl) (pa_cons (pv 0) (pa_cons (pe_lst (pa_cons pe_int (pa_cons pe_int (pa_cons pe_int pa_nil)))) pa_nil)))))
      (pss_one (ps_expr (pe_bm PySem.F.plainAttrs_list PySem.F.slot_list_append PySem.F.type_list_append mt_append (pv 8) (pa_cons (pe_tup (pa_cons (pv 11) (pa_cons (pv 12) (pa_cons (pe_c c_of hr (by first | decide | omega) (by rfl) (pa_cons (pv 0) (pa_cons (pe_lst (pa_cons pe_non (pa_cons (pv 13) (pa_cons (pe_op op_add (pv 13) pe_int) pa_nil)))) pa_nil))) pa_nil)))) pa_nil))))))))
  (pss_one (ps_ret (pe_tup (pa_cons (pe_tup (pa_cons (pv 4) (pa_cons (pe_callTy call_tuple_of (by rfl) T.n_tuple boot_tuple (pa_cons (pv 8) pa_nil)) pa_nil))) (pa_cons (pv 7) pa_nil))))))))))), ?_⟩
  refine ⟨_, rfl, b, n, 3, rfl, hb, by omega, by decide, by decide, fun H1 r1 hb1 fr1 r10 r11 => ⟨_, _, rfl, rfl, _, rfl, b, _, 4, rfl, hb1, by omega, by decide, by decide, fun H2 r2 hb2 fr2 r20 r21 => ⟨_, _, rfl, rfl, _, _, rfl, ?_⟩⟩⟩
  have f2 : Fr (only b) H H2 := fr1.tr fr2
  obtain ⟨layers, el⟩ : ∃ m : Nat, 1 + r1 = (m : Int) := ⟨(1 + r1).toNat, by omega⟩
  obtain ⟨bits, eb⟩ : ∃ m : Nat, 2 + r2 = (m : Int) := ⟨(2 + r2).toNat, by omega⟩
  dsimp only
  refine fun x hx => ⟨by show 4 ≤ sizeLine; decide, fun p1 hp1 => ⟨_, rfl, _, _, rfl, rfl, p1, _, 2 + r2 - 2, .int ((2 ^ bits : Nat) : Int), rfl, rfl, SqL.of upd_same, ?_, Nat.zero_le _, fun M hM => ⟨Nat.zero_le _, fun st hst => ⟨upd_keep (upd_keep (upd_keep upd_same hp1) hM) hst, d5 bits M st, rfl, by show 5 ≤ 15; decide, ?_⟩⟩⟩⟩
  · have e := atI_natE (spans4 (bits - 2) (by omega))
    rw [show ((bits - 2 : Nat) : Int) = 2 + r2 - 2 by omega, show bits - 2 + 2 = bits by omega] at e
    exact e
  · rw [merge_d5]
    have hx0 : H2 x = none := hx
    have f3 : Fr (only b) H2 (upd (upd (upd (upd H2 x (.dK [])) p1 (.lst [.int 4, .int 8, .int 16, .int 32])) M (.lst [])) st (.lst [])) := ((((Fr.refl _ _).new hx).new hp1).new hM).new hst
    have b3 := (((hb2.new (o := .dK []) hx).new (o := .lst [.int 4, .int 8, .int 16, .int 32]) hp1).new (o := .lst []) hM).new (o := .lst []) hst
    have x3 : upd (upd (upd (upd H2 x (.dK [])) p1 (.lst [.int 4, .int 8, .int 16, .int 32])) M (.lst [])) st (.lst []) x = some (.dK []) := upd_keep (upd_keep (upd_keep upd_same hp1) hM) hst
    have m3 : upd (upd (upd (upd H2 x (.dK [])) p1 (.lst [.int 4, .int 8, .int 16, .int 32])) M (.lst [])) st (.lst []) M = some (.lst []) := upd_keep upd_same hst
    have s3 : upd (upd (upd (upd H2 x (.dK [])) p1 (.lst [.int 4, .int 8, .int 16, .int 32])) M (.lst [])) st (.lst []) st = some (.lst []) := upd_same
    have nM2 : H2 M = none := upd_no (upd_no hM)
    have nst2 : H2 st = none := upd_no (upd_no (upd_no hst))
    have nMst : M ≠ st := ne_of_none upd_same hst
    generalize upd (upd (upd (upd H2 x (.dK [])) p1 (.lst [.int 4, .int 8, .int 16, .int 32])) M (.lst [])) st (.lst []) = H3 at f3 b3 x3 m3 s3
    have f4 := f3.put (o := .dK (d5 bits M st)) x3 rfl (.inr hx0)
    have b4 := b3.put (o := .dK (d5 bits M st)) (hb2.ne hx0)
    have x4 : upd H3 x (.dK (d5 bits M st)) x = some (.dK (d5 bits M st)) := upd_same
    have m4 : upd H3 x (.dK (d5 bits M st)) M = some (.lst []) := (upd_ne (ne_of m3 x3 (by intro z; cases z))).trans m3
    have s4 : upd H3 x (.dK (d5 bits M st)) st = some (.lst []) := (upd_ne (ne_of s3 x3 (by intro z; cases z))).trans s3
    generalize upd H3 x (.dK (d5 bits M st)) = H4 at f4 b4 x4 m4 s4
    refine ⟨_, rfl, .inr (.inr (.inl ⟨rfl, .inl ⟨_, x4⟩⟩)), fun p hp => ⟨Nat.zero_le _, fun lo hlo => ⟨_, rfl, _, rfl, upd_keep upd_same hlo, e5 lo (1 + r1) hush, rfl, by show 5 ≤ 15; decide, ?_⟩⟩⟩
    rw [merge_e5]
    have f5 : Fr (only b) H4 (upd (upd H4 p (.dK [])) lo (.lst [])) := ((Fr.refl _ _).new hp).new hlo
    have f6 := f5.put (o := .dK (e5 lo (1 + r1) hush)) (upd_keep upd_same hlo) rfl (.inr hp)
    have nlo4 : H4 lo = none := upd_no hlo
    have npl : p ≠ lo := ne_of_none upd_same hlo
    have x6 : upd (upd (upd H4 p (.dK [])) lo (.lst [])) p (.dK (e5 lo (1 + r1) hush)) x = some (.dK (d5 bits M st)) := f6.out x4 (hb2.ne hx0)
    have l6 : upd (upd (upd H4 p (.dK [])) lo (.lst [])) p (.dK (e5 lo (1 + r1) hush)) lo = some (.lst []) := (upd_ne npl.symm).trans upd_same
    have p6 : upd (upd (upd H4 p (.dK [])) lo (.lst [])) p (.dK (e5 lo (1 + r1) hush)) p = some (.dK (e5 lo (1 + r1) hush)) := upd_same
    have nMb := hb2.ne nM2
    have nstb := hb2.ne nst2
    have m6 := f6.out m4 nMb
    have s6 := f6.out s4 nstb
    have b6 : Box (upd (upd (upd H4 p (.dK [])) lo (.lst [])) p (.dK (e5 lo (1 + r1) hush))) b (n + 1 + 1) := ((b4.new hp).new hlo).put (b4.ne hp)
    have nlob : lo ≠ b := b4.ne nlo4
    generalize upd (upd (upd H4 p (.dK [])) lo (.lst [])) p (.dK (e5 lo (1 + r1) hush)) = H6 at f6 x6 l6 p6 m6 s6 b6
    refine ⟨x, p, d5 bits M st, e5 lo (1 + r1) hush, rfl, rfl, x6, p6, ne_of_none x4 hp, by show 10 ≤ 1000; decide, ?_⟩
    rw [el, merge_s]
    have S7 : Sst K (upd H6 x (.dK (ssl ⟨bits, M, st, 0, 0, lo, true, true, layers, hush, [], [], []⟩))) b (n + 2) x ⟨bits, M, st, 0, 0, lo, true, true, layers, hush, [], [], []⟩ :=
      ⟨b6.put (hb2.ne hx0), upd_same, (upd_ne (ne_of m6 x6 (by intro z; cases z))).trans m6, fun v hv => absurd hv List.not_mem_nil, Nat.le_refl _, .nil ((upd_ne (ne_of s6 x6 (by intro z; cases z))).trans s6), fun t ht => absurd ht List.not_mem_nil, (upd_ne (ne_of l6 x6 (by intro z; cases z))).trans l6, nMb, nstb, nlob, nMst, (ne_of_none s4 nlo4).symm, by show 2 ≤ bits; omega, by show bits ≤ 5; omega, by show 1 ≤ layers; omega, by show layers ≤ 3; omega, Nat.zero_le _, Nat.le_refl _⟩
    have f7 : Fr (only b) H (upd H6 x (.dK (ssl ⟨bits, M, st, 0, 0, lo, true, true, layers, hush, [], [], []⟩))) := ((f2.tr f4).tr f6).put x6 rfl (.inr (f2.free hx0 (hb2.ne hx0)))
    have nx0 : H x = none := f2.free hx0 (hb2.ne hx0)
    have nst0 : H st = none := f2.free nst2 nstb
    generalize upd H6 x (.dK (ssl ⟨bits, M, st, 0, 0, lo, true, true, layers, hush, [], [], []⟩)) = H7 at S7 f7
    have eg : ((g : Int)).toNat = g := Int.toNat_natCast g
    refine ⟨_, rfl, (g : Int), rfl, by omega, by omega, ?_⟩
    rw [eg]
    refine for_range (n := g) (fun i σ H' => ∃ (v6 : Option V) (s : SS), σ = [some (.ref b), some (.int g), some (.int hush), some (.int (layers : Nat)), some (.int (2 + r2)), some (.ref x), v6, none, none, none, none, none, none, none] ∧ Sst K H' b (n + 2 + 2000 * i) x s ∧ Fr (only b) H H' ∧ ((i = 0 ∧ s.ts = []) ∨ HeadEn s.ts) ∧ s.ts.length ≤ 5 * i ∧ s.st = st ∧ s.bits = bits ∧ s.layers = layers)
      ⟨none, _, rfl, S7, f7, .inl ⟨rfl, rfl⟩, Nat.le_refl _, rfl, rfl, rfl⟩ ?_ ?_
    · rintro i σ H8 hi ⟨v6, s, rfl, S8, f8, hh, hl, e1, e2, e3⟩
      refine ⟨_, rfl, _, rfl, b, _, x, s, rfl, S8, by omega, hh.imp (fun z => z.2) id, by omega, fun H9 s9 S9 f9 hh9 hl9 q1 q2 q3 => ?_⟩
      refine ⟨_, s9, rfl, S9.le (by omega), f8.trans f9 fun y z => z.elim .inl fun z => .inr (z.elim (fun z => by rw [z]; exact nx0) fun z => by rw [z, e1]; exact nst0), .inr hh9, by omega, q1.trans e1, q2.trans e2, q3.trans e3⟩
    · rintro σ H8 ⟨v6, s, rfl, S8, f8, hh, hl, e1, e2, e3⟩
      have hH : HeadEn s.ts := hh.resolve_left fun z => by omega
      obtain ⟨rvs, w1, w2, w3⟩ := id S8.hst
      refine ⟨_, rfl, x, _, rfl, SS.gStream S8.hx, s.st, rvs, rfl, .inl ⟨SqL.of w1, fun tt htt => ⟨Nat.zero_le _, fun q hq => ⟨_, rfl, by show 3 ≤ sizeLine; decide, fun t1 h1 => ⟨by show 1 ≤ sizeLine; decide, fun t2 h2 => ⟨by show 2 ≤ sizeLine; decide, fun t3 h3 => ⟨_, _, _, rfl, ?_⟩⟩⟩⟩⟩⟩⟩
      have x8 : Same H8 (upd (upd (upd (upd (upd H8 tt (.tup rvs)) q (.lst [])) t1 (.tup [.int 1, .int 0, .non])) t2 (.tup [.ref t1])) t3 (.tup [.int (2 + r2), .ref t2])) := fun y o h => upd_keep (upd_keep (upd_keep (upd_keep (upd_keep h htt) hq) h1) h2) h3
      have a1 : upd (upd (upd (upd (upd H8 tt (.tup rvs)) q (.lst [])) t1 (.tup [.int 1, .int 0, .non])) t2 (.tup [.ref t1])) t3 (.tup [.int (2 + r2), .ref t2]) tt = some (.tup rvs) := upd_keep (upd_keep (upd_keep (upd_keep upd_same hq) h1) h2) h3
      have a2 : upd (upd (upd (upd (upd H8 tt (.tup rvs)) q (.lst [])) t1 (.tup [.int 1, .int 0, .non])) t2 (.tup [.ref t1])) t3 (.tup [.int (2 + r2), .ref t2]) q = some (.lst []) := upd_keep (upd_keep (upd_keep upd_same h1) h2) h3
      have a3 : upd (upd (upd (upd (upd H8 tt (.tup rvs)) q (.lst [])) t1 (.tup [.int 1, .int 0, .non])) t2 (.tup [.ref t1])) t3 (.tup [.int (2 + r2), .ref t2]) t1 = some (.tup [.int 1, .int 0, .non]) := upd_keep (upd_keep upd_same h2) h3
      have a4 : upd (upd (upd (upd (upd H8 tt (.tup rvs)) q (.lst [])) t1 (.tup [.int 1, .int 0, .non])) t2 (.tup [.ref t1])) t3 (.tup [.int (2 + r2), .ref t2]) t2 = some (.tup [.ref t1]) := upd_keep upd_same h3
      have a5 : upd (upd (upd (upd (upd H8 tt (.tup rvs)) q (.lst [])) t1 (.tup [.int 1, .int 0, .non])) t2 (.tup [.ref t1])) t3 (.tup [.int (2 + r2), .ref t2]) t3 = some (.tup [.int (2 + r2), .ref t2]) := upd_same
      have nq8 : H8 q = none := upd_no hq
      have nqb : q ≠ b := S8.box.ne nq8
      have nq0 : H q = none := f8.free nq8 nqb
      generalize upd (upd (upd (upd (upd H8 tt (.tup rvs)) q (.lst [])) t1 (.tup [.int 1, .int 0, .non])) t2 (.tup [.ref t1])) t3 (.tup [.int (2 + r2), .ref t2]) = H9 at x8 a1 a2 a3 a4 a5
      have dts : Dp K H9 (.ref tt) (encStream s.ts) := .tup (SqT.of a1) (dpAll_of ⟨w2.1, fun i x' y hx hy => Dp.ext (w3 y (List.mem_of_getElem? hy)) (w2.2 i x' y hx hy) (LamX.ExtN.of x8)⟩)
      have dbare : Dp K H9 (.ref t3) (encSetup bits [(1, 0, none)]) := by
        rw [eb] at a5
        exact .tup (SqT.of a5) (.cons (.int _) (.cons (.tup (SqT.of a4) (.cons (.tup (SqT.of a3) (.cons (.int _) (.cons (.int _) (.cons .non .nil)))) .nil)) .nil))
      have tts : TO 4 (encStream s.ts) := to_stream (Nat.le_trans S8.tl (by decide)) fun t ht => (S8.tok t ht).1
      have tba : TO 3 (encSetup bits [(1, 0, none)]) := to_setup (by decide)
      have b9 : Box H9 b (n + 2 + 2000 * g) := S8.box.fr (Same.fr x8 (fun _ => False)) id
      have f9 : Fr (only b) H H9 := f8.tr (Same.fr x8 _)
      dsimp only
      refine ⟨_, rfl, (layers : Int), rfl, by omega, by omega, ?_⟩
      rw [Int.toNat_natCast]
      refine for_range (n := layers) (fun i σ H' => ∃ (w6 v10 v11 v12 v13 : Option V) (sizes : Sizes), σ = [some (.ref b), some (.int g), some (.int hush), some (.int (layers : Nat)), some (.int (2 + r2)), some (.ref x), w6, some (.ref tt), some (.ref q), some (.ref t3), v10, v11, v12, v13] ∧ Box H' b (n + 12100 + 10 * i) ∧ Fr (two b q) H9 H' ∧ LD K 1 H' q (sizes.map encSize) ∧ sizes.length = i ∧ (∀ sz ∈ sizes, 1 ≤ sz.1 ∧ 0 ≤ sz.2.1))
        ⟨v6, none, none, none, none, [], rfl, b9.le (by omega), Fr.refl _ _, .nil a2, rfl, fun sz hs => absurd hs List.not_mem_nil⟩ ?_ ?_
      · rintro i σ H10 hi ⟨w6, v10, v11, v12, v13, sizes, rfl, b10, f10, ld10, hsl, hsz⟩
        refine ⟨_, rfl, _, rfl, _, rfl, .ref t3, .ref tt, bits, i, [(1, 0, none)], s.ts, by show [V.ref t3, V.ref tt, V.int (0 + (i : Int)), V.int 0] = _; rw [Int.zero_add], Dp.fr tba dbare f10, by omega, by omega, by omega, Dp.fr tts dts f10, fun t ht => ⟨(S8.tok t ht).1, by have := (S8.tok t ht).2; rw [e2] at this; exact this⟩, S8.tl, fun H11 q2 us x11 hq2 hl11 hpt hln => ?_⟩
        refine ⟨q2, us, rfl, ⟨hl11, hpt, hln⟩, fun H12 r sz mo wa x12 hr12 h1 h0 => ⟨r, _, rfl, SqT.of hr12, rfl, _, _, rfl, _, _, rfl, _, _, rfl, rfl, ?_⟩⟩
        have x1012 : Same H10 H12 := fun y o h => x12 y o (x11 y o h)
        have b12 : Box H12 b (n + 12100 + 10 * i) := b10.fr (Same.fr x1012 (fun _ => False)) id
        refine ⟨_, rfl, _, rfl, b, _, 2, rfl, b12, by omega, by decide, by decide, fun H13 r13 b13 fr13 r130 _ => ⟨_, _, rfl, rfl, ?_⟩⟩
        refine ⟨_, rfl, _, rfl, _, _, rfl, rfl, _, _, rfl, _, rfl, by show 3 ≤ sizeLine; decide, fun p hp => ?_⟩
        refine ⟨b, p, _, _, rfl, b13.new hp, by omega, upd_same, by simp, by show 3 ≤ 1000; decide, b13.ne hp, fun H14 v b14 fr14 hv => ?_⟩
        obtain ⟨w, rfl, hw⟩ : ∃ w : Int, v = .int w ∧ 0 ≤ w := by
          simp only [List.mem_cons, List.not_mem_nil, or_false] at hv
          rcases hv with rfl | rfl | rfl
          · exact ⟨0, rfl, by decide⟩
          · exact ⟨0, rfl, by decide⟩
          · exact ⟨1, rfl, by decide⟩
        have f1014 : Fr (only b) H10 H14 := (((Same.fr x1012 _).tr fr13).new hp).tr fr14
        have ld14 := ld10.fr f1014 nqb
        obtain ⟨rv14, u1, u2, u3⟩ := id ld14
        refine ⟨_, _, rfl, rfl, ?_⟩
        refine ⟨_, rfl, .inl ⟨rfl, _, SqL.of u1⟩, _, rfl, _, rfl, _, rfl, _, rfl, _, rfl, _, _, rfl, rfl, by show 3 ≤ sizeLine; decide, fun p2 hp2 => ?_⟩
        refine ⟨b, p2, _, _, rfl, b14.new hp2, by omega, upd_same, by simp, by show 3 ≤ 1000; decide, b14.ne hp2, fun H15 v b15 fr15 hv => ⟨by show 3 ≤ sizeLine; decide, fun t ht => ?_⟩⟩
        obtain ⟨ov, rfl⟩ : ∃ ov : Option Int, v = wv ov := by
          simp only [List.mem_cons, List.not_mem_nil, or_false] at hv
          rcases hv with rfl | rfl | rfl
          · exact ⟨none, rfl⟩
          · exact ⟨some _, rfl⟩
          · exact ⟨some _, rfl⟩
        have f1015 := (f1014.new (o := .lst [.non, .int wa, .int (wa + 1)]) hp2).tr fr15
        have ld15 := (ld10.fr f1015 nqb).ext (ext_new (o := .tup [.int ((if mo + r13 + 1 > sz then mo + r13 + 1 else sz) + w), .int (mo + r13), wv ov]) ht)
        obtain ⟨rv15, y1, y2, y3⟩ := id ld15
        have hd : Dp K (upd H15 t (.tup [.int ((if mo + r13 + 1 > sz then mo + r13 + 1 else sz) + w), .int (mo + r13), wv ov])) (.ref t) (encSize ((if mo + r13 + 1 > sz then mo + r13 + 1 else sz) + w, mo + r13, ov)) := .tup (SqT.of upd_same) (.cons (.int _) (.cons (.int _) (dp_os [ov])))
        refine ⟨q, _, _, rfl, rfl, y1, ?_, _, _, _, _, _, sizes ++ [((if mo + r13 + 1 > sz then mo + r13 + 1 else sz) + w, mo + r13, ov)], rfl, ?_, ((f10.tr (f1015.mono fun y z => .inl (.inl z))).new ht).put y1 rfl (.inl (.inr rfl)), ?_, by rw [List.length_append, hsl]; rfl, fun z hz => ?_⟩
        · rw [y2.1, List.length_map, hsl]
          exact Nat.lt_of_lt_of_le (show i < 4 by omega) (by decide)
        · exact ((b15.new ht).put nqb).le (by omega)
        · rw [List.map_append]
          exact LD.push y1 y2 y3 hd (to_size _)
        · rcases List.mem_append.mp hz with hz | hz
          · exact hsz z hz
          · rw [List.mem_singleton.mp hz]
            refine ⟨?_, by show 0 ≤ mo + r13; omega⟩
            show 1 ≤ (if mo + r13 + 1 > sz then mo + r13 + 1 else sz) + w
            split <;> omega
      · rintro σ H10 ⟨w6, v10, v11, v12, v13, sizes, rfl, b10, f10, ld10, hsl, hsz⟩
        obtain ⟨rv, u1, u2, u3⟩ := id ld10
        refine ⟨_, rfl, _, rfl, q, rv, rfl, .inl ⟨SqL.of u1, fun t ht => ⟨by show 2 ≤ sizeLine; decide, fun u hu' => ⟨_, rfl, by show 2 ≤ sizeLine; decide, fun r hr => ?_⟩⟩⟩⟩
        have f13 : Fr (two b q) H9 (upd (upd (upd H10 t (.tup rv)) u (.tup [.int (2 + r2), .ref t])) r (.tup [.ref u, .ref tt])) := ((f10.new ht).new hu').new hr
        have x13 : Same H10 (upd (upd (upd H10 t (.tup rv)) u (.tup [.int (2 + r2), .ref t])) r (.tup [.ref u, .ref tt])) := fun y o h => upd_keep (upd_keep (upd_keep h ht) hu') hr
        have z1 : upd (upd (upd H10 t (.tup rv)) u (.tup [.int (2 + r2), .ref t])) r (.tup [.ref u, .ref tt]) t = some (.tup rv) := upd_keep (upd_keep upd_same hu') hr
        have z2 : upd (upd (upd H10 t (.tup rv)) u (.tup [.int (2 + r2), .ref t])) r (.tup [.ref u, .ref tt]) u = some (.tup [.int (2 + r2), .ref t]) := upd_keep upd_same hr
        have bF := ((b10.new (o := .tup rv) ht).new (o := .tup [.int (2 + r2), .ref t]) hu').new (o := .tup [.ref u, .ref tt]) hr
        have zi : ∀ G : Hp, Dp K G (V.int (2 + r2)) (.int bits) := fun G => by rw [eb]; exact .int _
        refine k _ r (.ref u) (.ref tt) bits sizes s.ts (bF.le (by omega)) (f9.trans f13 fun y z => z.elim .inl fun z => .inr (by rw [z]; exact nq0)) upd_same (.tup (SqT.of z2) (.cons (zi _) (.cons (.tup (SqT.of z1) (dpAll_of ⟨u2.1, fun i x' y hx hy => Dp.ext (u3 y (List.mem_of_getElem? hy)) (u2.2 i x' y hx hy) (LamX.ExtN.of x13)⟩)) .nil))) ⟨by omega, by omega, by omega, by omega, hsz⟩ (Dp.fr tts dts f13) S8.tl (fun t ht => (S8.tok t ht).1) hH
end

end L2.K13
set_option Elab.async false
set_option linter.all false
set_option maxRecDepth 100000
set_option maxHeartbeats 4000000
set_option pp.maxSteps 150
namespace L2.K13
open PySem PySem.Spec PyProof.Rows L2
open C8 (Cal Met Mak pe_c pe_mt pe_mt0 pe_mk)
local macro_rules | `(tactic| walk_at "hp") => `(tactic| first | assumption | exact upd_same | (refine upd_keep ?_ (by assumption); walk_at "hp") | (refine upd_off ?_ (by assumption) (by intro z; cases z); walk_at "hp"))
local macro_rules | `(tactic| walk_at "seq") => `(tactic| first | assumption | exact SqT.of (by walk_at "hp") | exact SqL.of (by walk_at "hp"))
section
theorem lc_zipL {K : PySem.W.Frag} {a b : Addr} {xs ys : List V} {g : TG} {tt : TT} {te : TE} {vs : List Nat} {σ : L2.St} {H1 : Hp} {D : Addr} {Qd : Hp → Prop} (hl : xs.length = ys.length) (Pv : Nat → Hp → Prop) (h0 : Pv 0 (upd H1 D (.lst []))) (hq : ∀ i H, Pv i H → SqL K H a xs ∧ SqL K H b ys)
    (hs : ∀ (i : Nat) (x y : V) (T : Addr) (H : Hp), xs[i]? = some x → ys[i]? = some y → Pv i H → H T = none → g (.ref T) (wipe σ vs) (upd H T (.tup [x, y])) fun σ2 H2 => wipe σ2 vs = wipe σ vs ∧ tt σ2 H2 fun b H3 =>
      if b = true then te σ2 H3 fun y H4 => ∃ acc, H4 D = some (.lst acc) ∧ acc.length < sizeLine ∧ Pv (i + 1) (upd H4 D (.lst (acc ++ [y]))) else Pv (i + 1) H3) (hd : ∀ H, Pv xs.length H → Qd H) :
    ∃ W : Nat → Nat → Hp → Prop, (∃ m, W 0 m (upd H1 D (.lst []))) ∧ ∀ i m H, W i m H →
      ((Itz K a b).stop i H ∧ Qd H) ∨ ((Itz K a b).go i H ∧ ∃ Nx : Hp → Prop, (∀ H', Nx H' → ∃ m', m' < m ∧ W (i + 1) m' H') ∧ ∀ x H', (Itz K a b).yld i H x H' → g x (wipe σ vs) H' fun σ2 H2 => wipe σ2 vs = wipe σ vs ∧ tt σ2 H2 fun b H3 =>
        if b = true then te σ2 H3 fun y H4 => ∃ acc, H4 D = some (.lst acc) ∧ acc.length < sizeLine ∧ Nx (upd H4 D (.lst (acc ++ [y]))) else Nx H3) := by
  refine ⟨fun i m H => m = xs.length - i ∧ i ≤ xs.length ∧ Pv i H, ⟨xs.length, rfl, Nat.zero_le _, h0⟩, ?_⟩
  rintro i m H ⟨rfl, hi, p⟩
  obtain ⟨q1, q2⟩ := hq i H p
  by_cases hlt : i < xs.length
  · have hlt2 : i < ys.length := hl ▸ hlt
    refine .inr ⟨⟨xs, ys, xs[i], ys[i], q1, q2, List.getElem?_eq_getElem hlt, List.getElem?_eq_getElem hlt2⟩, Pv (i + 1), fun H' p' => ⟨xs.length - (i + 1), by omega, rfl, hlt, p'⟩, fun v H' y => ?_⟩
    obtain ⟨T, x, y, e1, e2, e3, e4, e5⟩ := y
    subst e1 e3
    exact hs i x y T H (e4 xs q1) (e5 ys q2) p e2
  · have e : i = xs.length := by omega
    subst e
    exact .inl ⟨⟨xs, ys, q1, q2, .inl (Nat.le_refl _)⟩, hd H p⟩
theorem lc_zipT {K : PySem.W.Frag} {a b : Addr} {xs ys : List V} {g : TG} {tt : TT} {te : TE} {vs : List Nat} {σ : L2.St} {H1 : Hp} {D : Addr} {Qd : Hp → Prop} (hl : xs.length = ys.length) (Pv : Nat → Hp → Prop) (h0 : Pv 0 (upd H1 D (.lst []))) (hq : ∀ i H, Pv i H → SqT K H a xs ∧ SqT K H b ys)
    (hs : ∀ (i : Nat) (x y : V) (T : Addr) (H : Hp), xs[i]? = some x → ys[i]? = some y → Pv i H → H T = none → g (.ref T) (wipe σ vs) (upd H T (.tup [x, y])) fun σ2 H2 => wipe σ2 vs = wipe σ vs ∧ tt σ2 H2 fun b H3 =>
      if b = true then te σ2 H3 fun y H4 => ∃ acc, H4 D = some (.lst acc) ∧ acc.length < sizeLine ∧ Pv (i + 1) (upd H4 D (.lst (acc ++ [y]))) else Pv (i + 1) H3) (hd : ∀ H, Pv xs.length H → Qd H) :
    ∃ W : Nat → Nat → Hp → Prop, (∃ m, W 0 m (upd H1 D (.lst []))) ∧ ∀ i m H, W i m H →
      ((RZ.ItzT K a b).stop i H ∧ Qd H) ∨ ((RZ.ItzT K a b).go i H ∧ ∃ Nx : Hp → Prop, (∀ H', Nx H' → ∃ m', m' < m ∧ W (i + 1) m' H') ∧ ∀ x H', (RZ.ItzT K a b).yld i H x H' → g x (wipe σ vs) H' fun σ2 H2 => wipe σ2 vs = wipe σ vs ∧ tt σ2 H2 fun b H3 =>
        if b = true then te σ2 H3 fun y H4 => ∃ acc, H4 D = some (.lst acc) ∧ acc.length < sizeLine ∧ Nx (upd H4 D (.lst (acc ++ [y]))) else Nx H3) := by
  refine ⟨fun i m H => m = xs.length - i ∧ i ≤ xs.length ∧ Pv i H, ⟨xs.length, rfl, Nat.zero_le _, h0⟩, ?_⟩
  rintro i m H ⟨rfl, hi, p⟩
  obtain ⟨q1, q2⟩ := hq i H p
  by_cases hlt : i < xs.length
  · have hlt2 : i < ys.length := hl ▸ hlt
    refine .inr ⟨⟨xs, ys, xs[i], ys[i], q1, q2, List.getElem?_eq_getElem hlt, List.getElem?_eq_getElem hlt2⟩, Pv (i + 1), fun H' p' => ⟨xs.length - (i + 1), by omega, rfl, hlt, p'⟩, fun v H' y => ?_⟩
    obtain ⟨T, x, y, e1, e2, e3, e4, e5⟩ := y
    subst e1 e3
    exact hs i x y T H (e4 xs q1) (e5 ys q2) p e2
  · have e : i = xs.length := by omega
    subst e
    exact .inl ⟨⟨xs, ys, q1, q2, .inl (Nat.le_refl _)⟩, hd H p⟩
end
section
/-- nones, ints, and lists and tuples of such, n deep -/
def SM : Nat → PyData → Prop
  | _, .none => True
  | _, .int _ => True
  | n + 1, .tuple xs => xs.length ≤ 1000 ∧ ∀ x ∈ xs, SM n x
  | n + 1, .list xs => xs.length ≤ 1000 ∧ ∀ x ∈ xs, SM n x
  | _, _ => False
theorem tyL {K : PySem.W.Frag} {H : Hp} {a : Addr} {xs : List V} (h : SqL K H a xs) : TyX K H (.ref a) (.type "list") := by
  rcases h with (h | ⟨o, h⟩) | ⟨o, its, n, e, c, _⟩
  · exact .base (.lst h)
  · exact .base (.frz h)
  · exact .kList e c
theorem SM.same {K : PySem.W.Frag} {H H' : Hp} (x : Same H H') : ∀ {n : Nat} {d : PyData} {v : V}, SM n d → Dp K H v d → Dp K H' v d
  | _, .none, _, _, h => by cases h; exact .non
  | _, .int _, _, _, h => by cases h; exact .int _
  | 0, .tuple _, _, m, _ => m.elim
  | 0, .list _, _, m, _ => m.elim
  | n + 1, .tuple ds, _, m, h => by
    cases h with
    | tup hs ha =>
      have a2 := dpAll_2 ha
      exact .tup (sqT_same hs x) (dpAll_of ⟨a2.1, fun i v d hv hd => SM.same x (m.2 d (List.mem_of_getElem? hd)) (a2.2 i v d hv hd)⟩)
  | n + 1, .list ds, _, m, h => by
    cases h with
    | lst hs ha =>
      have a2 := dpAll_2 ha
      exact .lst (sqL_same hs x) (dpAll_of ⟨a2.1, fun i v d hv hd => SM.same x (m.2 d (List.mem_of_getElem? hd)) (a2.2 i v d hv hd)⟩)
  | 0, .bool _, _, m, _ => m.elim
  | _ + 1, .bool _, _, m, _ => m.elim
  | 0, .str _, _, m, _ => m.elim
  | _ + 1, .str _, _, m, _ => m.elim
  | 0, .dict _, _, m, _ => m.elim
  | _ + 1, .dict _, _, m, _ => m.elim
end
section
variable {P : Program} {w : World} {K : PySem.W.Frag} {mg : Str → Option Value} {base : Heap}
def spSame (K : PySem.W.Frag) (n : Nat) : Sp := fun vs H Q _ => ∃ (v1 v2 : V) (d : PyData), vs = [v1, v2] ∧ Dp K H v1 d ∧ Dp K H v2 d ∧ SM n d ∧ ∀ H', Same H H' → Q (.bl true) H'
theorem kit_lst {K : PySem.W.Frag} : PySem.W.kitAny K (.type "list") [.type "list", .type "tuple"] = some true :=
  kitAny_cons (b := true) (kit_ty (by decide +kernel)) (fun h => by cases h) fun _ => rfl
theorem kit_bs {K : PySem.W.Frag} {t : String} (h1 : kitB t "bool" = some false) (h2 : kitB t "str" = some false) : PySem.W.kitAny K (.type t) [.type "bool", .type "str"] = some false :=
  kitAny_cons (b := false) (kit_ty h1) (fun _ => kitAny_cons (b := false) (kit_ty h2) (fun _ => rfl) fun h => by cases h) fun h => by cases h
theorem same_step {n k : Nat} {sp : Sp} (T : Fx K mg) (F : DF K mg "_law_same" s_same ["_law_found", "_law_due"]) (hsp : ∀ m, n = m + 1 → ∀ vs H Q E, spSame K m vs H Q E → sp vs H Q E) (c_same : Cal P w K mg base k "_law_same" sp []) : Cal P w K mg base (k + 1) "_law_same" (spSame K n) [] := by
  refine F.cal sc_same (fun vs H Q E h => ?_) (fun f cdv A outer s H vs Q E hr h => ?_)
  · obtain ⟨_, _, _, rfl, _⟩ := h
    rfl
  obtain ⟨v1, v2, d, rfl, hd1, hd2, hm, kq⟩ := h
  have nd := sc_same.nd
  refine ⟨_, (pss_cons (ps_if (pt_val (pe_callB call_isiT (by rfl) T.n_isinstance boot_isinstance (pa_cons (pv 1) (pa_cons (pe_tup (pa_cons (pe_bltn (v := .ty "list") (by rfl) T.n_list boot_list rfl) (pa_cons (pe_bltn (v := .ty "tuple") (by rfl) T.n_tuple boot_tuple rfl) pa_nil))) pa_nil)))) (pss_cons (ps_if (PW.pt (pw_or (pt_cmpR op_ne (pe_callB call_isi (by rfl) T.n_isinstance boot_isinstance (pa_cons (pv 0) (pa_cons (pe_bltn (v := .ty "list") (by rfl) T.n_list boot_list rfl) pa_nil))) (pe_callB call_isi (by rfl) T.n_isinstance boot_isinstance (pa_cons (pv 1) (pa_cons (pe_bltn (v := .ty "list") (by rfl) T.n_list boot_list rfl) pa_nil))) (nomark _)) (pw_or1 (pt_cmpR op_ne (pe_callB call_isi (by rfl) T.n_isinstance boot_isinstance (pa_cons (pv 0) (pa_cons (pe_bltn (v := .ty "tuple") (by rfl) T.n_tuple boot_tuple rfl) pa_nil))) (pe_callB call_isi (by rfl) T.n_isinstance boot_isinstance (pa_cons (pv 1) (pa_cons (pe_bltn (v := .ty "tuple") (by rfl) T.n_tuple boot_tuple rfl) pa_nil))) (nomark _))))) (pss_one (ps_ret pe_bl)) pss_nil)
      (pss_one (ps_ret (pe_and (pe_cmpR op_eq (pe_callB call_len_seq (by rfl) T.n_len PySem.boot_len (pa_cons (pv 0) pa_nil)) (pe_callB call_len_seq (by rfl) T.n_len PySem.boot_len (pa_cons (pv 1) pa_nil)) (nomark _)) (pe_one (pe_callB (cr_all rfl) (by rfl) T.n_all boot_all (pa_cons (pe_lc (own := [("_law_a", 2), ("_law_b", 3)]) (g := (gTup K 2 (gCons (gName 2) (gCons (gName 3) gNil)))) (tt := tYes) (te := (tCall _ _ E0 (tCons (tVar 2) (tCons (tVar 3) tNil)))) rfl nd (RZ.pi_zipA (by rfl) T.n_zip (pa_cons (pv 0) (pa_cons (pv 1) pa_nil))) (blkOk_by (N := ["_law_found", "_law_due", "_law_a", "_law_b"]) (sc := defScope s_same) (by decide +kernel)) (fun _ _ _ _ _ => (pg_tup rfl (pgs_cons (pg_name (i := 2) nd rfl (by first | exact .inl rfl | exact .inr rfl)) (pgs_cons (pg_name (i := 3) nd rfl (by first | exact .inl rfl | exact .inr rfl)) pgs_nil)))) (fun _ _ _ _ _ => pts_nil) (fun _ _ _ _ _ => (pe_c c_same hr (by first | decide | omega) (by rfl) (pa_cons (pv 2) (pa_cons (pv 3) pa_nil))))) pa_nil))))))) pss_nil)
  (pss_cons (ps_if (PW.pt (pw_or (pt_cmp (pc_isN (pv 1))) (pw_or1 (pt_val (pe_callB call_isiT (by rfl) T.n_isinstance boot_isinstance (pa_cons (pv 1) (pa_cons (pe_tup (pa_cons (pe_bltn (v := .ty "bool") (by rfl) T.n_bool boot_bool rfl) (pa_cons (pe_bltn (v := .ty "str") (by rfl) T.n_str boot_str rfl) pa_nil))) pa_nil))))))) (pss_one (ps_ret (pe_and (pe_cmpR op_eq (pv 0) (pv 1) (nomark _)) (pe_and (pe_cmpR op_eq (pe_callB call_isi (by rfl) T.n_isinstance boot_isinstance (pa_cons (pv 0) (pa_cons (pe_bltn (v := .ty "bool") (by rfl) T.n_bool boot_bool rfl) pa_nil))) (pe_callB call_isi (by rfl) T.n_isinstance boot_isinstance (pa_cons (pv 1) (pa_cons (pe_bltn (v := .ty "bool") (by rfl) T.n_bool boot_bool rfl) pa_nil))) (nomark _)) (pe_one (pe_cmpR op_eq (pe_cmp (pc_isN (pv 0))) (pe_cmp (pc_isN (pv 1))) (nomark _))))))) pss_nil)
  (pss_one (ps_ret (pe_and (pe_callB call_isi (by rfl) T.n_isinstance boot_isinstance (pa_cons (pv 0) (pa_cons (pe_bltn (v := .ty "int") (by rfl) T.n_int boot_int rfl) pa_nil))) (pe_and (pe_not (pe_callB call_isi (by rfl) T.n_isinstance boot_isinstance (pa_cons (pv 0) (pa_cons (pe_bltn (v := .ty "bool") (by rfl) T.n_bool boot_bool rfl) pa_nil)))) (pe_one (pe_cmpR op_eq (pv 0) (pv 1) (nomark _))))))))), ?_⟩
  refine ⟨_, rfl, by show 2 ≤ sizeLine; decide, fun q hq => ?_⟩
  have x1 : Same H (upd H q (.tup [.ty "list", .ty "tuple"])) := upd0 hq
  have hd1 := SM.same x1 hm hd1
  have hd2 := SM.same x1 hm hd2
  cases d with
  | none =>
    cases hd1
    cases hd2
    refine ⟨.non, q, _, _, _, false, rfl, upd_same, .cons (.ty _) (.cons (.ty _) .nil), .base .non, kit_no (by decide +kernel) (by decide +kernel), _, rfl, ifF rfl ?_⟩
    refine ⟨_, rfl, _, rfl, ifT rfl ?_⟩
    refine ⟨_, rfl, _, rfl, rfl, _, rfl, ifT rfl ?_⟩
    refine ⟨_, rfl, .non, .ty "bool", _, _, false, rfl, .ty _, .base .non, kit_ty (by decide +kernel), _, rfl, .non, .ty "bool", _, _, false, rfl, .ty _, .base .non, kit_ty (by decide +kernel), rfl, _, rfl, ifT rfl ?_⟩
    exact ⟨_, rfl, _, rfl, rfl, kq _ x1⟩
  | int i =>
    cases hd1
    cases hd2
    refine ⟨.int i, q, _, _, _, false, rfl, upd_same, .cons (.ty _) (.cons (.ty _) .nil), .base (.int i), kit_no (by decide +kernel) (by decide +kernel), _, rfl, ifF rfl ?_⟩
    refine ⟨_, rfl, _, rfl, ifF rfl ?_⟩
    refine ⟨_, rfl, by show 2 ≤ sizeLine; decide, fun q2 hq2 => ?_⟩
    refine ⟨.int i, q2, _, _, _, false, rfl, upd_same, .cons (.ty _) (.cons (.ty _) .nil), .base (.int i), kit_bs (by decide +kernel) (by decide +kernel), _, rfl, ifF rfl ?_⟩
    refine ⟨_, rfl, .int i, .ty "int", _, _, true, rfl, .ty _, .base (.int i), kit_ty (by decide +kernel), _, rfl, ifT rfl ?_⟩
    refine ⟨_, rfl, .int i, .ty "bool", _, _, false, rfl, .ty _, .base (.int i), kit_ty (by decide +kernel), _, rfl, _, rfl, ifT rfl ?_⟩
    refine ⟨_, rfl, _, rfl, rfl, ?_⟩
    rw [decide_eq_true rfl]
    exact kq _ fun y o h => upd_keep (x1 y o h) hq2
  | bool b => cases n <;> exact hm.elim
  | str z => cases n <;> exact hm.elim
  | dict xs => cases n <;> exact hm.elim
  | list ds =>
    cases n with
    | zero => exact hm.elim
    | succ m =>
      cases hd1 with
      | @lst a1 xs _ hs1 ha1 =>
        cases hd2 with
        | @lst a2 ys _ hs2 ha2 =>
          have b1 := dpAll_2 ha1
          have b2 := dpAll_2 ha2
          obtain ⟨hlen, hm⟩ := hm
          have hxy : xs.length = ys.length := b1.1.trans b2.1.symm
          refine ⟨.ref a2, q, _, _, _, true, rfl, upd_same, .cons (.ty _) (.cons (.ty _) .nil), tyL hs2, kit_lst, _, rfl, ifT rfl ?_⟩
          refine ⟨_, rfl, .ref a1, .ty "list", _, _, true, rfl, .ty _, tyL hs1, kit_ty (by decide +kernel), _, rfl, .ref a2, .ty "list", _, _, true, rfl, .ty _, tyL hs2, kit_ty (by decide +kernel), rfl, _, rfl, ifF rfl ?_⟩
          refine ⟨_, rfl, .ref a1, .ty "tuple", _, _, false, rfl, .ty _, tyL hs1, kit_ty (by decide +kernel), _, rfl, .ref a2, .ty "tuple", _, _, false, rfl, .ty _, tyL hs2, kit_ty (by decide +kernel), rfl, _, rfl, ifF rfl ?_⟩
          refine ⟨_, rfl, a1, _, rfl, .inl hs1, _, rfl, a2, _, rfl, .inl hs2, rfl, _, rfl, ?_⟩
          refine ifT (decide_eq_true (by rw [hxy])) ?_
          refine ⟨_, rfl, _, rfl, a1, a2, xs, ys, rfl, .inl ⟨hs1, hs2, fun D hD => ?_⟩⟩
          refine lc_zipL (K := K) (a := a1) (b := a2) (xs := xs) (ys := ys) hxy (fun i H' => H' D = some (.lst ((List.replicate i true).map V.bl)) ∧ Same (upd H q (.tup [.ty "list", .ty "tuple"])) H') ⟨upd_same, upd0 hD⟩ (fun i H' ⟨_, x'⟩ => ⟨sqL_same hs1 x', sqL_same hs2 x'⟩) (fun i x y Tp H' hx hy ⟨g1, x'⟩ hT => ?_) fun H' ⟨g1, x'⟩ => ?_
          · obtain ⟨d1, e1, c1⟩ := b1.get hx
            obtain ⟨d2, e2, c2⟩ := b2.get hy
            rw [e1] at e2
            cases e2
            have hmd := hm d1 (List.mem_of_getElem? e1)
            have xT : Same (upd H q (.tup [.ty "list", .ty "tuple"])) (upd H' Tp (.tup [x, y])) := fun z o h => upd_keep (x' z o h) hT
            refine ⟨Tp, _, rfl, SqT.of upd_same, rfl, _, _, rfl, _, _, rfl, rfl, rfl, _, rfl, _, rfl, hsp m rfl _ _ _ _ ⟨x, y, d1, rfl, SM.same xT hmd c1, SM.same xT hmd c2, hmd, fun H2 x2 => ?_⟩⟩
            have g2 := x2 _ _ (upd_keep g1 hT)
            refine ⟨_, g2, ?_, ?_, same_put (fun z o h => x2 z o (xT z o h)) hD⟩
            · rw [List.length_map, List.length_replicate]
              have := (List.getElem?_eq_some_iff.mp hx).1
              have := b1.1
              exact Nat.lt_of_lt_of_le (show i < 1000 by omega) (by decide)
            · rw [upd_same, List.replicate_succ', List.map_append]
              rfl
          · refine ⟨D, _, rfl, SqL.of g1, ?_⟩
            rw [show (List.replicate xs.length true).all id = true by simp]
            exact kq _ fun y o h => x' y o (x1 y o h)
  | tuple ds =>
    cases n with
    | zero => exact hm.elim
    | succ m =>
      cases hd1 with
      | @tup a1 xs _ hs1 ha1 =>
        cases hd2 with
        | @tup a2 ys _ hs2 ha2 =>
          have b1 := dpAll_2 ha1
          have b2 := dpAll_2 ha2
          obtain ⟨hlen, hm⟩ := hm
          have hxy : xs.length = ys.length := b1.1.trans b2.1.symm
          refine ⟨.ref a2, q, _, _, _, true, rfl, upd_same, .cons (.ty _) (.cons (.ty _) .nil), tyT hs2, kit_tup, _, rfl, ifT rfl ?_⟩
          refine ⟨_, rfl, .ref a1, .ty "list", _, _, false, rfl, .ty _, tyT hs1, kit_ty (by decide +kernel), _, rfl, .ref a2, .ty "list", _, _, false, rfl, .ty _, tyT hs2, kit_ty (by decide +kernel), rfl, _, rfl, ifF rfl ?_⟩
          refine ⟨_, rfl, .ref a1, .ty "tuple", _, _, true, rfl, .ty _, tyT hs1, kit_ty (by decide +kernel), _, rfl, .ref a2, .ty "tuple", _, _, true, rfl, .ty _, tyT hs2, kit_ty (by decide +kernel), rfl, _, rfl, ifF rfl ?_⟩
          refine ⟨_, rfl, a1, _, rfl, .inr hs1, _, rfl, a2, _, rfl, .inr hs2, rfl, _, rfl, ?_⟩
          refine ifT (decide_eq_true (by rw [hxy])) ?_
          refine ⟨_, rfl, _, rfl, a1, a2, xs, ys, rfl, .inr ⟨hs1, hs2, fun D hD => ?_⟩⟩
          refine lc_zipT (K := K) (a := a1) (b := a2) (xs := xs) (ys := ys) hxy (fun i H' => H' D = some (.lst ((List.replicate i true).map V.bl)) ∧ Same (upd H q (.tup [.ty "list", .ty "tuple"])) H') ⟨upd_same, upd0 hD⟩ (fun i H' ⟨_, x'⟩ => ⟨sqT_same hs1 x', sqT_same hs2 x'⟩) (fun i x y Tp H' hx hy ⟨g1, x'⟩ hT => ?_) fun H' ⟨g1, x'⟩ => ?_
          · obtain ⟨d1, e1, c1⟩ := b1.get hx
            obtain ⟨d2, e2, c2⟩ := b2.get hy
            rw [e1] at e2
            cases e2
            have hmd := hm d1 (List.mem_of_getElem? e1)
            have xT : Same (upd H q (.tup [.ty "list", .ty "tuple"])) (upd H' Tp (.tup [x, y])) := fun z o h => upd_keep (x' z o h) hT
            refine ⟨Tp, _, rfl, SqT.of upd_same, rfl, _, _, rfl, _, _, rfl, rfl, rfl, _, rfl, _, rfl, hsp m rfl _ _ _ _ ⟨x, y, d1, rfl, SM.same xT hmd c1, SM.same xT hmd c2, hmd, fun H2 x2 => ?_⟩⟩
            have g2 := x2 _ _ (upd_keep g1 hT)
            refine ⟨_, g2, ?_, ?_, same_put (fun z o h => x2 z o (xT z o h)) hD⟩
            · rw [List.length_map, List.length_replicate]
              have := (List.getElem?_eq_some_iff.mp hx).1
              have := b1.1
              exact Nat.lt_of_lt_of_le (show i < 1000 by omega) (by decide)
            · rw [upd_same, List.replicate_succ', List.map_append]
              rfl
          · refine ⟨D, _, rfl, SqL.of g1, ?_⟩
            rw [show (List.replicate xs.length true).all id = true by simp]
            exact kq _ fun y o h => x' y o (x1 y o h)
theorem ok_same (T : Fx K mg) (F : DF K mg "_law_same" s_same ["_law_found", "_law_due"]) : ∀ n : Nat, Cal P w K mg base (n + 2) "_law_same" (spSame K n) []
  | 0 => same_step T F (fun m e => by cases e) (Cal.none F sc_same)
  | n + 1 => same_step T F (fun m e vs H Q E h => by cases e; exact h) (ok_same T F n)
end

end L2.K13
set_option Elab.async false
set_option linter.all false
set_option maxRecDepth 100000
set_option maxHeartbeats 4000000
set_option pp.maxSteps 150
namespace L2.K13
open PySem PySem.Spec PyProof.Rows L2
open C8 (Cal Met Mak pe_c pe_mt pe_mt0 pe_mk)
local macro_rules | `(tactic| walk_at "hp") => `(tactic| first | assumption | exact upd_same | (refine upd_keep ?_ (by assumption); walk_at "hp") | (refine upd_off ?_ (by assumption) (by intro z; cases z); walk_at "hp"))
local macro_rules | `(tactic| walk_at "seq") => `(tactic| first | assumption | exact SqT.of (by walk_at "hp") | exact SqL.of (by walk_at "hp"))
section
/-- all but the box and the tables stay -/
def FrB (b : Addr) (H H' : Hp) : Prop := ∀ y o, H y = some o → y ≠ b → (∀ ps, o ≠ .tbl ps) → H' y = some o
theorem FrB.refl {b : Addr} (H : Hp) : FrB b H H := fun _ _ h _ _ => h
theorem FrB.trans {b : Addr} {H H1 H2 : Hp} (f : FrB b H H1) (g : FrB b H1 H2) : FrB b H H2 := fun y o h n t => g y o (f y o h n t) n t
theorem FrB.fr {b : Addr} {H H' : Hp} (f : Fr (only b) H H') : FrB b H H' := fun y o h n _ => f y o h (.inr n)
theorem FrB.extN {b : Addr} {H H' : Hp} (f : LamX.ExtN H H') : FrB b H H' := fun y o h _ t => f y o h t
theorem FrB.loc {b p : Addr} {H H1 H2 : Hp} (f : FrB b H H1) (g : Fr (only p) H1 H2) (n : H1 p = none) : FrB b H H2 := fun y o h nb t => by
  have h1 := f y o h nb t
  exact g y o h1 (.inr (ne_of_none h1 n))
theorem SqT.frB {K : PySem.W.Frag} {b : Addr} {n : Nat} {H H' : Hp} {a : Addr} {xs : List V} (hb : Box H b n) (f : FrB b H H') (h : SqT K H a xs) : SqT K H' a xs := by
  obtain ⟨a0, a1, a2, hb, _⟩ := hb
  rcases h with (h | ⟨o, h⟩) | h
  · exact .inl (.inl (f _ _ h (ne_of h hb (by intro z; cases z)) (by intro _ z; cases z)))
  · exact .inl (.inr ⟨o, f _ _ h (ne_of h hb (by intro z; cases z)) (by intro _ z; cases z)⟩)
  · exact .inr h
theorem Box.extN {b : Addr} {n : Nat} {H H' : Hp} (hb : Box H b n) (f : LamX.ExtN H H') : Box H' b n := by
  obtain ⟨a0, a1, a2, h, r⟩ := hb
  exact ⟨a0, a1, a2, f _ _ h (by intro _ z; cases z), r⟩
theorem TabS.fr {S : Addr → Prop} {H H' : Hp} {p : Addr} {q : Str} (t : LamX.TabS H p q) (f : Fr S H H') (n : ∀ ps, H p = some (.tbl ps) → ¬ S p) : LamX.TabS H' p q := by
  obtain ⟨ps, h1, h2, h3⟩ := t
  refine ⟨ps, f.out h1 (n ps h1), h2, fun pos cv hc => ?_⟩
  obtain ⟨c, e1, e2⟩ := h3 pos cv hc
  exact ⟨c, e1, f _ _ e2 (.inl rfl)⟩
theorem Tabs.frb {T : List (Addr × Str)} {H H' : Hp} {b : Addr} {n : Nat} (t : LamX.Tabs T H) (hb : Box H b n) (f : Fr (only b) H H') : LamX.Tabs T H' := fun p hp => TabS.fr (t p hp) f fun ps h z => by
  obtain ⟨a0, a1, a2, hb, _⟩ := hb
  rw [show p.1 = b from z, hb] at h
  cases h
theorem Tabs.frn {T : List (Addr × Str)} {H H' : Hp} {d : Addr} (t : LamX.Tabs T H) (n : H d = none) (f : Fr (only d) H H') : LamX.Tabs T H' := fun p hp => TabS.fr (t p hp) f fun ps h z => by
  rw [show p.1 = d from z, n] at h
  cases h
/-! ### what a run gives -/
theorem runAll_len {c : Cfg} {ts : List (Option Pic)} (hok : ∀ t ∈ ts, ThingOk t) : (runAll c ts).1.length ≤ ts.length ∧ (runAll c ts).2.length ≤ ts.length := by
  obtain ⟨h1, h2, h3⟩ := @runF_ok c ts st0 0 hok st0_ok
  refine ⟨h3, ?_⟩
  show (showF (runF c st0 0 ts).2.spots).1.length ≤ _
  have h4 : (showF (runF c st0 0 ts).2.spots).1.length ≤ (waiting (runF c st0 0 ts).2.spots).length := showAll_n
  have h6 := wl (runF c st0 0 ts).2.spots
  have h5 : st0.spots.length = 0 := rfl
  omega
theorem runAll_rows {c : Cfg} {ts : List (Option Pic)} (hok : ∀ t ∈ ts, ThingOk t) (hl : ts.length ≤ 300) : ∀ r ∈ (runAll c ts).1, RowOk r := runF_rows hok st0_ok (by
  show 0 + _ ≤ 300
  omega)
def encRun (r : List Rw × List Int) : PyData := .tuple [.list (r.1.map encRow), .list (r.2.map PyData.int)]
theorem sm_run {r : List Rw × List Int} (h1 : r.1.length ≤ 1000) (h2 : r.2.length ≤ 1000) (h3 : ∀ x ∈ r.1, RowOk x) : SM 4 (encRun r) := by
  refine ⟨by show 2 ≤ 1000; decide, fun x hx => ?_⟩
  simp only [List.mem_cons, List.not_mem_nil, or_false] at hx
  rcases hx with rfl | rfl
  · refine ⟨by rw [List.length_map]; exact h1, fun x hx => ?_⟩
    obtain ⟨r, hr, rfl⟩ := List.mem_map.mp hx
    obtain ⟨o1, o2⟩ := h3 r hr
    refine ⟨by show 4 ≤ 1000; decide, fun x hx => ?_⟩
    simp only [List.mem_cons, List.not_mem_nil, or_false] at hx
    rcases hx with rfl | rfl | rfl | rfl
    · trivial
    · trivial
    · refine ⟨by rw [List.length_map]; exact o1, fun x hx => ?_⟩
      obtain ⟨o, _, rfl⟩ := List.mem_map.mp hx
      cases o <;> trivial
    · refine ⟨by rw [List.length_map]; exact o2, fun x hx => ?_⟩
      obtain ⟨o, _, rfl⟩ := List.mem_map.mp hx
      trivial
  · refine ⟨by rw [List.length_map]; exact h2, fun x hx => ?_⟩
    obtain ⟨o, _, rfl⟩ := List.mem_map.mp hx
    trivial
/-- a run's answer in the heap -/
def RunR (K : PySem.W.Frag) (H : Hp) (r : Addr) (x : List Rw × List Int) : Prop := ∃ ra la rvs, H r = some (.tup [.ref ra, .ref la]) ∧ H ra = some (.lst rvs) ∧ DpAll K H rvs (x.1.map encRow) ∧ H la = some (.lst (x.2.map V.int))
theorem dpAll_to {K : PySem.W.Frag} {H H' : Hp} {n : Nat} {vs : List V} {ds : List PyData} (h : DpAll K H vs ds) (t : ∀ d ∈ ds, TO n d) (f : ∀ b xs, SqT K H b xs → SqT K H' b xs) : DpAll K H' vs ds := by
  have a := dpAll_2 h
  exact dpAll_of ⟨a.1, fun i x y hx hy => Dp.to f (t y (List.mem_of_getElem? hy)) (a.2 i x y hx hy)⟩
theorem to_rows {l : List Rw} (h : ∀ r ∈ l, RowOk r) : ∀ d ∈ l.map encRow, TO 2 d := fun d hd => by
  obtain ⟨r, hr, rfl⟩ := List.mem_map.mp hd
  exact to_row (h r hr)
theorem RunR.extN {K : PySem.W.Frag} {H H' : Hp} {r : Addr} {x : List Rw × List Int} (h : RunR K H r x) (hr : ∀ y ∈ x.1, RowOk y) (f : LamX.ExtN H H') : RunR K H' r x := by
  obtain ⟨ra, la, rvs, h1, h2, h3, h4⟩ := h
  exact ⟨ra, la, rvs, f _ _ h1 (by intro _ z; cases z), f _ _ h2 (by intro _ z; cases z), dpAll_to h3 (to_rows hr) fun _ _ h => SqT.extN h f, f _ _ h4 (by intro _ z; cases z)⟩
theorem RunR.dp {K : PySem.W.Frag} {H : Hp} {r : Addr} {x : List Rw × List Int} (h : RunR K H r x) : Dp K H (.ref r) (encRun x) := by
  obtain ⟨ra, la, rvs, h1, h2, h3, h4⟩ := h
  exact .tup (SqT.of h1) (.cons (.lst (SqL.of h2) h3) (.cons (.lst (SqL.of h4) (dp_ints _)) .nil))
/-! ### what is due -/
def dueRow (k : Int) (pre : List Int) (r : Rw) : Rw := (r.1 + k, r.2.1, r.2.2.1.map (·.map (· + k)), pre ++ r.2.2.2.map (· + k))
theorem shR_due (k : Int) (r : Rw) : shR k r = dueRow k [] r := rfl
theorem dueR_len (k : Int) (pre : List Int) (rs : List Rw) : (dueR k pre rs).length = rs.length := by
  cases rs with
  | nil => rfl
  | cons r rs =>
    show (_ :: rs.map (shR k)).length = _
    rw [List.length_cons, List.length_map, List.length_cons]
theorem dueR_get {k : Int} {pre : List Int} {rs : List Rw} {i : Nat} {r : Rw} (h : rs[i]? = some r) : (dueR k pre rs)[i]? = some (dueRow k (if i = 0 then pre else []) r) := by
  cases rs with
  | nil => cases h
  | cons r0 rs =>
    cases i with
    | zero =>
      cases h
      rfl
    | succ i =>
      show (rs.map (shR k))[i]? = _
      rw [List.getElem?_map, show rs[i]? = some r from h]
      rfl
theorem dueR_take {k : Int} {pre : List Int} {rs : List Rw} {i : Nat} {r : Rw} (h : rs[i]? = some r) : (dueR k pre rs).take (i + 1) = (dueR k pre rs).take i ++ [dueRow k (if i = 0 then pre else []) r] := by
  rw [List.take_add_one, dueR_get h]
  rfl
/-! ### all but the last -/
theorem at1 {α : Type} {x y : α} {xs : List α} : atI (x :: y :: xs) 1 = some y := atI_natE (n := 1) rfl
theorem snoc_of {α : Type} {l : List α} (h : l ≠ []) : ∃ l0 x, l = l0 ++ [x] := ⟨l.dropLast, l.getLast h, (List.dropLast_concat_getLast h).symm⟩
theorem all2_last {α β : Type} {R : α → β → Prop} {xs : List α} {ds : List β} {d : β} (h : All2 R xs (ds ++ [d])) : ∃ xs0 x, xs = xs0 ++ [x] ∧ R x d ∧ All2 R xs0 ds := by
  have hl := h.1
  rw [List.length_append] at hl
  obtain ⟨xs0, x, rfl⟩ := snoc_of (l := xs) (by
    intro z
    rw [z] at hl
    simp at hl)
  have e : xs0.length = ds.length := by
    rw [List.length_append] at hl
    simpa using hl
  refine ⟨xs0, x, rfl, h.2 xs0.length x d (by simp) (by rw [e]; simp), e, fun i y z hy hz => h.2 i y z ?_ ?_⟩
  · rw [List.getElem?_append_left (List.getElem?_eq_some_iff.mp hy).1]
    exact hy
  · rw [List.getElem?_append_left (List.getElem?_eq_some_iff.mp hz).1]
    exact hz
theorem head_init {ts : List (Option Pic)} (h : HeadEn (ts ++ [none])) : HeadEn ts := by
  obtain ⟨p, r, e, he⟩ := h
  cases ts with
  | nil => cases e
  | cons t ts =>
    cases e
    exact ⟨p, ts, rfl, he⟩
theorem cut_last (xs : List V) : cutV xs none (some (-1)) = xs.dropLast := by
  unfold cutV
  rw [List.dropLast_eq_take]
  show (xs.drop 0).take ((if (-1 : Int) < 0 then ((-1 : Int) + (xs.length : Int)).toNat else min (-1 : Int).toNat xs.length) - 0) = _
  rw [if_pos (by decide), List.drop_zero]
  congr 1
  omega
end
section
variable {P : Program} {w : World} {K : PySem.W.Frag} {mg : Str → Option Value} {base : Heap}
theorem dp_cat {H : Hp} {p : Addr} {xs ys : List V} {ds es : List PyData} (h : H p = some (.tup (xs ++ ys))) (h1 : All2 (Dp K H) xs ds) (h2 : All2 (Dp K H) ys es) : Dp K H (.ref p) (.tuple (ds ++ es)) := .tup (SqT.of h) (dpAll_of (All2.append h1 h2))
theorem all2_to {H H' : Hp} {n : Nat} {xs : List V} {ds : List PyData} (h : All2 (Dp K H) xs ds) (t : ∀ d ∈ ds, TO n d) (f : ∀ b xs, SqT K H b xs → SqT K H' b xs) : All2 (Dp K H') xs ds := ⟨h.1, fun i x y hx hy => Dp.to f (t y (List.mem_of_getElem? hy)) (h.2 i x y hx hy)⟩
theorem to_things {ts : List (Option Pic)} (h : ∀ t ∈ ts, ThingOk t) : ∀ d ∈ ts.map encThing, TO 3 d := fun d hd => by
  obtain ⟨r, hr, rfl⟩ := List.mem_map.mp hd
  exact to_thing (h r hr)
theorem os_of {H : Hp} {us : List V} {l : List (Option Int)} (h : DpAll K H us (l.map encO)) : us = l.map wv := by
  induction l generalizing us with
  | nil =>
    cases h
    rfl
  | cons a r ih =>
    cases (show DpAll K H us (encO a :: r.map encO) from h) with
    | cons h1 h2 =>
      rw [ih h2]
      cases a with
      | none =>
        cases h1
        rfl
      | some i =>
        cases h1
        rfl
theorem is_of {H : Hp} {us : List V} {l : List Int} (h : DpAll K H us (l.map PyData.int)) : us = l.map V.int := by
  induction l generalizing us with
  | nil =>
    cases h
    rfl
  | cons a r ih =>
    cases (show DpAll K H us (.int a :: r.map PyData.int) from h) with
    | cons h1 h2 =>
      rw [ih h2]
      cases h1
      rfl
/-- a row in the heap -/
theorem dp_row {H : Hp} {v : V} {r : Rw} (h : Dp K H v (encRow r)) : ∃ t rf tl, v = .ref t ∧ SqT K H t [.int r.1, .int r.2.1, .ref rf, .ref tl] ∧ SqT K H rf (r.2.2.1.map wv) ∧ SqT K H tl (r.2.2.2.map V.int) := by
  obtain ⟨t, ys, rfl, h1, h2⟩ := dp_tup h
  obtain ⟨y0, ys1, rfl, g0, h3⟩ := all2_cons h2
  obtain ⟨y1, ys2, rfl, g1, h4⟩ := all2_cons h3
  obtain ⟨y2, ys3, rfl, g2, h5⟩ := all2_cons h4
  obtain ⟨y3, ys, rfl, g3, h6⟩ := all2_cons h5
  obtain ⟨rf, us, rfl, u1, u2⟩ := dp_tup g2
  obtain ⟨tl, ws, rfl, w1, w2⟩ := dp_tup g3
  have e : ys = [] := List.eq_nil_of_length_eq_zero h6.1
  subst e
  cases g0
  cases g1
  rw [os_of (dpAll_of u2)] at u1
  rw [is_of (dpAll_of w2)] at w1
  exact ⟨t, rf, tl, rfl, h1, u1, w1⟩
theorem row_dp {H : Hp} {t rf tl : Addr} {r : Rw} (h : SqT K H t [.int r.1, .int r.2.1, .ref rf, .ref tl]) (h1 : SqT K H rf (r.2.2.1.map wv)) (h2 : SqT K H tl (r.2.2.2.map V.int)) : Dp K H (.ref t) (encRow r) :=
  .tup h (.cons (.int _) (.cons (.int _) (.cons (.tup h1 (dp_os _)) (.cons (.tup h2 (dp_ints _)) .nil))))
def spRight (K : PySem.W.Frag) (T0 : List (Addr × Str)) (lo : Addr) : Sp := fun vs H Q _ => ∃ (b : Addr) (n : Nat), vs = [.ref b] ∧ Box H b n ∧ n + 100000 < 2 ^ 30 ∧ LamX.Tabs T0 H ∧ SqT K H lo [] ∧
  ∀ H', Box H' b (n + 100000) → LamX.Tabs T0 H' → FrB b H H' → Q (.bl true) H'
theorem ok_right {T0 : List (Addr × Str)} {lo : Addr} (T : Fx K mg) (F : DF K mg "_law_right" s_right ["_law_box_here"]) (c_take : Cal P w K mg base 2 "_law_take" (spTk K) []) (c_sound : Cal P w K mg base 6 "_law_sound" (spSound K) []) (c_some_setup : Cal P w K mg base 4 "_law_some_setup" (spSetup K) [])
    (c_second : Cal P w K mg base 6 "_law_second" (spSecond K) []) (c_run : Cal P w K mg base 8 "run" (spRun K T0) [.int 0, .ref lo]) (c_same : Cal P w K mg base 6 "_law_same" (spSame K 4) []) : Cal P w K mg base 9 "_law_right" (spRight K T0 lo) [] := by
  refine F.cal sc_right (fun vs H Q E h => ?_) (fun f cdv A outer s H vs Q E hr h => ?_)
  · obtain ⟨_, _, rfl, _⟩ := h
    rfl
  obtain ⟨b, n, rfl, hb, hn, hT, hlo, k⟩ := h
  have nd := sc_right.nd
  have hu64 := hu64_of hr
  refine ⟨_, (pss_cons (ps_asg (pe_c c_sound hr (by first | decide | omega) (by rfl) (pa_cons (pv 0) (pa_cons (pe_op op_add pe_int (pe_c c_take hr (by first | decide | omega) (by rfl) (pa_cons (pv 0) (pa_cons pe_int pa_nil)))) (pa_cons pe_int pa_nil)))) (pg_tup rfl (pgs_cons (pg_name (i := 1) nd rfl (by first | exact .inl rfl | exact .inr rfl)) (pgs_cons (pg_name (i := 2) nd rfl (by first | exact .inl rfl | exact .inr rfl)) pgs_nil))))
  (pss_cons (ps_if (pt_cmpR op_eq (pe_c c_take hr (by first | decide | omega) (by rfl) (pa_cons (pv 0) (pa_cons pe_int pa_nil))) pe_int (nomark _)) (pss_cons (ps_set (i := 1) nd rfl (Or.inl rfl) (pe_c c_some_setup hr (by first | decide | omega) (by rfl) (pa_cons (pv 0) pa_nil)))
      (pss_one (ps_set (i := 2) nd rfl (Or.inl rfl) (pe_c c_second hr (by first | decide | omega) (by rfl) (pa_cons (pv 0) (pa_cons (pv 1) pa_nil)))))) pss_nil)
  (pss_cons (ps_if (pt_cmpR (op_eqD hu64) (pe_ix ix_tup (pv 2) (pe_un un_neg pe_int) (fun _ _ => rfl)) (pe_tup (pa_cons pe_str pa_nil)) (nomark _)) (pss_one (ps_set (i := 2) nd rfl (Or.inl rfl) (pe_slice sl_tupA (pv 2) po_none (po_some (pe_un un_neg pe_int))))) pss_nil)
  (pss_cons (ps_par (i := 3) (j := 4) rfl nd rfl rfl (by decide) rfl rfl (pa_cons (pe_c c_second hr (by first | decide | omega) (by rfl) (pa_cons (pv 0) (pa_cons (pv 1) pa_nil))) (pa_cons (pe_c c_take hr (by first | decide | omega) (by rfl) (pa_cons (pv 0) (pa_cons (pe_callB call_len_seq (by rfl) T.n_len PySem.boot_len (pa_cons (pe_ix ix_tup (pv 1) pe_int (fun _ _ => rfl)) pa_nil)) pa_nil))) pa_nil)) rfl)
  (pss_cons (ps_set (i := 5) nd rfl (Or.inl rfl) (pe_op op_catA (pv 2) (pv 3)))
  (pss_cons (ps_if (PW.pt (pw_or (pt_cmpR op_eq (pe_ix ix_tup (pe_ix ix_tup (pv 3) pe_int (fun _ _ => rfl)) pe_int (fun _ _ => rfl)) pe_str (nomark _)) (pw_or1 (pt_cmpR op_eq (pe_c c_take hr (by first | decide | omega) (by rfl) (pa_cons (pv 0) (pa_cons pe_int pa_nil))) pe_int (nomark _))))) (pss_one (ps_set (i := 5) nd rfl (Or.inl rfl) (pe_op op_catA (pe_op op_catA (pv 2) (pe_tup (pa_cons (pe_tup (pa_cons pe_str pa_nil)) pa_nil))) (pv 3)))) pss_nil)
  (pss_cons (ps_set (i := 6) nd rfl (Or.inr rfl) (pe_op op_sub (pe_callB call_len_seq (by rfl) T.n_len PySem.boot_len (pa_cons (pv 5) pa_nil)) (pe_callB call_len_seq (by rfl) T.n_len PySem.boot_len (pa_cons (pv 3) pa_nil))))
  (pss_cons (ps_asg (pe_c c_run hr (by first | decide | omega) (by rfl) (pa_cons (pv 1) (pa_cons (pv 2) (pa_cons (pv 4) pa_nil)))) (pg_tup rfl (pgs_cons (pg_name (i := 7) nd rfl (by first | exact .inl rfl | exact .inr rfl)) (pgs_cons (pg_name (i := 8) nd rfl (by first | exact .inl rfl | exact .inr rfl)) pgs_nil))))
  (pss_cons (ps_asg (pe_c c_run hr (by first | decide | omega) (by rfl) (pa_cons (pv 1) (pa_cons (pv 3) (pa_cons (pv 4) pa_nil)))) (pg_tup rfl (pgs_cons (pg_name (i := 9) nd rfl (by first | exact .inl rfl | exact .inr rfl)) (pgs_cons (pg_name (i := 10) nd rfl (by first | exact .inl rfl | exact .inr rfl)) pgs_nil))))
  (pss_cons (ps_set (i := 11) nd rfl (Or.inl rfl) (pe_callTy call_list_of (by rfl) T.n_list boot_list (pa_cons (pv 7) pa_nil)))
  (pss_cons (ps_for PassesOwn.never rfl (pi_enum (by rfl) T.n_enumerate (pa_cons (pv 9) pa_nil)) (pg_tup rfl (pgs_cons (pg_name (i := 12) nd rfl (by first | exact .inl rfl | exact .inr rfl)) (pgs_cons (pg_tup rfl (pgs_cons (pg_name (i := 13) nd rfl (by first | exact .inl rfl | exact .inr rfl)) (pgs_cons (pg_name (i := 14) nd rfl (by first | exact .inl rfl | exact .inr rfl)) (pgs_cons (pg_name (i := 15) nd rfl (by first | exact .inl rfl | exact .inr rfl)) (pgs_cons (pg_name (i := 16) nd rfl (by first | exact .inl rfl | exact .inr rfl)) pgs_nil))))) pgs_nil))) (pss_cons (ps_set (i := 15) nd rfl (Or.inl rfl) (pe_callTy call_tuple_of (by rfl) T.n_tuple boot_tuple (pa_cons (pe_lc (own := [("_law_ref_so", 17)]) (g := (gName 17)) (tt := tYes) (te := (tIf (tB (tIsN (tVar 17))) (tC .non) (tOp _ (tVar 17) (tVar 6)))) rfl nd (pi_tup (pv 15)) (blkOk_by (N := ["_law_box_here", "_law_setup_so", "_law_first_here", "_law_second_here", "_law_top_so", "_law_both", "_law_far", "_law_rows_so", "_law_last_so", "_law_later", "_law_end_so", "_law_due", "_law_at", "_law_place_so", "_law_count_so", "_law_refs_so", "_law_told_so", "_law_ref_so", "_law_own"]) (sc := defScope s_right) (by decide +kernel)) (fun _ _ _ _ _ => (pg_name (i := 17) nd rfl (by first | exact .inl rfl | exact .inr rfl))) (fun _ _ _ _ _ => pts_nil) (fun _ _ _ _ _ => (pe_ifExp (pt_cmp (pc_isN (pv 17))) pe_non (pe_op op_add (pv 17) (pv 6))))) pa_nil)))
      (pss_cons (ps_set (i := 16) nd rfl (Or.inl rfl) (pe_callTy call_tuple_of (by rfl) T.n_tuple boot_tuple (pa_cons (pe_lc (own := [("_law_own", 18)]) (g := (gName 18)) (tt := tYes) (te := (tOp _ (tVar 18) (tVar 6))) rfl nd (pi_tup (pv 16)) (blkOk_by (N := ["_law_box_here", "_law_setup_so", "_law_first_here", "_law_second_here", "_law_top_so", "_law_both", "_law_far", "_law_rows_so", "_law_last_so", "_law_later", "_law_end_so", "_law_due", "_law_at", "_law_place_so", "_law_count_so", "_law_refs_so", "_law_told_so", "_law_ref_so", "_law_own"]) (sc := defScope s_right) (by decide +kernel)) (fun _ _ _ _ _ => (pg_name (i := 18) nd rfl (by first | exact .inl rfl | exact .inr rfl))) (fun _ _ _ _ _ => pts_nil) (fun _ _ _ _ _ => (pe_op op_add (pv 18) (pv 6)))) pa_nil)))
      (pss_cons (ps_if (PW.pt (pw_and (pt_cmpR op_eq (pv 12) pe_int (nomark _)) (pw_and1 (pt_not (pt_val (pe_ix ix_tup (pe_ix ix_tup (pv 3) pe_int (fun _ _ => rfl)) pe_int (fun _ _ => rfl))))))) (pss_one (ps_set (i := 16) nd rfl (Or.inl rfl) (pe_op op_catA (pe_callTy call_tuple_of (by rfl) T.n_tuple boot_tuple (pa_cons (pv 8) pa_nil)) (pv 16)))) pss_nil)
      (pss_one (ps_expr (pe_bm PySem.F.plainAttrs_list PySem.F.slot_list_append PySem.F.type_list_append mt_append (pv 11) (pa_cons (pe_tup (pa_cons (pe_op op_add (pv 13) (pv 6)) (pa_cons (pv 14) (pa_cons (pv 15) (pa_cons (pv 16) pa_nil))))) pa_nil))))))))
  (pss_one (ps_ret (pe_c c_same hr (by first | decide | omega) (by rfl) (pa_cons (pe_c c_run hr (by first | decide | omega) (by rfl) (pa_cons (pv 1) (pa_cons (pv 5) (pa_cons (pv 4) pa_nil)))) (pa_cons (pe_tup (pa_cons (pv 11) (pa_cons (pe_lc (own := [("_law_own", 18)]) (g := (gName 18)) (tt := tYes) (te := (tOp _ (tVar 18) (tVar 6))) rfl nd (pi_list (pv 10)) (blkOk_by (N := ["_law_box_here", "_law_setup_so", "_law_first_here", "_law_second_here", "_law_top_so", "_law_both", "_law_far", "_law_rows_so", "_law_last_so", "_law_later", "_law_end_so", "_law_due", "_law_at", "_law_place_so", "_law_count_so", "_law_refs_so", "_law_told_so", "_law_ref_so", "_law_own"]) (sc := defScope s_right) (by decide +kernel)) (fun _ _ _ _ _ => (pg_name (i := 18) nd rfl (by first | exact .inl rfl | exact .inr rfl))) (fun _ _ _ _ _ => pts_nil) (fun _ _ _ _ _ => (pe_op op_add (pv 18) (pv 6)))) pa_nil))) pa_nil)))))))))))))))), ?_⟩
  refine ⟨_, rfl, _, rfl, b, n, 6, rfl, hb, by omega, by decide, by decide, fun H1 r1 hb1 fr1 r10 r11 => ⟨_, _, rfl, rfl, b, n + 1, 1 + r1.toNat, 3, ?_, hb1, by omega, by omega, by omega, fun H2 r sv tv bits sizes ts hb2 fr2 hr2 hsv ok htv hl hok hhd => ⟨r, _, rfl, SqT.of hr2, rfl, _, _, rfl, _, _, rfl, rfl, ?_⟩⟩⟩
  · show [V.ref b, V.int (1 + r1), V.int 3] = _
    rw [show ((1 + r1.toNat : Nat) : Int) = 1 + r1 by omega]
  have f2 : Fr (only b) H H2 := fr1.tr fr2
  dsimp only
  refine seq_cut (fun σ' H' => ∃ (sv tv : V) (bits : Nat) (sizes : Sizes) (ts : List (Option Pic)), σ' = [some (.ref b), some sv, some tv, none, none, none, none, none, none, none, none, none, none, none, none, none, none, none, none] ∧ Box H' b (n + 50000) ∧ Fr (only b) H H' ∧ Dp K H' sv (encSetup bits sizes) ∧ SetupOk bits sizes ∧ Dp K H' tv (encStream ts) ∧ ts.length ≤ 60 ∧ (∀ t ∈ ts, ThingOk t) ∧ HeadEn ts) ?_ fun key1 => ?_
  · clear hsv htv hr2 hhd hok hl ok hb2 fr2 f2
    rintro σ' H3 ⟨sv, tv, bits, sizes, ts, rfl, hb3, f3, hsv, ok, htv, hl, hok, hhd⟩
    obtain ⟨ts0, t, rfl⟩ := snoc_of (l := ts) (by
      obtain ⟨_, _, e, _⟩ := hhd
      rw [e]
      intro z
      cases z)
    obtain ⟨a, xs, rfl, q1, q2⟩ := dp_tup htv
    rw [List.map_append] at q2
    obtain ⟨xs0, x, rfl, hx, q3⟩ := all2_last q2
    have tS := to_setup (bits := bits) (Nat.le_trans ok.l1 (by decide))
    have hokt : ThingOk t := hok t (by simp)
    refine seq_cut (fun σ' H' => ∃ (tv : V) (ts : List (Option Pic)), σ' = [some (.ref b), some sv, some tv, none, none, none, none, none, none, none, none, none, none, none, none, none, none, none, none] ∧ Box H' b (n + 50000) ∧ Fr (only b) H H' ∧ Dp K H' sv (encSetup bits sizes) ∧ Dp K H' tv (encStream ts) ∧ ts.length ≤ 60 ∧ (∀ t ∈ ts, ThingOk t) ∧ HeadEn ts) ?_ fun key2 => ?_
    · clear hx q1 q2 q3 hokt htv hl hok hhd hb3 f3 hsv
      rintro σ' H4 ⟨tv, ts, rfl, hb4, f4, hsv, htv, hl, hok, hhd⟩
      have tS' := tS
      obtain ⟨sa, sb, ss, rfl, q1, q2, q3⟩ := dp_setup hsv
      refine ⟨_, rfl, _, rfl, b, _, .ref sa, bits, sizes, rfl, hb4, by omega, hsv, ok, fun H5 v2 ts2 hb5 fr5 hd2 hl2 hok2 hh2 => ⟨_, rfl, _, rfl, sa, _, 1, _, rfl, rfl, SqT.fr q1 fr5, at1, sb, ss, rfl, .inr (SqT.fr q2 fr5), b, _, (ss.length : Nat), rfl, hb5, by omega, ?_, ?_, fun H6 r6 hb6 fr6 r60 r61 => ?_⟩⟩
      · have := ok.l0
        have := q3.1
        omega
      · have := ok.l1
        have := q3.1
        omega
      refine ⟨_, _, rfl, ?_⟩
      obtain ⟨top, htop⟩ : ∃ m : Nat, (m : Int) = r6 := ⟨r6.toNat, by omega⟩
      rw [← htop]
      obtain ⟨b0, bs, rfl, he0⟩ := hh2
      have pok0 : PicOk b0 := hok2 (some b0) (List.mem_cons_self ..)
      have f46 := fr5.tr fr6
      have tT1 := to_stream (Nat.le_trans hl (by decide)) hok
      have tT2 := to_stream (Nat.le_trans hl2 (by decide)) hok2
      have htv6 := Dp.fr tT1 htv f46
      have hd6 := Dp.fr tT2 hd2 fr6
      have hsv6 := Dp.fr tS' hsv f46
      clear hd2 htv hsv
      obtain ⟨a1, xs1, rfl, p1, p2⟩ := dp_tup htv6
      obtain ⟨a2, xs2, rfl, p3, p4⟩ := dp_tup hd6
      have hx1 : xs1.length = ts.length := by rw [p2.1, List.length_map]
      have hx2 : xs2.length = (some b0 :: bs).length := by rw [p4.1, List.length_map]
      have ne1 : xs1 ≠ [] := by
        obtain ⟨_, _, e, _⟩ := hhd
        intro z
        rw [z, e] at hx1
        cases hx1
      have ne2 : xs2 ≠ [] := by
        intro z
        rw [z] at hx2
        cases hx2
      have lim : ∀ m : Nat, m ≤ 100 → m ≤ sizeLine := fun m hm => Nat.le_trans hm (by decide)
      have hl2' : (some b0 :: bs).length ≤ 14 := hl2
      dsimp only
      refine ⟨_, rfl, _, rfl, a1, a2, _, _, rfl, rfl, p1, p3, lim _ (by omega), fun z => absurd z ne1, fun _ z => absurd z ne2, fun _ _ p5 hp5 => ?_⟩
      have x7 : Same H6 (upd H6 p5 (.tup (xs1 ++ xs2))) := fun y o h => upd_keep h hp5
      have d7 : Dp K (upd H6 p5 (.tup (xs1 ++ xs2))) (.ref p5) (encStream (ts ++ [] ++ (some b0 :: bs))) := by
        have e : encStream (ts ++ [] ++ (some b0 :: bs)) = .tuple (ts.map encThing ++ (some b0 :: bs).map encThing) := by
          rw [List.append_nil]
          unfold encStream
          rw [List.map_append]
        rw [e]
        exact dp_cat upd_same (all2_to p2 (to_things hok) fun _ _ g => SqT.fr g (Same.fr x7 (fun _ => False))) (all2_to p4 (to_things hok2) fun _ _ g => SqT.fr g (Same.fr x7 (fun _ => False)))
      have hb7 := hb6.new (o := .tup (xs1 ++ xs2)) hp5
      have f7 : Fr (only b) H6 (upd H6 p5 (.tup (xs1 ++ xs2))) := Same.fr x7 _
      generalize upd H6 p5 (.tup (xs1 ++ xs2)) = H7 at x7 d7 hb7 f7
      refine gn_cut ?_
      dsimp only
      refine seq_cut (fun σ' H' => ∃ (p5 : Addr) (mid : List (Option Pic)), σ' = [some (.ref b), some (.ref sa), some (.ref a1), some (.ref a2), some (.int (top : Nat)), some (.ref p5), none, none, none, none, none, none, none, none, none, none, none, none, none] ∧ Box H' b (n + 90000) ∧ Fr (only b) H6 H' ∧ Dp K H' (.ref p5) (encStream (ts ++ mid ++ (some b0 :: bs))) ∧ (mid = [none] ∨ (mid = [] ∧ b0.kind = ("clean" : Str)))) ?_ fun key3 => ?_
      · rintro σ' H8 ⟨p5, mid, rfl, hb8, f8, d8, hm⟩
        have p18 := SqT.fr p1 f8
        have p38 := SqT.fr p3 f8
        have hsv8 := Dp.fr tS' hsv6 f8
        have htv8 := Dp.fr tT1 htv6 f8
        have hd8 := Dp.fr tT2 hd6 f8
        obtain ⟨_, xs5, e5, p5', q5⟩ := dp_tup d8
        cases e5
        have hx5 : xs5.length = (ts ++ mid ++ (some b0 :: bs)).length := by rw [q5.1, List.length_map]
        have hmid : mid.length ≤ 1 ∧ ∀ t ∈ mid, ThingOk t := by
          rcases hm with rfl | ⟨rfl, _⟩
          · exact ⟨Nat.le_refl _, fun t ht => by rw [List.mem_singleton.mp ht]; trivial⟩
          · exact ⟨Nat.zero_le _, fun t ht => absurd ht List.not_mem_nil⟩
        have hokA : ∀ t ∈ ts ++ mid ++ (some b0 :: bs), ThingOk t := fun t ht => by
          rcases List.mem_append.mp ht with ht | ht
          · exact (List.mem_append.mp ht).elim (hok t) (hmid.2 t)
          · exact hok2 t ht
        obtain ⟨far, hfar⟩ : ∃ m : Nat, (ts ++ mid).length = m := ⟨_, rfl⟩
        have hfl : far ≤ 61 := by
          rw [← hfar, List.length_append]
          omega
        have ek : ((xs5.length : Nat) : Int) - ((xs2.length : Nat) : Int) = (far : Int) := by
          rw [hx5, hx2, List.length_append, hfar]
          omega
        have hlA : (ts ++ mid ++ (some b0 :: bs)).length ≤ 100 := by
          rw [List.length_append, hfar]
          omega
        obtain ⟨pA, rA, rfl, hA⟩ := hhd
        have htl : top < sizes.length := by
          have := q3.1
          omega
        obtain ⟨sz, hsz⟩ : ∃ sz, sizes[top]? = some sz := ⟨_, List.getElem?_eq_getElem htl⟩
        have hszk := ok.sz sz (List.mem_of_getElem? hsz)
        have hpw := pow_le (n := bits) ok.b1
        have hcfg : CfgOk (cfgOf bits sz top) := ⟨hszk.2, hszk.1, hpw.1, Int.lt_of_le_of_lt hpw.2 (by decide)⟩
        have f08 : Fr (only b) H H8 := (f4.tr f46).tr f8
        have t8 := Tabs.frb hT hb f08
        have lo8 := SqT.fr hlo f08
        refine ⟨_, rfl, p5, xs5, rfl, .inr p5', _, rfl, a2, xs2, rfl, .inr p38, _, _, rfl, rfl, ?_⟩
        refine gn_cut ?_
        dsimp only
        rw [ek]
        have hlr : rA.length < 300 := by
          have h1 : (some pA :: rA).length ≤ 60 := hl
          rw [List.length_cons] at h1
          omega
        have hlb : bs.length < 300 := by
          rw [List.length_cons] at hl2'
          omega
        refine ⟨_, rfl, _, rfl, _, rfl, .ref sa, .ref a1, top, lo, bits, sizes, sz, pA, rA, rfl, lo8, hsv8, htv8, hA, hok, hlr, by have := ok.b1; omega, Nat.le_trans ok.l1 (by decide), hsz, hcfg, t8, fun H9 r9 ra la rvs e9 t9 hr9 hra hda hla => ⟨r9, _, rfl, SqT.of hr9, rfl, _, _, rfl, _, _, rfl, rfl, ?_⟩⟩
        dsimp only
        refine ⟨_, rfl, _, rfl, _, rfl, .ref sa, .ref a2, top, lo, bits, sizes, sz, b0, bs, rfl, SqT.extN lo8 e9, Dp.ext tS' hsv8 e9, Dp.ext tT2 hd8 e9, he0, hok2, hlb, by have := ok.b1; omega, Nat.le_trans ok.l1 (by decide), hsz, hcfg, t9, fun H10 r10 ra2 la2 rvs2 e10 t10 hr10 hra2 hda2 hla2 => ⟨r10, _, rfl, SqT.of hr10, rfl, _, _, rfl, _, _, rfl, rfl, ?_⟩⟩
        dsimp only
        let cf : Cfg := cfgOf bits sz top
        let pre : List Int := if b0.hush then [] else (runAll cf (some pA :: rA)).2
        have hboth : runAll cf ((some pA :: rA) ++ mid ++ (some b0 :: bs)) = ((runAll cf (some pA :: rA)).1 ++ dueR (far : Nat) pre (runAll cf (some b0 :: bs)).1, (runAll cf (some b0 :: bs)).2.map (· + ((far : Nat) : Int))) := by
          have h := @runAll_both cf (some pA :: rA) mid bs b0 (Int.natCast_nonneg _) pok0 he0 hm
          rw [hfar] at h
          exact h
        have hrow : ∀ r ∈ (runAll cf (some pA :: rA)).1 ++ dueR (far : Nat) pre (runAll cf (some b0 :: bs)).1, RowOk r := by
          have h := runAll_rows (c := cf) hokA (Nat.le_trans hlA (by decide))
          rw [hboth] at h
          exact h
        have hrowA : ∀ r ∈ (runAll cf (some pA :: rA)).1, RowOk r := fun r hr => hrow r (List.mem_append.mpr (.inl hr))
        have hrowB := runAll_rows (c := cf) hok2 (Nat.le_trans hl2' (by decide))
        have hlenA := runAll_len (c := cf) hok
        have hlenB := runAll_len (c := cf) hok2
        have hlP : (some pA :: rA).length ≤ 60 := hl
        have hra10 := e10 _ _ hra (by intro _ z; cases z)
        have hla10 := e10 _ _ hla (by intro _ z; cases z)
        have hda10 : DpAll K H10 rvs ((runAll cf (some pA :: rA)).1.map encRow) := dpAll_to hda (to_rows hrowA) fun _ _ g => SqT.extN g e10
        have hda2' : DpAll K H10 rvs2 ((runAll cf (some b0 :: bs)).1.map encRow) := hda2
        have p310 := SqT.extN (SqT.extN p38 e9) e10
        have hd10 := Dp.ext tT2 (Dp.ext tT2 hd8 e9) e10
        refine ⟨_, rfl, ra, rvs, rfl, .inl (SqL.of hra10), fun due hdue => ?_⟩
        refine gn_cut ?_
        dsimp only
        refine seq_cut (fun σ' H' => ∃ (v12 v13 v14 v15 v16 : Option V) (dvs : List V), σ' = [some (.ref b), some (.ref sa), some (.ref a1), some (.ref a2), some (.int (top : Nat)), some (.ref p5), some (.int (far : Nat)), some (.ref ra), some (.ref la), some (.ref ra2), some (.ref la2), some (.ref due), v12, v13, v14, v15, v16, none, none] ∧ Fr (only due) H10 H' ∧ H' due = some (.lst dvs) ∧ DpAll K H' dvs (((runAll cf (some pA :: rA)).1 ++ dueR (far : Nat) pre (runAll cf (some b0 :: bs)).1).map encRow)) ?_ fun key5 => ?_
        · rintro σ' H12 ⟨v12, v13, v14, v15, v16, dvs, rfl, f12, h12, hd12⟩
          have hla12 := f12.out hla2 (ne_of_none hla2 hdue)
          have t12 := Tabs.frn t10 hdue f12
          have lo12 := SqT.fr (SqT.extN (SqT.extN lo8 e9) e10) f12
          have hsv12 := Dp.fr tS' (Dp.ext tS' (Dp.ext tS' hsv8 e9) e10) f12
          have tT3 := to_stream (Nat.le_trans hlA (by decide)) hokA
          have d12 := Dp.fr tT3 (Dp.ext tT3 (Dp.ext tT3 d8 e9) e10) f12
          have hb12 : Box H12 b (n + 90000) := ((hb8.extN e9).extN e10).fr f12 fun z => ((hb8.extN e9).extN e10).ne hdue z.symm
          refine ⟨_, rfl, _, rfl, _, rfl, .ref sa, .ref p5, top, lo, bits, sizes, sz, pA, rA ++ mid ++ (some b0 :: bs), rfl, lo12, hsv12, d12, hA, hokA, ?_, by have := ok.b1; omega, Nat.le_trans ok.l1 (by decide), hsz, hcfg, t12, fun H13 r13 ra3 la3 rvs3 e13 t13 hr13 hra3 hda3 hla3 => ?_⟩
          · have h1 : (some pA :: (rA ++ mid ++ (some b0 :: bs))).length ≤ 100 := hlA
            rw [List.length_cons] at h1
            omega
          have h13 := e13 _ _ h12 (by intro _ z; cases z)
          have hla13 := e13 _ _ hla12 (by intro _ z; cases z)
          have hd13 := dpAll_to hd12 (to_rows hrow) fun _ _ g => SqT.extN g e13
          have lE : (runAll cf (some b0 :: bs)).2.length ≤ 14 := Nat.le_trans hlenB.2 hl2'
          refine ⟨_, rfl, _, rfl, la2, rfl, ⟨_, SqL.of hla13⟩, fun D hD => ?_⟩
          refine lc_list (K := K) (a := la2) (xs := (runAll cf (some b0 :: bs)).2.map V.int) (fun j H' => H' D = some (.lst ((((runAll cf (some b0 :: bs)).2.map (· + ((far : Nat) : Int))).take j).map V.int)) ∧ Same H13 H') ⟨upd_same, upd0 hD⟩ (fun j H' _ ⟨_, x'⟩ => SqL.of (x' _ _ hla13)) (fun j v H' hv ⟨g1, x'⟩ => ?_) fun H' ⟨g1, x'⟩ => ?_
          · rw [List.getElem?_map] at hv
            cases ez : (runAll cf (some b0 :: bs)).2[j]? with
            | none =>
              rw [ez] at hv
              cases hv
            | some z =>
              rw [ez] at hv
              cases hv
              have hj := (List.getElem?_eq_some_iff.mp ez).1
              refine ⟨rfl, _, rfl, _, rfl, _, _, rfl, rfl, _, g1, ?_, ?_, same_put x' hD⟩
              · rw [List.length_map, List.length_take]
                exact Nat.lt_of_le_of_lt (Nat.min_le_left _ _) (Nat.lt_of_lt_of_le hj (Nat.le_trans lE (by decide)))
              · rw [upd_same, List.take_add_one, List.getElem?_map, ez, List.map_append]
                rfl
          · rw [List.take_of_length_le (by rw [List.length_map, List.length_map]; exact Nat.le_refl _)] at g1
            refine ⟨by show 2 ≤ sizeLine; decide, fun tt htt => ?_⟩
            have xt : Same H13 (upd H' tt (.tup [.ref due, .ref D])) := fun y o h => upd_keep (x' y o h) htt
            have hD' := upd_keep (o' := .tup [.ref due, .ref D]) g1 htt
            have dF : Dp K (upd H' tt (.tup [.ref due, .ref D])) (.ref r13) (encRun (runAll cf ((some pA :: rA) ++ mid ++ (some b0 :: bs)))) :=
              RunR.dp (RunR.extN (H := H13) ⟨ra3, la3, rvs3, hr13, hra3, hda3, hla3⟩ (by rw [hboth]; exact hrow) (LamX.ExtN.of xt))
            have dD : Dp K (upd H' tt (.tup [.ref due, .ref D])) (.ref tt) (encRun (runAll cf ((some pA :: rA) ++ mid ++ (some b0 :: bs)))) := by
              rw [hboth]
              exact .tup (SqT.of upd_same) (.cons (.lst (SqL.of (xt _ _ h13)) (dpAll_to hd13 (to_rows hrow) fun _ _ g => SqT.extN g (LamX.ExtN.of xt))) (.cons (.lst (SqL.of hD') (dp_ints _)) .nil))
            have lB := runAll_len (c := cf) hokA
            refine ⟨.ref r13, .ref tt, _, rfl, dF, dD, sm_run (Nat.le_trans lB.1 (Nat.le_trans hlA (by decide))) (Nat.le_trans lB.2 (Nat.le_trans hlA (by decide))) (by rw [hboth]; exact hrow), fun H14 x14 => ?_⟩
            have xe : LamX.ExtN H13 H14 := LamX.ExtN.of fun y o h => x14 y o (xt y o h)
            refine k _ (((hb12.extN e13).extN xe).le (by omega)) (t13.ext fun y o h => x14 y o (xt y o h)) ?_
            exact ((((FrB.fr f08).trans (FrB.extN e9)).trans (FrB.extN e10)).loc f12 hdue).trans ((FrB.extN e13).trans (FrB.extN xe))
        · refine ⟨_, rfl, ra2, rvs2, rfl, SqL.of (upd_keep hra2 hdue), ?_⟩
          refine for_enum (K := K) (a := ra2) (xs := rvs2) (fun i σ H' => ∃ (v12 v13 v14 v15 v16 : Option V) (dvs : List V), σ = [some (.ref b), some (.ref sa), some (.ref a1), some (.ref a2), some (.int (top : Nat)), some (.ref p5), some (.int (far : Nat)), some (.ref ra), some (.ref la), some (.ref ra2), some (.ref la2), some (.ref due), v12, v13, v14, v15, v16, none, none] ∧ Fr (only due) H10 H' ∧ H' due = some (.lst dvs) ∧ DpAll K H' dvs (((runAll cf (some pA :: rA)).1 ++ (dueR (far : Nat) pre (runAll cf (some b0 :: bs)).1).take i).map encRow))
            ⟨none, none, none, none, none, rvs, rfl, (Fr.refl _ _).new hdue, upd_same, ?_⟩ (fun i σ H' _ ⟨_, _, _, _, _, _, _, f', _⟩ => SqL.of (f'.out hra2 (ne_of_none hra2 hdue))) ?_ ?_
          · rw [List.take_zero, List.append_nil]
            exact dpAll_to hda10 (to_rows hrowA) fun _ _ g => SqT.extN g (ext_new hdue)
          · rintro i x Tt σ H12 hx ⟨v12, v13, v14, v15, v16, dvs, rfl, f12, h12, hd12⟩ hTt
            obtain ⟨d, ed, hdx⟩ := (dpAll_2 hda2').get hx
            rw [List.getElem?_map] at ed
            cases er : (runAll cf (some b0 :: bs)).1[i]? with
            | none =>
              rw [er] at ed
              cases ed
            | some r =>
              rw [er] at ed
              cases ed
              have hrB : RowOk r := hrowB r (List.mem_of_getElem? er)
              have hi14 : i < 14 := Nat.lt_of_lt_of_le (List.getElem?_eq_some_iff.mp er).1 (Nat.le_trans hlenB.1 hl2')
              obtain ⟨t, rf, tl, rfl, g0, g1, g2⟩ := dp_row (Dp.fr (to_row hrB) hdx f12)
              have xT : Same H12 (upd H12 Tt (.tup [.int (i : Nat), .ref t])) := upd0 hTt
              refine ⟨Tt, _, rfl, SqT.of upd_same, rfl, _, _, rfl, _, _, rfl, ⟨t, _, rfl, sqT_same g0 xT, rfl, _, _, rfl, _, _, rfl, _, _, rfl, _, _, rfl, rfl, rfl, ?_⟩⟩
              generalize upd H12 Tt (.tup [.int (i : Nat), .ref t]) = H13 at xT
              dsimp only
              -- the names
              refine ⟨_, rfl, rf, rfl, ⟨_, sqT_same g1 xT⟩, fun D hD => ?_⟩
              refine lc_tup (K := K) (a := rf) (xs := r.2.2.1.map wv) (fun j H' => H' D = some (.lst (((r.2.2.1.map (·.map (· + ((far : Nat) : Int)))).take j).map wv)) ∧ Same H13 H') ⟨upd_same, upd0 hD⟩ (fun j H' _ ⟨_, x'⟩ => sqT_same (sqT_same g1 xT) x') (fun j v H' hv ⟨d1, x'⟩ => ?_) fun H14 ⟨d1, x14⟩ => ?_
              · rw [List.getElem?_map] at hv
                cases ez : r.2.2.1[j]? with
                | none =>
                  rw [ez] at hv
                  cases hv
                | some z =>
                  rw [ez] at hv
                  cases hv
                  have hj := (List.getElem?_eq_some_iff.mp ez).1
                  have fin : ∀ (u : V), u = wv (z.map (· + ((far : Nat) : Int))) → ∃ acc, H' D = some (.lst acc) ∧ acc.length < sizeLine ∧ (upd H' D (.lst (acc ++ [u]))) D = some (.lst (((r.2.2.1.map (·.map (· + ((far : Nat) : Int)))).take (j + 1)).map wv)) ∧ Same H13 (upd H' D (.lst (acc ++ [u]))) := fun u hu' => by
                    refine ⟨_, d1, ?_, ?_, same_put x' hD⟩
                    · rw [List.length_map, List.length_take]
                      exact Nat.lt_of_le_of_lt (Nat.min_le_left _ _) (Nat.lt_of_lt_of_le hj (Nat.le_trans hrB.1 (by decide)))
                    · rw [upd_same, List.take_add_one, List.getElem?_map, ez, List.map_append, hu']
                      rfl
                  cases z with
                  | none => exact ⟨rfl, _, rfl, _, rfl, ifT rfl (fin _ rfl)⟩
                  | some z => exact ⟨rfl, _, rfl, _, rfl, ifF rfl ⟨_, rfl, _, rfl, _, _, rfl, rfl, fin _ rfl⟩⟩
              rw [List.take_of_length_le (by rw [List.length_map, List.length_map]; exact Nat.le_refl _)] at d1
              refine ⟨D, _, rfl, .inl ⟨SqL.of d1, fun rf' hrf' => ?_⟩⟩
              refine gn_cut ?_
              dsimp only
              have x15 : Same H12 (upd H14 rf' (.tup ((r.2.2.1.map (·.map (· + ((far : Nat) : Int)))).map wv))) := fun y o h => upd_keep (x14 y o (xT y o h)) hrf'
              have k15 : upd H14 rf' (.tup ((r.2.2.1.map (·.map (· + ((far : Nat) : Int)))).map wv)) rf' = some (.tup ((r.2.2.1.map (·.map (· + ((far : Nat) : Int)))).map wv)) := upd_same
              generalize upd H14 rf' (.tup ((r.2.2.1.map (·.map (· + ((far : Nat) : Int)))).map wv)) = H15 at x15 k15
              clear d1 x14 xT hD hrf'
              -- the shown
              refine ⟨_, rfl, tl, rfl, ⟨_, sqT_same g2 x15⟩, fun D hD => ?_⟩
              refine lc_tup (K := K) (a := tl) (xs := r.2.2.2.map V.int) (fun j H' => H' D = some (.lst (((r.2.2.2.map (· + ((far : Nat) : Int))).take j).map V.int)) ∧ Same H15 H') ⟨upd_same, upd0 hD⟩ (fun j H' _ ⟨_, x'⟩ => sqT_same (sqT_same g2 x15) x') (fun j v H' hv ⟨d1, x'⟩ => ?_) fun H16 ⟨d1, x16⟩ => ?_
              · rw [List.getElem?_map] at hv
                cases ez : r.2.2.2[j]? with
                | none =>
                  rw [ez] at hv
                  cases hv
                | some z =>
                  rw [ez] at hv
                  cases hv
                  have hj := (List.getElem?_eq_some_iff.mp ez).1
                  refine ⟨rfl, _, rfl, _, rfl, _, _, rfl, rfl, _, d1, ?_, ?_, same_put x' hD⟩
                  · rw [List.length_map, List.length_take]
                    exact Nat.lt_of_le_of_lt (Nat.min_le_left _ _) (Nat.lt_of_lt_of_le hj (Nat.le_trans hrB.2 (by decide)))
                  · rw [upd_same, List.take_add_one, List.getElem?_map, ez, List.map_append]
                    rfl
              rw [List.take_of_length_le (by rw [List.length_map, List.length_map]; exact Nat.le_refl _)] at d1
              refine ⟨D, _, rfl, .inl ⟨SqL.of d1, fun tl' htl' => ?_⟩⟩
              refine gn_cut ?_
              dsimp only
              have x17 : Same H15 (upd H16 tl' (.tup ((r.2.2.2.map (· + ((far : Nat) : Int))).map V.int))) := fun y o h => upd_keep (x16 y o h) htl'
              have k17 : upd H16 tl' (.tup ((r.2.2.2.map (· + ((far : Nat) : Int))).map V.int)) tl' = some (.tup ((r.2.2.2.map (· + ((far : Nat) : Int))).map V.int)) := upd_same
              generalize upd H16 tl' (.tup ((r.2.2.2.map (· + ((far : Nat) : Int))).map V.int)) = H17 at x17 k17
              clear d1 x16 hD htl'
              refine seq_cut (fun σ' H' => ∃ (q : Addr), σ' = [some (.ref b), some (.ref sa), some (.ref a1), some (.ref a2), some (.int (top : Nat)), some (.ref p5), some (.int (far : Nat)), some (.ref ra), some (.ref la), some (.ref ra2), some (.ref la2), some (.ref due), some (.int (i : Nat)), some (.int r.1), some (.int r.2.1), some (.ref rf'), some (.ref q), none, none] ∧ Same H17 H' ∧ H' q = some (.tup (((if i = 0 then pre else []) ++ r.2.2.2.map (· + ((far : Nat) : Int))).map V.int))) ?_ fun key6 => ?_
              · rintro σ' H18 ⟨q, rfl, x18, k18⟩
                have x1218 : Same H12 H18 := fun y o h => x18 y o (x17 y o (x15 y o h))
                have h18 := x1218 _ _ h12
                refine ⟨_, rfl, .inl ⟨rfl, _, SqL.of h18⟩, _, rfl, _, rfl, _, _, rfl, rfl, _, rfl, _, rfl, _, rfl, by show 4 ≤ sizeLine; decide, fun t4 ht4 => ⟨due, _, _, rfl, rfl, upd_keep h18 ht4, ?_, _, _, _, _, _, dvs ++ [.ref t4], rfl, ?_, upd_same, ?_⟩⟩
                · rw [(dpAll_2 hd12).1, List.length_map, List.length_append, List.length_take]
                  have := hlenA.1
                  exact Nat.lt_of_lt_of_le (show _ < 100 by omega) (by decide)
                · exact ((f12.tr (Same.fr x1218 (only due))).new ht4).put (upd_keep h18 ht4) rfl (.inl rfl)
                · have tk := dueR_take (k := ((far : Nat) : Int)) (pre := pre) er
                  have hrT : ∀ r ∈ (runAll cf (some pA :: rA)).1 ++ (dueR ((far : Nat) : Int) pre (runAll cf (some b0 :: bs)).1).take i, RowOk r := fun r hr => hrow r ((List.mem_append.mp hr).elim (fun z => List.mem_append.mpr (.inl z)) fun z => List.mem_append.mpr (.inr (List.mem_of_mem_take z)))
                  have hrD : RowOk (dueRow ((far : Nat) : Int) (if i = 0 then pre else []) r) := hrow _ (List.mem_append.mpr (.inr (List.mem_of_getElem? (dueR_get er))))
                  rw [tk, ← List.append_assoc, List.map_append]
                  have k15' := x18 _ _ (x17 _ _ k15)
                  have toL : ∀ {m : Nat} {d : PyData} {v : V}, TO m d → Dp K H18 v d → Dp K (upd (upd H18 t4 (.tup [.int (r.1 + ((far : Nat) : Int)), .int r.2.1, .ref rf', .ref q])) due (.lst (dvs ++ [.ref t4]))) v d := fun td hv => dp_lst (upd_keep h18 ht4) td (dp_new ht4 td hv)
                  have toN : ∀ {m : Nat} {d : PyData} {v : V}, TO m d → Dp K (upd H18 t4 (.tup [.int (r.1 + ((far : Nat) : Int)), .int r.2.1, .ref rf', .ref q])) v d → Dp K (upd (upd H18 t4 (.tup [.int (r.1 + ((far : Nat) : Int)), .int r.2.1, .ref rf', .ref q])) due (.lst (dvs ++ [.ref t4]))) v d := fun td hv => dp_lst (upd_keep h18 ht4) td hv
                  refine dpAll_of (All2.append ?_ (all2_s (toN (to_row hrD) ?_)))
                  · have a2 := dpAll_2 hd12
                    exact ⟨a2.1, fun j y z hy hz => toL (to_rows hrT z (List.mem_of_getElem? hz)) (Dp.ext (to_rows hrT z (List.mem_of_getElem? hz)) (a2.2 j y z hy hz) (LamX.ExtN.of x1218))⟩
                  · exact row_dp (r := dueRow ((far : Nat) : Int) (if i = 0 then pre else []) r) (SqT.of upd_same) (SqT.of (upd_keep k15' ht4)) (SqT.of (upd_keep k18 ht4))
              · have x1217 : Same H12 H17 := fun y o h => x17 y o (x15 y o h)
                have la17 := x1217 _ _ (f12.out hla10 (ne_of_none hla10 hdue))
                change tAnd _ _ _ _ _
                refine tt_cut (fun c H' => H' = H17 ∧ c = (decide (i = 0) && !b0.hush)) ?_ fun key7 => ?_
                · rintro c H' ⟨rfl, hc⟩
                  refine ite2 (fun hcc => ?_) (fun hcc => ?_)
                  · rw [hc] at hcc
                    have h1 : i = 0 := of_decide_eq_true (Bool.and_eq_true_iff.mp hcc).1
                    have h2 : b0.hush = false := by
                      have := (Bool.and_eq_true_iff.mp hcc).2
                      simpa using this
                    have epre : (if i = 0 then pre else []) = (runAll cf (some pA :: rA)).2 := by
                      rw [if_pos h1]
                      show (if b0.hush = true then _ else _) = _
                      rw [h2]
                      rfl
                    rw [epre] at key6
                    refine ⟨_, rfl, la, _, rfl, .inl ⟨SqL.of la17, fun q1 hq1 => ?_⟩⟩
                    have k17' := upd_keep (o' := .tup ((runAll cf (some pA :: rA)).2.map V.int)) k17 hq1
                    refine ⟨_, rfl, q1, tl', _, _, rfl, rfl, SqT.of upd_same, SqT.of k17', ?_, fun z => ?_, fun _ z => ?_, fun _ _ q2 hq2 => ?_⟩
                    · rw [List.length_map, List.length_map, List.length_map]
                      exact Nat.le_trans (Nat.add_le_add (Nat.le_trans hlenA.2 hlP) hrB.2) (by decide)
                    · refine key6 _ _ ⟨tl', rfl, upd0 hq1, ?_⟩
                      have e0 : ((runAll cf (some pA :: rA)).2 ++ r.2.2.2.map (· + ((far : Nat) : Int))).map V.int = (r.2.2.2.map (· + ((far : Nat) : Int))).map V.int := by
                        rw [List.map_append, z]
                        rfl
                      rw [e0]
                      exact k17'
                    · refine key6 _ _ ⟨q1, rfl, upd0 hq1, ?_⟩
                      have e0 : ((runAll cf (some pA :: rA)).2 ++ r.2.2.2.map (· + ((far : Nat) : Int))).map V.int = (runAll cf (some pA :: rA)).2.map V.int := by rw [List.map_append, z, List.append_nil]
                      rw [e0]
                      exact upd_same
                    · refine key6 _ _ ⟨q2, rfl, fun y o h => upd_keep (upd_keep h hq1) hq2, ?_⟩
                      rw [List.map_append]
                      exact upd_same
                  · have epre : (if i = 0 then pre else []) = [] := by
                      rw [hc] at hcc
                      by_cases h1 : i = 0
                      · rw [if_pos h1]
                        rw [decide_eq_true h1, Bool.true_and] at hcc
                        have h2 : b0.hush = true := by
                          cases e : b0.hush with
                          | true => rfl
                          | false =>
                            rw [e] at hcc
                            exact absurd rfl hcc
                        show (if b0.hush = true then _ else _) = _
                        rw [if_pos h2]
                      · rw [if_neg h1]
                    rw [epre] at key6
                    exact key6 _ _ ⟨tl', rfl, fun _ _ h => h, k17⟩
                · refine ⟨_, rfl, rfl, _, rfl, ?_⟩
                  refine ite2 (fun h => ?_) (fun h => ?_)
                  · have h1 : i = 0 := by
                      have h2 := of_decide_eq_true h
                      injection h2 with h2
                      omega
                    have p317 := sqT_same (SqT.fr p310 f12) x1217
                    obtain ⟨x0, xs2', e2, hx0, _⟩ := all2_cons (show All2 (Dp K H6) xs2 (encPic b0 :: bs.map encThing) from p4)
                    obtain ⟨ab, rfl, ps, pl, vs, ws, gp, _⟩ := dp_pic pok0 hx0
                    rw [e2] at p317
                    have gp17 := sqT_same (SqT.fr (SqT.extN (SqT.extN (SqT.fr gp f8) e9) e10) f12) x1217
                    refine ⟨_, rfl, a2, _, 0, _, rfl, rfl, p317, at0, ab, _, 7, _, rfl, rfl, gp17, rfl, _, rfl, key7 _ _ ⟨rfl, ?_⟩⟩
                    rw [decide_eq_true h1, Bool.true_and]
                  · refine key7 _ _ ⟨rfl, ?_⟩
                    have h1 : ¬ i = 0 := fun z => h (by rw [z]; rfl)
                    rw [decide_eq_false h1, Bool.false_and]
          · rintro σ H12 ⟨v12, v13, v14, v15, v16, dvs, rfl, f12, h12, hd12⟩
            refine key5 _ _ ⟨v12, v13, v14, v15, v16, dvs, rfl, f12, h12, ?_⟩
            have e : rvs2.length = (dueR (far : Nat) pre (runAll cf (some b0 :: bs)).1).length := by
              rw [dueR_len, (dpAll_2 hda2').1, List.length_map]
            rw [e, List.take_length] at hd12
            exact hd12
      · obtain ⟨x0, xs2', rfl, hx0, _⟩ := all2_cons (show All2 (Dp K H6) xs2 (encPic b0 :: bs.map encThing) from p4)
        obtain ⟨ab, rfl, ps, pl, vs, ws, g1, _⟩ := dp_pic pok0 hx0
        have p37 := SqT.fr p3 f7
        have g17 := SqT.fr g1 f7
        change tOr _ _ _ _ _
        refine tt_cut (fun c H' => Fr (only b) H7 H' ∧ Box H' b (n + 50000 + 20001 + 2) ∧ (c = false → b0.kind ≠ ("open" : Str))) ?_ fun key4 => ?_
        · rintro c H8 ⟨f8, hb8, hc⟩
          have f68 := f7.tr f8
          refine ite2 (fun _ => ?_) (fun hcc => ?_)
          · refine ⟨_, rfl, by show 1 ≤ sizeLine; decide, fun t1 h1 => ⟨by show 1 ≤ sizeLine; decide, fun t2 h2 => ?_⟩⟩
            have f9 : Fr (only b) H8 (upd (upd H8 t1 (.tup [.str "end"])) t2 (.tup [.ref t1])) := ((Fr.refl _ _).new h1).new h2
            have s1 : upd (upd H8 t1 (.tup [.str "end"])) t2 (.tup [.ref t1]) t1 = some (.tup [.str "end"]) := upd_keep upd_same h2
            have s2 : upd (upd H8 t1 (.tup [.str "end"])) t2 (.tup [.ref t1]) t2 = some (.tup [.ref t1]) := upd_same
            have hb9 := (hb8.new (o := .tup [.str "end"]) h1).new (o := .tup [.ref t1]) h2
            generalize upd (upd H8 t1 (.tup [.str "end"])) t2 (.tup [.ref t1]) = H9 at f9 s1 s2 hb9
            have f69 := f68.tr f9
            refine ⟨a1, t2, _, _, rfl, rfl, SqT.fr p1 f69, SqT.of s2, lim _ (by show xs1.length + 1 ≤ 100; omega), fun z => absurd z ne1, fun _ z => (by cases z), fun _ _ p3' h3 => ⟨_, rfl, p3', a2, _, _, rfl, rfl, SqT.of upd_same, SqT.fr p3 (f69.new h3), lim _ ?_, fun z => ?_, fun _ z => absurd z ne2, fun _ _ p4' h4 => ?_⟩⟩
            · rw [List.length_append]
              show xs1.length + 1 + _ ≤ 100
              omega
            · simp at z
            · have f10 := (f69.new (o := .tup (xs1 ++ [V.ref t1])) h3).new (o := .tup (xs1 ++ [V.ref t1] ++ V.ref ab :: xs2')) h4
              refine key3 _ _ ⟨p4', [none], rfl, ((hb9.new h3).new h4).le (by omega), f10, ?_, .inl rfl⟩
              have e : encStream (ts ++ [none] ++ (some b0 :: bs)) = .tuple (ts.map encThing ++ [encThing none] ++ (some b0 :: bs).map encThing) := by
                unfold encStream
                rw [List.map_append, List.map_append]
                rfl
              rw [e]
              refine dp_cat upd_same (All2.append (all2_to p2 (to_things hok) fun _ _ g => SqT.fr g f10) (all2_s (.tup (SqT.of (upd_keep (upd_keep s1 h3) h4)) (.cons (.str _) .nil)))) (all2_to p4 (to_things hok2) fun _ _ g => SqT.fr g f10)
          · have hk : b0.kind = ("clean" : Str) := by
              have h1 := hc (by simpa using hcc)
              have h2 : (decide (b0.kind = ("clean" : Str)) || decide (b0.kind = ("open" : Str))) = true := he0
              rw [decide_eq_false h1, Bool.or_false] at h2
              exact of_decide_eq_true h2
            exact key3 _ _ ⟨p5, [], rfl, hb8.le (by omega), f68, Dp.fr (to_stream (by rw [List.append_nil, List.length_append]; omega) fun t ht => by
              rw [List.append_nil] at ht
              exact (List.mem_append.mp ht).elim (hok t) (hok2 t)) d7 f8, .inr ⟨rfl, hk⟩⟩
        · refine ⟨_, rfl, a2, _, 0, _, rfl, rfl, p37, at0, ab, _, 0, _, rfl, rfl, g17, rfl, rfl, _, rfl, ?_⟩
          rw [decS]
          refine ite2 (fun h => ?_) (fun h => ?_)
          · exact key4 _ _ ⟨Fr.refl _ _, hb7.le (by omega), fun z => by cases z⟩
          · refine ⟨_, rfl, b, _, 2, rfl, hb7, by omega, by decide, by decide, fun H8 r8 hb8 fr8 _ _ => ⟨rfl, _, rfl, key4 _ _ ⟨fr8, hb8, fun _ => by simpa using h⟩⟩⟩
    · refine ⟨_, rfl, _, rfl, a, _, -1, _, rfl, rfl, q1, L2.atI_last _ _, by show 1 ≤ sizeLine; decide, fun p hp => ?_⟩
      have f4 : Fr (only b) H3 (upd H3 p (.tup [.str "end"])) := (Fr.refl _ _).new hp
      refine ⟨_, encThing none, Dp.fr (to_thing hokt) hx f4, .tup (SqT.of upd_same) (.cons (.str _) .nil), (to_thing hokt).shaped (by decide), (to_thing (t := none) trivial).shaped (by decide), _, rfl, ?_⟩
      rw [eqv_end]
      have b4 := hb3.new (o := .tup [.str "end"]) hp
      have q14 := SqT.fr q1 f4
      cases t with
      | some pc =>
        refine ifF rfl (key2 _ _ ⟨_, ts0 ++ [some pc], rfl, b4, f3.tr f4, Dp.fr tS hsv f4, Dp.fr (to_stream (Nat.le_trans hl (by decide)) hok) htv f4, hl, hok, hhd⟩)
      | none =>
        refine ifT rfl ⟨_, rfl, _, rfl, _, rfl, a, _, rfl, q14, fun z => ?_, fun _ p2 hp2 => ?_⟩
        · exfalso
          have z2 := z.2
          have e : HT.sIx (xs0 ++ [x]).length (xs0 ++ [x]).length (some (-1)) = ((-1 : Int) + ((xs0 ++ [x]).length : Int)).toNat := rfl
          rw [e, List.length_append] at z2
          simp only [List.length_cons, List.length_nil] at z2
          omega
        · have f5 := f4.new (o := .tup (cutV (xs0 ++ [x]) none (some (-1)))) hp2
          refine key2 _ _ ⟨.ref p2, ts0, rfl, b4.new hp2, f3.tr f5, Dp.fr tS hsv f5, ?_, ?_, fun u hu => hok u (List.mem_append.mpr (.inl hu)), head_init hhd⟩
          · refine .tup (SqT.of (xs := xs0) (by rw [upd_same, cut_last, List.dropLast_concat])) ?_
            exact dpAll_of (all2_to q3 (to_things fun u hu => hok u (List.mem_append.mpr (.inl hu))) fun _ _ g => SqT.fr g f5)
          · rw [List.length_append] at hl
            exact Nat.le_trans (Nat.le_add_right _ _) hl
  · refine ⟨_, rfl, b, _, 2, rfl, hb2, by omega, by decide, by decide, fun H3 r3 hb3 fr3 _ _ => ⟨rfl, _, rfl, ite2 (fun _ => ?_) fun _ => ?_⟩⟩
    · refine ⟨_, rfl, b, _, rfl, hb3, by omega, fun H4 sv4 bits4 sizes4 hb4 fr4 hsv4 ok4 => ?_⟩
      have tS := to_setup (bits := bits4) (Nat.le_trans ok4.l1 (by decide))
      refine ⟨_, rfl, _, rfl, b, _, sv4, bits4, sizes4, rfl, hb4, by omega, hsv4, ok4, fun H5 tv5 ts5 hb5 fr5 htv5 hl5 hok5 hh5 => ?_⟩
      exact key1 _ _ ⟨sv4, tv5, bits4, sizes4, ts5, rfl, hb5.le (by omega), ((f2.tr fr3).tr fr4).tr fr5, Dp.fr tS hsv4 fr5, ok4, htv5, by omega, hok5, hh5⟩
    · exact key1 _ _ ⟨sv, tv, bits, sizes, ts, rfl, hb3.le (by omega), f2.tr fr3, Dp.fr (to_setup (bits := bits) (Nat.le_trans ok.l1 (by decide))) hsv fr3, ok, Dp.fr (to_stream (Nat.le_trans hl (by decide)) hok) htv fr3, hl, hok, hhd⟩
end

end L2.K13
set_option Elab.async false
set_option linter.all false
set_option maxRecDepth 100000
set_option maxHeartbeats 4000000
set_option pp.maxSteps 150
namespace L2.K13
open PySem PySem.Spec PyProof.Rows L2
open C8 (Cal Met Mak pe_c pe_mt pe_mt0 pe_mk)
local macro_rules | `(tactic| walk_at "hp") => `(tactic| first | assumption | exact upd_same | (refine upd_keep ?_ (by assumption); walk_at "hp") | (refine upd_off ?_ (by assumption) (by intro z; cases z); walk_at "hp"))
local macro_rules | `(tactic| walk_at "seq") => `(tactic| first | assumption | exact SqT.of (by walk_at "hp") | exact SqL.of (by walk_at "hp"))
section
theorem sql_cases {K : PySem.W.Frag} {H : Hp} {a b : Addr} {xs : List V} (h : SqL K H a xs) (hb : H b = none) : a ≠ b ∨ ∀ H', SqL K H' a xs := by
  rcases h with (h | ⟨o, h⟩) | h
  · exact .inl (ne_of_none h hb)
  · exact .inl (ne_of_none h hb)
  · exact .inr fun _ => .inr h
theorem SqL.frB {K : PySem.W.Frag} {H H' : Hp} {a b : Addr} {xs : List V} (h : SqL K H a xs) (c : a ≠ b ∨ ∀ H', SqL K H' a xs) (f : FrB b H H') : SqL K H' a xs := by
  rcases c with c | c
  · rcases h with (h | ⟨o, h⟩) | h
    · exact .inl (.inl (f _ _ h c (by intro _ z; cases z)))
    · exact .inl (.inr ⟨o, f _ _ h c (by intro _ z; cases z)⟩)
    · exact .inr h
  · exact c H'
theorem SqL.put {K : PySem.W.Frag} {H : Hp} {a D : Addr} {xs : List V} {o : HO} (h : SqL K H a xs) (c : a ≠ D ∨ ∀ H', SqL K H' a xs) : SqL K (upd H D o) a xs := by
  rcases c with c | c
  · rcases h with (h | ⟨u, h⟩) | h
    · exact .inl (.inl ((upd_ne c).trans h))
    · exact .inl (.inr ⟨u, (upd_ne c).trans h⟩)
    · exact .inr h
  · exact c _
variable {P : Program} {w : World} {K : PySem.W.Frag} {mg : Str → Option Value} {base : Heap}
def spLaw (K : PySem.W.Frag) (T0 : List (Addr × Str)) (lo : Addr) : Sp := fun vs H Q _ => ∃ (a : Addr) (ns : List Int), vs = [.ref a] ∧ SqL K H a (ns.map V.int) ∧ LamX.Tabs T0 H ∧ SqT K H lo [] ∧ ∀ H', Q (.bl true) H'
theorem ok_law {T0 : List (Addr × Str)} {lo f : Addr} {fd : FuncData} (T : Fx K mg) (F : Fun K "law" "law" s_law f fd) (c_box : Cal P w K mg base 2 "_law_box" (spBox K) []) (c_right : Cal P w K mg base 9 "_law_right" (spRight K T0 lo) []) : FnOk P w K mg base CX0 10 f fd ["_law_script"] (spLaw K T0 lo) := by
  refine F.ok sc_law (fun vs H Q E h => ?_) (fun cdv A outer s H vs Q E hr h => ?_)
  · obtain ⟨_, _, rfl, _⟩ := h
    rfl
  obtain ⟨a, ns, rfl, hs, hT, hlo, k⟩ := h
  have nd := sc_law.nd
  refine ⟨_, (pss_cons (ps_for PassesOwn.never rfl (pi_range1 (by rfl) T.n_range (pa_cons pe_int pa_nil)) (pg_name (i := 1) nd rfl (by first | exact .inl rfl | exact .inr rfl)) (pss_cons (ps_set (i := 2) nd rfl (Or.inr rfl) (pe_c c_box hr (by first | decide | omega) (by rfl) (pa_cons (pv 0) (pa_cons (pv 1) pa_nil))))
      (pss_one (ps_if (pt_not (pt_val (pe_callB (cr_all rfl) (by rfl) T.n_all boot_all (pa_cons (pe_lc (own := [("_law_lap", 3)]) (g := (gName 3)) (tt := tYes) (te := (tCall _ _ E0 (tCons (tVar 2) tNil))) rfl nd (pi_range1 (by rfl) T.n_range (pa_cons pe_int pa_nil)) (blkOk_by (N := ["_law_script", "_law_k", "_law_box_here", "_law_lap"]) (sc := defScope s_law) (by decide +kernel)) (fun _ _ _ _ _ => (pg_name (i := 3) nd rfl (by first | exact .inl rfl | exact .inr rfl))) (fun _ _ _ _ _ => pts_nil) (fun _ _ _ _ _ => (pe_c c_right hr (by first | decide | omega) (by rfl) (pa_cons (pv 2) pa_nil)))) pa_nil)))) (pss_one (ps_ret pe_bl)) pss_nil))))
  (pss_one (ps_ret pe_bl))), ?_⟩
  refine ⟨_, rfl, by decide, by decide, ?_⟩
  refine for_range (n := 2) (fun i σ H' => ∃ v1 v2 : Option V, σ = [some (.ref a), v1, v2, none] ∧ SqL K H' a (ns.map V.int) ∧ LamX.Tabs T0 H' ∧ SqT K H' lo []) ⟨none, none, rfl, hs, hT, hlo⟩ ?_ ?_
  · rintro i σ H1 hi ⟨v1, v2, rfl, hs1, hT1, hlo1⟩
    rw [show (0 : Int) + ((i : Nat) : Int) = (i : Nat) by omega]
    refine ⟨_, rfl, _, rfl, a, ns, i, rfl, hs1, fun b H2 hb0 x2 hb2 => ?_⟩
    have hs2 := sqL_same hs1 x2
    have hc := sql_cases hs1 hb0
    have hT2 := hT1.ext x2
    have hlo2 := sqT_same hlo1 x2
    refine gn_cut ?_
    dsimp only
    refine ⟨_, rfl, by decide, by decide, fun D hD => ?_⟩
    have nDb := hb2.ne hD
    refine lc_range (n := 2) (fun j H' => Box H' b (100000 * j) ∧ SqL K H' a (ns.map V.int) ∧ LamX.Tabs T0 H' ∧ SqT K H' lo [] ∧ H' D = some (.lst ((List.replicate j true).map V.bl))) ⟨(hb2.new hD).le (by omega), sqL_same hs2 (upd0 hD), hT2.ext (upd0 hD), sqT_same hlo2 (upd0 hD), upd_same⟩ (fun j H3 hj ⟨hb3, hs3, hT3, hlo3, d3⟩ => ?_) fun H3 ⟨hb3, hs3, hT3, hlo3, d3⟩ => ?_
    · refine ⟨rfl, _, rfl, b, _, rfl, hb3, by omega, hT3, hlo3, fun H4 hb4 t4 f4 => ?_⟩
      have d4 := f4 _ _ d3 nDb (by intro _ z; cases z)
      have fD : Fr (only D) H4 (upd H4 D (.lst ((List.replicate j true).map V.bl ++ [.bl true]))) := (Fr.refl _ _).put d4 rfl (.inl rfl)
      refine ⟨_, d4, ?_, (hb4.fr fD fun z => nDb z.symm).le (by omega), SqL.put (SqL.frB hs3 hc f4) (sql_cases hs2 hD), fun p hp => TabS.fr (t4 p hp) fD fun ps h z => ?_, SqT.fr (SqT.frB hb3 f4 hlo3) fD, ?_⟩
      · rw [List.length_map, List.length_replicate]
        exact Nat.lt_of_lt_of_le hj (by decide)
      · rw [show p.1 = D from z, d4] at h
        cases h
      · rw [upd_same, List.replicate_succ', List.map_append]
        rfl
    · refine ⟨D, _, rfl, SqL.of d3, _, rfl, ?_⟩
      exact ifF rfl ⟨_, _, rfl, hs3, hT3, hlo3⟩
  · rintro σ H1 ⟨v1, v2, rfl, hs1, hT1, hlo1⟩
    exact k _
end

end L2.K13
set_option Elab.async false
set_option linter.all false
set_option maxRecDepth 100000
set_option maxHeartbeats 0
namespace L2.K13
open PySem PySem.Spec PyProof.Rows L2

def d_span_of : He.DefD := ⟨("span_of", none), "span_of", "span_of", defArgs s_span_of, defBody s_span_of, defScope s_span_of, [], []⟩
def d_as_tuples : He.DefD := ⟨("as_tuples", none), "as_tuples", "as_tuples", defArgs s_as_tuples, defBody s_as_tuples, defScope s_as_tuples, [], []⟩
def d_count_of : He.DefD := ⟨("count_of", none), "count_of", "count_of", defArgs s_count_of, defBody s_count_of, defScope s_count_of, [], []⟩
def dSpot_init : He.DefD := ⟨("Spot", some "__init__"), "__init__", "Spot.__init__", defArgs sSpot_init, defBody sSpot_init, defScope sSpot_init, [], []⟩
def dSpot_waits : He.DefD := ⟨("Spot", some "waits"), "waits", "Spot.waits", defArgs sSpot_waits, defBody sSpot_waits, defScope sSpot_waits, [], []⟩
def dShelf_init : He.DefD := ⟨("Shelf", some "__init__"), "__init__", "Shelf.__init__", defArgs sShelf_init, defBody sShelf_init, defScope sShelf_init, [.non], []⟩
def dShelf_least : He.DefD := ⟨("Shelf", some "least"), "least", "Shelf.least", defArgs sShelf_least, defBody sShelf_least, defScope sShelf_least, [], []⟩
def dShelf_waiting : He.DefD := ⟨("Shelf", some "waiting"), "waiting", "Shelf.waiting", defArgs sShelf_waiting, defBody sShelf_waiting, defScope sShelf_waiting, [], []⟩
def dShelf_show : He.DefD := ⟨("Shelf", some "show"), "show", "Shelf.show", defArgs sShelf_show, defBody sShelf_show, defScope sShelf_show, [], []⟩
def dShelf_presses : He.DefD := ⟨("Shelf", some "presses"), "presses", "Shelf.presses", defArgs sShelf_presses, defBody sShelf_presses, defScope sShelf_presses, [], []⟩
def dShelf_show_all : He.DefD := ⟨("Shelf", some "show_all"), "show_all", "Shelf.show_all", defArgs sShelf_show_all, defBody sShelf_show_all, defScope sShelf_show_all, [], []⟩
def dShelf_over : He.DefD := ⟨("Shelf", some "over"), "over", "Shelf.over", defArgs sShelf_over, defBody sShelf_over, defScope sShelf_over, [], []⟩
def dShelf_long_named : He.DefD := ⟨("Shelf", some "long_named"), "long_named", "Shelf.long_named", defArgs sShelf_long_named, defBody sShelf_long_named, defScope sShelf_long_named, [], []⟩
def dShelf_short_named : He.DefD := ⟨("Shelf", some "short_named"), "short_named", "Shelf.short_named", defArgs sShelf_short_named, defBody sShelf_short_named, defScope sShelf_short_named, [], []⟩
def dShelf_mark_by : He.DefD := ⟨("Shelf", some "mark_by"), "mark_by", "Shelf.mark_by", defArgs sShelf_mark_by, defBody sShelf_mark_by, defScope sShelf_mark_by, [], []⟩
def dShelf_clear : He.DefD := ⟨("Shelf", some "clear"), "clear", "Shelf.clear", defArgs sShelf_clear, defBody sShelf_clear, defScope sShelf_clear, [], []⟩
def dShelf_make_room : He.DefD := ⟨("Shelf", some "make_room"), "make_room", "Shelf.make_room", defArgs sShelf_make_room, defBody sShelf_make_room, defScope sShelf_make_room, [], []⟩
def dShelf_put : He.DefD := ⟨("Shelf", some "put"), "put", "Shelf.put", defArgs sShelf_put, defBody sShelf_put, defScope sShelf_put, [], []⟩
def dShelf_is_left_out : He.DefD := ⟨("Shelf", some "is_left_out"), "is_left_out", "Shelf.is_left_out", defArgs sShelf_is_left_out, defBody sShelf_is_left_out, defScope sShelf_is_left_out, [], []⟩
def dShelf_take : He.DefD := ⟨("Shelf", some "take"), "take", "Shelf.take", defArgs sShelf_take, defBody sShelf_take, defScope sShelf_take, [], []⟩
def d_look_for_entry : He.DefD := ⟨("look_for_entry", none), "look_for_entry", "look_for_entry", defArgs s_look_for_entry, defBody s_look_for_entry, defScope s_look_for_entry, [], []⟩
def d_run : He.DefD := ⟨("run", none), "run", "run", defArgs s_run, defBody s_run, defScope s_run, [.non, .int 0, .adr (He.dflAt ("run", none) 2)], []⟩
def d_cell_at : He.DefD := ⟨("_law_cell_at", none), "_law_cell_at", "_law_cell_at", defArgs s_cell_at, defBody s_cell_at, defScope s_cell_at, [], []⟩
def d_box : He.DefD := ⟨("_law_box", none), "_law_box", "_law_box", defArgs s_box, defBody s_box, defScope s_box, [], []⟩
def d_take : He.DefD := ⟨("_law_take", none), "_law_take", "_law_take", defArgs s_take, defBody s_take, defScope s_take, [], []⟩
def d_of : He.DefD := ⟨("_law_of", none), "_law_of", "_law_of", defArgs s_of, defBody s_of, defScope s_of, [], []⟩
def d_same : He.DefD := ⟨("_law_same", none), "_law_same", "_law_same", defArgs s_same, defBody s_same, defScope s_same, [], []⟩
def d_span : He.DefD := ⟨("_law_span", none), "_law_span", "_law_span", defArgs s_span, defBody s_span, defScope s_span, [], []⟩
def d_near : He.DefD := ⟨("_law_near", none), "_law_near", "_law_near", defArgs s_near, defBody s_near, defScope s_near, [], []⟩
def d_kernel : He.DefD := ⟨("_law_kernel", none), "_law_kernel", "_law_kernel", defArgs s_kernel, defBody s_kernel, defScope s_kernel, [], []⟩
def d_presses : He.DefD := ⟨("_law_presses", none), "_law_presses", "_law_presses", defArgs s_presses, defBody s_presses, defScope s_presses, [], []⟩
def d_show : He.DefD := ⟨("_law_show", none), "_law_show", "_law_show", defArgs s_show, defBody s_show, defScope s_show, [], []⟩
def d_first : He.DefD := ⟨("_law_first", none), "_law_first", "_law_first", defArgs s_first, defBody s_first, defScope s_first, [], []⟩
def d_waiting : He.DefD := ⟨("_law_waiting", none), "_law_waiting", "_law_waiting", defArgs s_waiting, defBody s_waiting, defScope s_waiting, [], []⟩
def d_named : He.DefD := ⟨("_law_named", none), "_law_named", "_law_named", defArgs s_named, defBody s_named, defScope s_named, [], []⟩
def d_marked : He.DefD := ⟨("_law_marked", none), "_law_marked", "_law_marked", defArgs s_marked, defBody s_marked, defScope s_marked, [], []⟩
def d_cleared : He.DefD := ⟨("_law_cleared", none), "_law_cleared", "_law_cleared", defArgs s_cleared, defBody s_cleared, defScope s_cleared, [], []⟩
def d_roomed : He.DefD := ⟨("_law_roomed", none), "_law_roomed", "_law_roomed", defArgs s_roomed, defBody s_roomed, defScope s_roomed, [], []⟩
def d_took : He.DefD := ⟨("_law_took", none), "_law_took", "_law_took", defArgs s_took, defBody s_took, defScope s_took, [], []⟩
def d_some_setup : He.DefD := ⟨("_law_some_setup", none), "_law_some_setup", "_law_some_setup", defArgs s_some_setup, defBody s_some_setup, defScope s_some_setup, [], []⟩
def d_some_names : He.DefD := ⟨("_law_some_names", none), "_law_some_names", "_law_some_names", defArgs s_some_names, defBody s_some_names, defScope s_some_names, [], []⟩
def d_some_picture : He.DefD := ⟨("_law_some_picture", none), "_law_some_picture", "_law_some_picture", defArgs s_some_picture, defBody s_some_picture, defScope s_some_picture, [], []⟩
def d_some_stream : He.DefD := ⟨("_law_some_stream", none), "_law_some_stream", "_law_some_stream", defArgs s_some_stream, defBody s_some_stream, defScope s_some_stream, [], []⟩
def d_may_name : He.DefD := ⟨("_law_may_name", none), "_law_may_name", "_law_may_name", defArgs s_may_name, defBody s_may_name, defScope s_may_name, [], []⟩
def d_may_use : He.DefD := ⟨("_law_may_use", none), "_law_may_use", "_law_may_use", defArgs s_may_use, defBody s_may_use, defScope s_may_use, [], []⟩
def d_chosen : He.DefD := ⟨("_law_chosen", none), "_law_chosen", "_law_chosen", defArgs s_chosen, defBody s_chosen, defScope s_chosen, [], []⟩
def d_added : He.DefD := ⟨("_law_added", none), "_law_added", "_law_added", defArgs s_added, defBody s_added, defScope s_added, [], []⟩
def d_group : He.DefD := ⟨("_law_group", none), "_law_group", "_law_group", defArgs s_group, defBody s_group, defScope s_group, [], []⟩
def d_parts : He.DefD := ⟨("_law_parts", none), "_law_parts", "_law_parts", defArgs s_parts, defBody s_parts, defScope s_parts, [], []⟩
def d_least : He.DefD := ⟨("_law_least", none), "_law_least", "_law_least", defArgs s_least, defBody s_least, defScope s_least, [], []⟩
def d_sound : He.DefD := ⟨("_law_sound", none), "_law_sound", "_law_sound", defArgs s_sound, defBody s_sound, defScope s_sound, [], []⟩
def d_second : He.DefD := ⟨("_law_second", none), "_law_second", "_law_second", defArgs s_second, defBody s_second, defScope s_second, [], []⟩
def d_right : He.DefD := ⟨("_law_right", none), "_law_right", "_law_right", defArgs s_right, defBody s_right, defScope s_right, [], []⟩
def d_law : He.DefD := ⟨("law", none), "law", "law", defArgs s_law, defBody s_law, defScope s_law, [], []⟩
def fn : List He.DefD := [d_span_of, d_as_tuples, d_count_of, dSpot_init, dSpot_waits, dShelf_init, dShelf_least, dShelf_waiting, dShelf_show, dShelf_presses, dShelf_show_all, dShelf_over, dShelf_long_named, dShelf_short_named, dShelf_mark_by, dShelf_clear, dShelf_make_room, dShelf_put, dShelf_is_left_out, dShelf_take, d_look_for_entry, d_run, d_cell_at, d_box, d_take, d_of, d_same, d_span, d_near, d_kernel, d_presses, d_show, d_first, d_waiting, d_named, d_marked, d_cleared, d_roomed, d_took, d_some_setup, d_some_names, d_some_picture, d_some_stream, d_may_name, d_may_use, d_chosen, d_added, d_group, d_parts, d_least, d_sound, d_second, d_right, d_law]
def fa : List He.Fa := [.glo "ENTRIES", .glo "LEADING", .glo "END", .glo "span_of", .glo "as_tuples", .glo "count_of", .glo "Spot", .glo "Shelf", .glo "look_for_entry", .glo "run", .glo "_law_cell_at", .glo "_law_box", .glo "_law_take", .glo "_law_of", .glo "_law_same", .glo "_law_span", .glo "_law_near", .glo "_law_kernel", .glo "_law_presses", .glo "_law_show", .glo "_law_first", .glo "_law_waiting", .glo "_law_named", .glo "_law_marked", .glo "_law_cleared", .glo "_law_roomed", .glo "_law_took", .glo "_law_some_setup", .glo "_law_some_names", .glo "_law_some_picture", .glo "_law_some_stream", .glo "_law_may_name", .glo "_law_may_use", .glo "_law_chosen", .glo "_law_added", .glo "_law_group", .glo "_law_parts", .glo "_law_least", .glo "_law_sound", .glo "_law_second", .glo "_law_right", .str "SHORT" "short", .str "LONG" "long", .str "BARE" "", .free "range", .free "isinstance", .free "tuple", .free "len", .free "min", .free "max", .free "sorted", .free "any", .free "all", .free "zip", .free "enumerate", .free "abs", .free "int", .free "set", .free "list", .free "str", .free "bool", .cls "Spot", .mkr "Spot", .noat "Spot" "count", .noat "Spot" "place", .noat "Spot" "mark", .noat "Spot" "waited", .cls "Shelf", .mkr "Shelf", .noat "Shelf" "top", .noat "Shelf" "span", .noat "Shelf" "size", .noat "Shelf" "reorder", .noat "Shelf" "wait", .noat "Shelf" "spots", .noat "Shelf" "base", .noat "Shelf" "is_anew", .noat "Shelf" "must_enter", .meth "Spot" "waits", .meth "Shelf" "least", .meth "Shelf" "waiting", .meth "Shelf" "show", .meth "Shelf" "presses", .meth "Shelf" "show_all", .meth "Shelf" "over", .meth "Shelf" "long_named", .meth "Shelf" "short_named", .meth "Shelf" "mark_by", .meth "Shelf" "clear", .meth "Shelf" "make_room", .meth "Shelf" "put", .meth "Shelf" "is_left_out", .meth "Shelf" "take", .keep "span_of", .keep "as_tuples", .keep "count_of", .keep "look_for_entry", .keep "run", .keep "_law_cell_at", .keep "_law_box", .keep "_law_take", .keep "_law_of", .keep "_law_same", .keep "_law_span", .keep "_law_near", .keep "_law_kernel", .keep "_law_presses", .keep "_law_show", .keep "_law_first", .keep "_law_waiting", .keep "_law_named", .keep "_law_marked", .keep "_law_cleared", .keep "_law_roomed", .keep "_law_took", .keep "_law_some_setup", .keep "_law_some_names", .keep "_law_some_picture", .keep "_law_some_stream", .keep "_law_may_name", .keep "_law_may_use", .keep "_law_chosen", .keep "_law_added", .keep "_law_group", .keep "_law_parts", .keep "_law_least", .keep "_law_sound", .keep "_law_second", .keep "_law_right", .keep "law", .glo "law"]
abbrev R : PySem.W.OpenRow := PySem.W.OpenLaw.row PySem.Challenge.rw_shownlater_k13_whole_one_behind_another
def tf : List He.Defn := [("Shelf", some "least"), ("Shelf", some "long_named")]
/-- the tuples of the top, the empty default -/
def ex (K : PySem.W.Frag) : Bool := He.tupB K "ENTRIES" [.str "clean", .str "open"] && (He.tupB K "LEADING" [.str "skip", .str "lead"] && (He.tupB K "END" [.str "end"] &&
  (match K.lookup (He.dflAt ("run", none) 2 K) with
   | some ⟨.type c, _, .seq its _, _⟩ => decide (c = "tuple") && its.isEmpty
   | _ => false) && (!decide ((He.cT K ("Shelf", some "least")).2 = (He.cT K ("Shelf", some "long_named")).2) && (decide (PySem.W.mroIn K (He.ga K "Spot") (.type "object") = some true) &&
  (He.eqO (PySem.W.findIn K (.ref (He.ga K "Spot")) "__eq__") (some (some (.builtin "object.__eq__"))) && decide (PySem.W.subIn K (.ref (He.ga K "Spot")) (.type "NoneType") = some false))))))
abbrev hk : PySem.W.Hook := He.hookX 6 fa fn [] tf ex
def ob (s : PySem.W.SharedT) : He.AlX := He.obsX 6 fa fn [] tf ex (HandSHeadRun.getT s)
theorem ob_eq (s : PySem.W.SharedT) : ob s = hk.obs s.abs := He.obsX_eq (HandSHeadRun.getT_eq s)

def names1 : List PySem.Str := ["ENTRIES", "LEADING", "END", "span_of", "NoEntry", "SHORT", "LONG", "BARE", "as_tuples", "count_of", "Spot", "Shelf", "look_for_entry", "run", "_law_cell_at", "_law_box", "_law_take", "_law_of", "_law_same", "_law_span", "_law_near", "_law_kernel", "_law_presses", "_law_show"]
def names2 : List PySem.Str := ["_law_first", "_law_waiting", "_law_named", "_law_marked", "_law_cleared", "_law_roomed", "_law_took", "_law_some_setup", "_law_some_names", "_law_some_picture", "_law_some_stream", "_law_may_name", "_law_may_use", "_law_chosen", "_law_added", "_law_group", "_law_parts", "_law_least", "_law_sound", "_law_second", "_law_right"]
def names : List PySem.Str := names1 ++ names2
theorem run (w : World) : HandSHeadRun.RunEq R (PySem.W.view R.prog [50]) hk ob 4000 names w := by
  intro os
  kernel_rfl
end L2.K13
set_option Elab.async false
set_option linter.all false
set_option maxRecDepth 100000
set_option maxHeartbeats 4000000
namespace L2.K13
open PySem PySem.Spec PyProof.Rows L2
theorem funD_fun {K : PySem.W.Frag} {x qual : Str} {st : Stmt} {f : Addr} {fd : FuncData} (F : FunD K x qual (defArgs st) (defBody st) (defScope st) [] [] f fd) : Fun K x qual st f fd := by
  obtain ⟨oc, od, dV, kV, doc, pm, an, cdv, ct, osl, rfl, lk, hc, hD, hK⟩ := F.ex
  rcases hD with ⟨_, rfl⟩ | ⟨e, _⟩
  · exact ⟨⟨oc, od, kV, doc, pm, an, cdv, ct, osl, rfl, lk, hc⟩, F.kp⟩
  · exact absurd rfl e
section
variable {w : World} {K : PySem.W.Frag} {h : Heap} {mg : Str → Option Value}
theorem fx_of (X : K.In h) (G : h.Ns mainGlobals mg) (c : He.SaysX fa fn [] tf ex w h K) : Fx K mg := by
  have D := c.t.d
  have e := c.more
  unfold ex at e
  obtain ⟨e1, e⟩ := He.ba e
  obtain ⟨e2, e⟩ := He.ba e
  obtain ⟨e3, e⟩ := He.ba e
  obtain ⟨e3, e4⟩ := He.ba e3
  obtain ⟨e5, e⟩ := He.ba e
  obtain ⟨e6, e⟩ := He.ba e
  obtain ⟨e7, e8⟩ := He.ba e
  exact {
    n_range := He.free_ok X G (D.fact 44 (f := .free "range") rfl)
    n_isinstance := He.free_ok X G (D.fact 45 (f := .free "isinstance") rfl)
    n_tuple := He.free_ok X G (D.fact 46 (f := .free "tuple") rfl)
    n_len := He.free_ok X G (D.fact 47 (f := .free "len") rfl)
    n_min := He.free_ok X G (D.fact 48 (f := .free "min") rfl)
    n_max := He.free_ok X G (D.fact 49 (f := .free "max") rfl)
    n_sorted := He.free_ok X G (D.fact 50 (f := .free "sorted") rfl)
    n_any := He.free_ok X G (D.fact 51 (f := .free "any") rfl)
    n_all := He.free_ok X G (D.fact 52 (f := .free "all") rfl)
    n_zip := He.free_ok X G (D.fact 53 (f := .free "zip") rfl)
    n_enumerate := He.free_ok X G (D.fact 54 (f := .free "enumerate") rfl)
    n_abs := He.free_ok X G (D.fact 55 (f := .free "abs") rfl)
    n_int := He.free_ok X G (D.fact 56 (f := .free "int") rfl)
    n_set := He.free_ok X G (D.fact 57 (f := .free "set") rfl)
    n_list := He.free_ok X G (D.fact 58 (f := .free "list") rfl)
    n_str := He.free_ok X G (D.fact 59 (f := .free "str") rfl)
    n_bool := He.free_ok X G (D.fact 60 (f := .free "bool") rfl)
    g_SHORT := (He.str_ok X G (D.fact 41 (f := .str "SHORT" "short") rfl)).elim fun t e => ⟨_, e, t, rfl⟩
    g_LONG := (He.str_ok X G (D.fact 42 (f := .str "LONG" "long") rfl)).elim fun t e => ⟨_, e, t, rfl⟩
    g_BARE := (He.str_ok X G (D.fact 43 (f := .str "BARE" "") rfl)).elim fun t e => ⟨_, e, t, rfl⟩
    g_ENTRIES := ⟨_, He.glo_ok X G (D.fact 0 (f := .glo "ENTRIES") rfl), rfl⟩
    q_ENTRIES := fun H => He.tupB_ok e1 H
    g_LEADING := ⟨_, He.glo_ok X G (D.fact 1 (f := .glo "LEADING") rfl), rfl⟩
    q_LEADING := fun H => He.tupB_ok e2 H
    g_END := ⟨_, He.glo_ok X G (D.fact 2 (f := .glo "END") rfl), rfl⟩
    q_END := fun H => He.tupB_ok e3 H
    cSpot := He.cls_ok (D.fact 61 (f := .cls "Spot") rfl)
    kSpot := He.glo_ok X G (D.fact 6 (f := .glo "Spot") rfl)
    aSpot_count := He.noat_ok (D.fact 63 (f := .noat "Spot" "count") rfl)
    aSpot_place := He.noat_ok (D.fact 64 (f := .noat "Spot" "place") rfl)
    aSpot_mark := He.noat_ok (D.fact 65 (f := .noat "Spot" "mark") rfl)
    aSpot_waited := He.noat_ok (D.fact 66 (f := .noat "Spot" "waited") rfl)
    cShelf := He.cls_ok (D.fact 67 (f := .cls "Shelf") rfl)
    kShelf := He.glo_ok X G (D.fact 7 (f := .glo "Shelf") rfl)
    aShelf_top := He.noat_ok (D.fact 69 (f := .noat "Shelf" "top") rfl)
    aShelf_span := He.noat_ok (D.fact 70 (f := .noat "Shelf" "span") rfl)
    aShelf_size := He.noat_ok (D.fact 71 (f := .noat "Shelf" "size") rfl)
    aShelf_reorder := He.noat_ok (D.fact 72 (f := .noat "Shelf" "reorder") rfl)
    aShelf_wait := He.noat_ok (D.fact 73 (f := .noat "Shelf" "wait") rfl)
    aShelf_spots := He.noat_ok (D.fact 74 (f := .noat "Shelf" "spots") rfl)
    aShelf_base := He.noat_ok (D.fact 75 (f := .noat "Shelf" "base") rfl)
    aShelf_is_anew := He.noat_ok (D.fact 76 (f := .noat "Shelf" "is_anew") rfl)
    aShelf_must_enter := He.noat_ok (D.fact 77 (f := .noat "Shelf" "must_enter") rfl)
    eqS := ⟨of_decide_eq_true e6, He.eqO_ok e7, of_decide_eq_true e8⟩ }
theorem f_span_of (X : K.In h) (G : h.Ns mainGlobals mg) (D : He.SaysD fa fn K) : DF K mg "span_of" s_span_of ["setup"] := by
  obtain ⟨fd, F⟩ := D.def_ 0 (d := d_span_of) rfl
  exact ⟨_, fd, funD_fun F, He.glo_ok X G (D.fact 3 (f := .glo "span_of") rfl), F.kp, F.bindsN fun _ _ _ _ _ _ us hl => match us, hl with | [_], _ => by kernel_rfl⟩
theorem f_as_tuples (X : K.In h) (G : h.Ns mainGlobals mg) (D : He.SaysD fa fn K) : DF K mg "as_tuples" s_as_tuples ["thing"] := by
  obtain ⟨fd, F⟩ := D.def_ 1 (d := d_as_tuples) rfl
  exact ⟨_, fd, funD_fun F, He.glo_ok X G (D.fact 4 (f := .glo "as_tuples") rfl), F.kp, F.bindsN fun _ _ _ _ _ _ us hl => match us, hl with | [_], _ => by kernel_rfl⟩
theorem f_count_of (X : K.In h) (G : h.Ns mainGlobals mg) (D : He.SaysD fa fn K) : DF K mg "count_of" s_count_of ["span", "low", "base"] := by
  obtain ⟨fd, F⟩ := D.def_ 2 (d := d_count_of) rfl
  exact ⟨_, fd, funD_fun F, He.glo_ok X G (D.fact 5 (f := .glo "count_of") rfl), F.kp, F.bindsN fun _ _ _ _ _ _ us hl => match us, hl with | [_, _, _], _ => by kernel_rfl⟩
theorem fSpot_init (D : He.SaysD fa fn K) : IF K (He.ga K "Spot") "Spot.__init__" sSpot_init ["self", "count", "place", "mark", "waited"] [] := by
  obtain ⟨fd, F⟩ := D.def_ 3 (d := dSpot_init) rfl
  exact ⟨_, fd, [], _, He.mkr_ok (D.fact 62 (f := .mkr "Spot") rfl), F, F.bindsN fun _ _ _ _ _ _ us hl => match us, hl with | [_, _, _, _, _], _ => by kernel_rfl, .nil⟩
theorem fSpot_waits (D : He.SaysD fa fn K) : MF K (He.ga K "Spot") "waits" "Spot.waits" sSpot_waits ["self"] := by
  obtain ⟨fd, F⟩ := D.def_ 4 (d := dSpot_waits) rfl
  exact ⟨_, fd, He.meth_ok (D.fact 78 (f := .meth "Spot" "waits") rfl), funD_fun F, F.bindsN fun _ _ _ _ _ _ us hl => match us, hl with | [_], _ => by kernel_rfl⟩
theorem fShelf_init (D : He.SaysD fa fn K) : IF K (He.ga K "Shelf") "Shelf.__init__" sShelf_init ["self", "setup", "top"] [] := by
  obtain ⟨fd, F⟩ := D.def_ 5 (d := dShelf_init) rfl
  obtain ⟨ds, v, b⟩ := F.binds1 (ps := ["self", "setup", "top"]) 3 1 (by intro z; cases z) rfl fun T kV doc pm an cdv ct us its hl hi => match us, its, hl, hi with | [_, _, _], [_], _, _ => ⟨_, rfl, by kernel_rfl⟩
  exact ⟨_, fd, ds, _, He.mkr_ok (D.fact 68 (f := .mkr "Shelf") rfl), F, b, v⟩
theorem fShelf_least (D : He.SaysD fa fn K) : MT K (He.ga K "Shelf") "least" "Shelf.least" sShelf_least ["self", "spots"] (He.codeOf K ("Shelf", some "least")) := by
  obtain ⟨fd, F⟩ := D.def_ 6 (d := dShelf_least) rfl
  have b := F.bindsN (ps := ["self", "spots"]) fun _ _ _ _ _ _ us hl => match us, hl with | [_, _], _ => by kernel_rfl
  obtain ⟨oc, od, dV, kV, doc, pm, an, cdv, ct, osl, rfl, lk, hc, hD, hK⟩ := F.ex
  rcases hD with ⟨_, rfl⟩ | ⟨e, _⟩
  · obtain ⟨cc, rfl⟩ := He.codeIn_ref hc
    have e : He.codeOf K ("Shelf", some "least") = cc := He.codeOf_eq lk rfl
    rw [e]
    exact ⟨_, oc, od, kV, doc, pm, an, ct, osl, He.meth_ok (D.fact 79 (f := .meth "Shelf" "least") rfl), lk, hc, b⟩
  · exact absurd rfl e
theorem fShelf_waiting (D : He.SaysD fa fn K) : MF K (He.ga K "Shelf") "waiting" "Shelf.waiting" sShelf_waiting ["self"] := by
  obtain ⟨fd, F⟩ := D.def_ 7 (d := dShelf_waiting) rfl
  exact ⟨_, fd, He.meth_ok (D.fact 80 (f := .meth "Shelf" "waiting") rfl), funD_fun F, F.bindsN fun _ _ _ _ _ _ us hl => match us, hl with | [_], _ => by kernel_rfl⟩
theorem fShelf_show (D : He.SaysD fa fn K) : MF K (He.ga K "Shelf") "show" "Shelf.show" sShelf_show ["self", "spot"] := by
  obtain ⟨fd, F⟩ := D.def_ 8 (d := dShelf_show) rfl
  exact ⟨_, fd, He.meth_ok (D.fact 81 (f := .meth "Shelf" "show") rfl), funD_fun F, F.bindsN fun _ _ _ _ _ _ us hl => match us, hl with | [_, _], _ => by kernel_rfl⟩
theorem fShelf_presses (D : He.SaysD fa fn K) : MF K (He.ga K "Shelf") "presses" "Shelf.presses" sShelf_presses ["self"] := by
  obtain ⟨fd, F⟩ := D.def_ 9 (d := dShelf_presses) rfl
  exact ⟨_, fd, He.meth_ok (D.fact 82 (f := .meth "Shelf" "presses") rfl), funD_fun F, F.bindsN fun _ _ _ _ _ _ us hl => match us, hl with | [_], _ => by kernel_rfl⟩
theorem fShelf_show_all (D : He.SaysD fa fn K) : MF K (He.ga K "Shelf") "show_all" "Shelf.show_all" sShelf_show_all ["self"] := by
  obtain ⟨fd, F⟩ := D.def_ 10 (d := dShelf_show_all) rfl
  exact ⟨_, fd, He.meth_ok (D.fact 83 (f := .meth "Shelf" "show_all") rfl), funD_fun F, F.bindsN fun _ _ _ _ _ _ us hl => match us, hl with | [_], _ => by kernel_rfl⟩
theorem fShelf_over (D : He.SaysD fa fn K) : MF K (He.ga K "Shelf") "over" "Shelf.over" sShelf_over ["self"] := by
  obtain ⟨fd, F⟩ := D.def_ 11 (d := dShelf_over) rfl
  exact ⟨_, fd, He.meth_ok (D.fact 84 (f := .meth "Shelf" "over") rfl), funD_fun F, F.bindsN fun _ _ _ _ _ _ us hl => match us, hl with | [_], _ => by kernel_rfl⟩
theorem fShelf_long_named (D : He.SaysD fa fn K) : MT K (He.ga K "Shelf") "long_named" "Shelf.long_named" sShelf_long_named ["self", "name", "count"] (He.codeOf K ("Shelf", some "long_named")) := by
  obtain ⟨fd, F⟩ := D.def_ 12 (d := dShelf_long_named) rfl
  have b := F.bindsN (ps := ["self", "name", "count"]) fun _ _ _ _ _ _ us hl => match us, hl with | [_, _, _], _ => by kernel_rfl
  obtain ⟨oc, od, dV, kV, doc, pm, an, cdv, ct, osl, rfl, lk, hc, hD, hK⟩ := F.ex
  rcases hD with ⟨_, rfl⟩ | ⟨e, _⟩
  · obtain ⟨cc, rfl⟩ := He.codeIn_ref hc
    have e : He.codeOf K ("Shelf", some "long_named") = cc := He.codeOf_eq lk rfl
    rw [e]
    exact ⟨_, oc, od, kV, doc, pm, an, ct, osl, He.meth_ok (D.fact 85 (f := .meth "Shelf" "long_named") rfl), lk, hc, b⟩
  · exact absurd rfl e
theorem fShelf_short_named (D : He.SaysD fa fn K) : MF K (He.ga K "Shelf") "short_named" "Shelf.short_named" sShelf_short_named ["self", "name", "count", "taken"] := by
  obtain ⟨fd, F⟩ := D.def_ 13 (d := dShelf_short_named) rfl
  exact ⟨_, fd, He.meth_ok (D.fact 86 (f := .meth "Shelf" "short_named") rfl), funD_fun F, F.bindsN fun _ _ _ _ _ _ us hl => match us, hl with | [_, _, _, _], _ => by kernel_rfl⟩
theorem fShelf_mark_by (D : He.SaysD fa fn K) : MF K (He.ga K "Shelf") "mark_by" "Shelf.mark_by" sShelf_mark_by ["self", "picture", "count"] := by
  obtain ⟨fd, F⟩ := D.def_ 14 (d := dShelf_mark_by) rfl
  exact ⟨_, fd, He.meth_ok (D.fact 87 (f := .meth "Shelf" "mark_by") rfl), funD_fun F, F.bindsN fun _ _ _ _ _ _ us hl => match us, hl with | [_, _, _], _ => by kernel_rfl⟩
theorem fShelf_clear (D : He.SaysD fa fn K) : MF K (He.ga K "Shelf") "clear" "Shelf.clear" sShelf_clear ["self", "hush"] := by
  obtain ⟨fd, F⟩ := D.def_ 15 (d := dShelf_clear) rfl
  exact ⟨_, fd, He.meth_ok (D.fact 88 (f := .meth "Shelf" "clear") rfl), funD_fun F, F.bindsN fun _ _ _ _ _ _ us hl => match us, hl with | [_, _], _ => by kernel_rfl⟩
theorem fShelf_make_room (D : He.SaysD fa fn K) : MF K (He.ga K "Shelf") "make_room" "Shelf.make_room" sShelf_make_room ["self"] := by
  obtain ⟨fd, F⟩ := D.def_ 16 (d := dShelf_make_room) rfl
  exact ⟨_, fd, He.meth_ok (D.fact 89 (f := .meth "Shelf" "make_room") rfl), funD_fun F, F.bindsN fun _ _ _ _ _ _ us hl => match us, hl with | [_], _ => by kernel_rfl⟩
theorem fShelf_put (D : He.SaysD fa fn K) : MF K (He.ga K "Shelf") "put" "Shelf.put" sShelf_put ["self", "place", "count", "shown"] := by
  obtain ⟨fd, F⟩ := D.def_ 17 (d := dShelf_put) rfl
  exact ⟨_, fd, He.meth_ok (D.fact 90 (f := .meth "Shelf" "put") rfl), funD_fun F, F.bindsN fun _ _ _ _ _ _ us hl => match us, hl with | [_, _, _, _], _ => by kernel_rfl⟩
theorem fShelf_is_left_out (D : He.SaysD fa fn K) : MF K (He.ga K "Shelf") "is_left_out" "Shelf.is_left_out" sShelf_is_left_out ["self", "picture"] := by
  obtain ⟨fd, F⟩ := D.def_ 18 (d := dShelf_is_left_out) rfl
  exact ⟨_, fd, He.meth_ok (D.fact 91 (f := .meth "Shelf" "is_left_out") rfl), funD_fun F, F.bindsN fun _ _ _ _ _ _ us hl => match us, hl with | [_, _], _ => by kernel_rfl⟩
theorem fShelf_take (D : He.SaysD fa fn K) : MF K (He.ga K "Shelf") "take" "Shelf.take" sShelf_take ["self", "place", "thing"] := by
  obtain ⟨fd, F⟩ := D.def_ 19 (d := dShelf_take) rfl
  exact ⟨_, fd, He.meth_ok (D.fact 92 (f := .meth "Shelf" "take") rfl), funD_fun F, F.bindsN fun _ _ _ _ _ _ us hl => match us, hl with | [_, _, _], _ => by kernel_rfl⟩
theorem f_look_for_entry (X : K.In h) (G : h.Ns mainGlobals mg) (D : He.SaysD fa fn K) : DF K mg "look_for_entry" s_look_for_entry ["stream", "start"] := by
  obtain ⟨fd, F⟩ := D.def_ 20 (d := d_look_for_entry) rfl
  exact ⟨_, fd, funD_fun F, He.glo_ok X G (D.fact 8 (f := .glo "look_for_entry") rfl), F.kp, F.bindsN fun _ _ _ _ _ _ us hl => match us, hl with | [_, _], _ => by kernel_rfl⟩
theorem f_run (X : K.In h) (G : h.Ns mainGlobals mg) (D : He.SaysD fa fn K) : DD K mg "run" s_run ["setup", "stream", "top", "start", "lost"] [.int 0, .ref (He.dflAt ("run", none) 2 K)] := by
  obtain ⟨fd, F⟩ := D.def_ 21 (d := d_run) rfl
  obtain ⟨ds, v, b⟩ := F.binds1 (ps := ["setup", "stream", "top", "start", "lost"]) 3 1 (by intro z; cases z) rfl fun T kV doc pm an cdv ct us its hl hi => match us, its, hl, hi with | [_, _, _], [_, _, _], _, _ => ⟨_, rfl, by kernel_rfl⟩
  exact ⟨_, fd, ds, _, F, He.glo_ok X G (D.fact 9 (f := .glo "run") rfl), F.kp, b, v⟩
theorem f_cell_at (X : K.In h) (G : h.Ns mainGlobals mg) (D : He.SaysD fa fn K) : DF K mg "_law_cell_at" s_cell_at ["_law_script", "_law_k"] := by
  obtain ⟨fd, F⟩ := D.def_ 22 (d := d_cell_at) rfl
  exact ⟨_, fd, funD_fun F, He.glo_ok X G (D.fact 10 (f := .glo "_law_cell_at") rfl), F.kp, F.bindsN fun _ _ _ _ _ _ us hl => match us, hl with | [_, _], _ => by kernel_rfl⟩
theorem f_box (X : K.In h) (G : h.Ns mainGlobals mg) (D : He.SaysD fa fn K) : DF K mg "_law_box" s_box ["_law_script", "_law_k"] := by
  obtain ⟨fd, F⟩ := D.def_ 23 (d := d_box) rfl
  exact ⟨_, fd, funD_fun F, He.glo_ok X G (D.fact 11 (f := .glo "_law_box") rfl), F.kp, F.bindsN fun _ _ _ _ _ _ us hl => match us, hl with | [_, _], _ => by kernel_rfl⟩
theorem f_take (X : K.In h) (G : h.Ns mainGlobals mg) (D : He.SaysD fa fn K) : DF K mg "_law_take" s_take ["_law_box_here", "_law_below"] := by
  obtain ⟨fd, F⟩ := D.def_ 24 (d := d_take) rfl
  exact ⟨_, fd, funD_fun F, He.glo_ok X G (D.fact 12 (f := .glo "_law_take") rfl), F.kp, F.bindsN fun _ _ _ _ _ _ us hl => match us, hl with | [_, _], _ => by kernel_rfl⟩
theorem f_of (X : K.In h) (G : h.Ns mainGlobals mg) (D : He.SaysD fa fn K) : DF K mg "_law_of" s_of ["_law_box_here", "_law_some"] := by
  obtain ⟨fd, F⟩ := D.def_ 25 (d := d_of) rfl
  exact ⟨_, fd, funD_fun F, He.glo_ok X G (D.fact 13 (f := .glo "_law_of") rfl), F.kp, F.bindsN fun _ _ _ _ _ _ us hl => match us, hl with | [_, _], _ => by kernel_rfl⟩
theorem f_same (X : K.In h) (G : h.Ns mainGlobals mg) (D : He.SaysD fa fn K) : DF K mg "_law_same" s_same ["_law_found", "_law_due"] := by
  obtain ⟨fd, F⟩ := D.def_ 26 (d := d_same) rfl
  exact ⟨_, fd, funD_fun F, He.glo_ok X G (D.fact 14 (f := .glo "_law_same") rfl), F.kp, F.bindsN fun _ _ _ _ _ _ us hl => match us, hl with | [_, _], _ => by kernel_rfl⟩
theorem f_span (X : K.In h) (G : h.Ns mainGlobals mg) (D : He.SaysD fa fn K) : DF K mg "_law_span" s_span ["_law_setup_so"] := by
  obtain ⟨fd, F⟩ := D.def_ 27 (d := d_span) rfl
  exact ⟨_, fd, funD_fun F, He.glo_ok X G (D.fact 15 (f := .glo "_law_span") rfl), F.kp, F.bindsN fun _ _ _ _ _ _ us hl => match us, hl with | [_], _ => by kernel_rfl⟩
theorem f_near (X : K.In h) (G : h.Ns mainGlobals mg) (D : He.SaysD fa fn K) : DF K mg "_law_near" s_near ["_law_span_so", "_law_low_so", "_law_base_so"] := by
  obtain ⟨fd, F⟩ := D.def_ 28 (d := d_near) rfl
  exact ⟨_, fd, funD_fun F, He.glo_ok X G (D.fact 16 (f := .glo "_law_near") rfl), F.kp, F.bindsN fun _ _ _ _ _ _ us hl => match us, hl with | [_, _, _], _ => by kernel_rfl⟩
theorem f_kernel (X : K.In h) (G : h.Ns mainGlobals mg) (D : He.SaysD fa fn K) : DF K mg "_law_kernel" s_kernel ["_law_setup_so", "_law_top_so"] := by
  obtain ⟨fd, F⟩ := D.def_ 29 (d := d_kernel) rfl
  exact ⟨_, fd, funD_fun F, He.glo_ok X G (D.fact 17 (f := .glo "_law_kernel") rfl), F.kp, F.bindsN fun _ _ _ _ _ _ us hl => match us, hl with | [_, _], _ => by kernel_rfl⟩
theorem f_presses (X : K.In h) (G : h.Ns mainGlobals mg) (D : He.SaysD fa fn K) : DF K mg "_law_presses" s_presses ["_law_kernel_here"] := by
  obtain ⟨fd, F⟩ := D.def_ 30 (d := d_presses) rfl
  exact ⟨_, fd, funD_fun F, He.glo_ok X G (D.fact 18 (f := .glo "_law_presses") rfl), F.kp, F.bindsN fun _ _ _ _ _ _ us hl => match us, hl with | [_], _ => by kernel_rfl⟩
theorem f_show (X : K.In h) (G : h.Ns mainGlobals mg) (D : He.SaysD fa fn K) : DF K mg "_law_show" s_show ["_law_kernel_here", "_law_row"] := by
  obtain ⟨fd, F⟩ := D.def_ 31 (d := d_show) rfl
  exact ⟨_, fd, funD_fun F, He.glo_ok X G (D.fact 19 (f := .glo "_law_show") rfl), F.kp, F.bindsN fun _ _ _ _ _ _ us hl => match us, hl with | [_, _], _ => by kernel_rfl⟩
theorem f_first (X : K.In h) (G : h.Ns mainGlobals mg) (D : He.SaysD fa fn K) : DF K mg "_law_first" s_first ["_law_rows_so"] := by
  obtain ⟨fd, F⟩ := D.def_ 32 (d := d_first) rfl
  exact ⟨_, fd, funD_fun F, He.glo_ok X G (D.fact 20 (f := .glo "_law_first") rfl), F.kp, F.bindsN fun _ _ _ _ _ _ us hl => match us, hl with | [_], _ => by kernel_rfl⟩
theorem f_waiting (X : K.In h) (G : h.Ns mainGlobals mg) (D : He.SaysD fa fn K) : DF K mg "_law_waiting" s_waiting ["_law_kernel_here"] := by
  obtain ⟨fd, F⟩ := D.def_ 33 (d := d_waiting) rfl
  exact ⟨_, fd, funD_fun F, He.glo_ok X G (D.fact 21 (f := .glo "_law_waiting") rfl), F.kp, F.bindsN fun _ _ _ _ _ _ us hl => match us, hl with | [_], _ => by kernel_rfl⟩
theorem f_named (X : K.In h) (G : h.Ns mainGlobals mg) (D : He.SaysD fa fn K) : DF K mg "_law_named" s_named ["_law_kernel_here", "_law_thing_so", "_law_count_so"] := by
  obtain ⟨fd, F⟩ := D.def_ 34 (d := d_named) rfl
  exact ⟨_, fd, funD_fun F, He.glo_ok X G (D.fact 22 (f := .glo "_law_named") rfl), F.kp, F.bindsN fun _ _ _ _ _ _ us hl => match us, hl with | [_, _, _], _ => by kernel_rfl⟩
theorem f_marked (X : K.In h) (G : h.Ns mainGlobals mg) (D : He.SaysD fa fn K) : DF K mg "_law_marked" s_marked ["_law_kernel_here", "_law_thing_so", "_law_count_so"] := by
  obtain ⟨fd, F⟩ := D.def_ 35 (d := d_marked) rfl
  exact ⟨_, fd, funD_fun F, He.glo_ok X G (D.fact 23 (f := .glo "_law_marked") rfl), F.kp, F.bindsN fun _ _ _ _ _ _ us hl => match us, hl with | [_, _, _], _ => by kernel_rfl⟩
theorem f_cleared (X : K.In h) (G : h.Ns mainGlobals mg) (D : He.SaysD fa fn K) : DF K mg "_law_cleared" s_cleared ["_law_kernel_here", "_law_hush_so"] := by
  obtain ⟨fd, F⟩ := D.def_ 36 (d := d_cleared) rfl
  exact ⟨_, fd, funD_fun F, He.glo_ok X G (D.fact 24 (f := .glo "_law_cleared") rfl), F.kp, F.bindsN fun _ _ _ _ _ _ us hl => match us, hl with | [_, _], _ => by kernel_rfl⟩
theorem f_roomed (X : K.In h) (G : h.Ns mainGlobals mg) (D : He.SaysD fa fn K) : DF K mg "_law_roomed" s_roomed ["_law_kernel_here"] := by
  obtain ⟨fd, F⟩ := D.def_ 37 (d := d_roomed) rfl
  exact ⟨_, fd, funD_fun F, He.glo_ok X G (D.fact 25 (f := .glo "_law_roomed") rfl), F.kp, F.bindsN fun _ _ _ _ _ _ us hl => match us, hl with | [_], _ => by kernel_rfl⟩
theorem f_took (X : K.In h) (G : h.Ns mainGlobals mg) (D : He.SaysD fa fn K) : DF K mg "_law_took" s_took ["_law_kernel_here", "_law_place_so", "_law_thing_so"] := by
  obtain ⟨fd, F⟩ := D.def_ 38 (d := d_took) rfl
  exact ⟨_, fd, funD_fun F, He.glo_ok X G (D.fact 26 (f := .glo "_law_took") rfl), F.kp, F.bindsN fun _ _ _ _ _ _ us hl => match us, hl with | [_, _, _], _ => by kernel_rfl⟩
theorem f_some_setup (X : K.In h) (G : h.Ns mainGlobals mg) (D : He.SaysD fa fn K) : DF K mg "_law_some_setup" s_some_setup ["_law_box_here"] := by
  obtain ⟨fd, F⟩ := D.def_ 39 (d := d_some_setup) rfl
  exact ⟨_, fd, funD_fun F, He.glo_ok X G (D.fact 27 (f := .glo "_law_some_setup") rfl), F.kp, F.bindsN fun _ _ _ _ _ _ us hl => match us, hl with | [_], _ => by kernel_rfl⟩
theorem f_some_names (X : K.In h) (G : h.Ns mainGlobals mg) (D : He.SaysD fa fn K) : DF K mg "_law_some_names" s_some_names ["_law_box_here", "_law_span_so"] := by
  obtain ⟨fd, F⟩ := D.def_ 40 (d := d_some_names) rfl
  exact ⟨_, fd, funD_fun F, He.glo_ok X G (D.fact 28 (f := .glo "_law_some_names") rfl), F.kp, F.bindsN fun _ _ _ _ _ _ us hl => match us, hl with | [_, _], _ => by kernel_rfl⟩
theorem f_some_picture (X : K.In h) (G : h.Ns mainGlobals mg) (D : He.SaysD fa fn K) : DF K mg "_law_some_picture" s_some_picture ["_law_box_here", "_law_setup_so", "_law_is_entry"] := by
  obtain ⟨fd, F⟩ := D.def_ 41 (d := d_some_picture) rfl
  exact ⟨_, fd, funD_fun F, He.glo_ok X G (D.fact 29 (f := .glo "_law_some_picture") rfl), F.kp, F.bindsN fun _ _ _ _ _ _ us hl => match us, hl with | [_, _, _], _ => by kernel_rfl⟩
theorem f_some_stream (X : K.In h) (G : h.Ns mainGlobals mg) (D : He.SaysD fa fn K) : DF K mg "_law_some_stream" s_some_stream ["_law_box_here", "_law_setup_so", "_law_many"] := by
  obtain ⟨fd, F⟩ := D.def_ 42 (d := d_some_stream) rfl
  exact ⟨_, fd, funD_fun F, He.glo_ok X G (D.fact 30 (f := .glo "_law_some_stream") rfl), F.kp, F.bindsN fun _ _ _ _ _ _ us hl => match us, hl with | [_, _, _], _ => by kernel_rfl⟩
theorem f_may_name (X : K.In h) (G : h.Ns mainGlobals mg) (D : He.SaysD fa fn K) : DF K mg "_law_may_name" s_may_name ["_law_state", "_law_sort", "_law_mark"] := by
  obtain ⟨fd, F⟩ := D.def_ 43 (d := d_may_name) rfl
  exact ⟨_, fd, funD_fun F, He.glo_ok X G (D.fact 31 (f := .glo "_law_may_name") rfl), F.kp, F.bindsN fun _ _ _ _ _ _ us hl => match us, hl with | [_, _, _], _ => by kernel_rfl⟩
theorem f_may_use (X : K.In h) (G : h.Ns mainGlobals mg) (D : He.SaysD fa fn K) : DF K mg "_law_may_use" s_may_use ["_law_state", "_law_sort", "_law_layer_so", "_law_mark"] := by
  obtain ⟨fd, F⟩ := D.def_ 44 (d := d_may_use) rfl
  exact ⟨_, fd, funD_fun F, He.glo_ok X G (D.fact 32 (f := .glo "_law_may_use") rfl), F.kp, F.bindsN fun _ _ _ _ _ _ us hl => match us, hl with | [_, _, _, _], _ => by kernel_rfl⟩
theorem f_chosen (X : K.In h) (G : h.Ns mainGlobals mg) (D : He.SaysD fa fn K) : DF K mg "_law_chosen" s_chosen ["_law_box_here", "_law_state", "_law_sort", "_law_layer_so", "_law_count_so"] := by
  obtain ⟨fd, F⟩ := D.def_ 45 (d := d_chosen) rfl
  exact ⟨_, fd, funD_fun F, He.glo_ok X G (D.fact 33 (f := .glo "_law_chosen") rfl), F.kp, F.bindsN fun _ _ _ _ _ _ us hl => match us, hl with | [_, _, _, _, _], _ => by kernel_rfl⟩
theorem f_added (X : K.In h) (G : h.Ns mainGlobals mg) (D : He.SaysD fa fn K) : DF K mg "_law_added" s_added ["_law_box_here", "_law_state", "_law_sort", "_law_layer_so", "_law_count_so", "_law_is_anchor"] := by
  obtain ⟨fd, F⟩ := D.def_ 46 (d := d_added) rfl
  exact ⟨_, fd, funD_fun F, He.glo_ok X G (D.fact 34 (f := .glo "_law_added") rfl), F.kp, F.bindsN fun _ _ _ _ _ _ us hl => match us, hl with | [_, _, _, _, _, _], _ => by kernel_rfl⟩
theorem f_group (X : K.In h) (G : h.Ns mainGlobals mg) (D : He.SaysD fa fn K) : DF K mg "_law_group" s_group ["_law_box_here", "_law_state"] := by
  obtain ⟨fd, F⟩ := D.def_ 47 (d := d_group) rfl
  exact ⟨_, fd, funD_fun F, He.glo_ok X G (D.fact 35 (f := .glo "_law_group") rfl), F.kp, F.bindsN fun _ _ _ _ _ _ us hl => match us, hl with | [_, _], _ => by kernel_rfl⟩
theorem f_parts (X : K.In h) (G : h.Ns mainGlobals mg) (D : He.SaysD fa fn K) : DF K mg "_law_parts" s_parts ["_law_setup_so", "_law_stream_so", "_law_top_so", "_law_start_so"] := by
  obtain ⟨fd, F⟩ := D.def_ 48 (d := d_parts) rfl
  exact ⟨_, fd, funD_fun F, He.glo_ok X G (D.fact 36 (f := .glo "_law_parts") rfl), F.kp, F.bindsN fun _ _ _ _ _ _ us hl => match us, hl with | [_, _, _, _], _ => by kernel_rfl⟩
theorem f_least (X : K.In h) (G : h.Ns mainGlobals mg) (D : He.SaysD fa fn K) : DF K mg "_law_least" s_least ["_law_parts_so"] := by
  obtain ⟨fd, F⟩ := D.def_ 49 (d := d_least) rfl
  exact ⟨_, fd, funD_fun F, He.glo_ok X G (D.fact 37 (f := .glo "_law_least") rfl), F.kp, F.bindsN fun _ _ _ _ _ _ us hl => match us, hl with | [_], _ => by kernel_rfl⟩
theorem f_sound (X : K.In h) (G : h.Ns mainGlobals mg) (D : He.SaysD fa fn K) : DF K mg "_law_sound" s_sound ["_law_box_here", "_law_groups", "_law_hush"] := by
  obtain ⟨fd, F⟩ := D.def_ 50 (d := d_sound) rfl
  exact ⟨_, fd, funD_fun F, He.glo_ok X G (D.fact 38 (f := .glo "_law_sound") rfl), F.kp, F.bindsN fun _ _ _ _ _ _ us hl => match us, hl with | [_, _, _], _ => by kernel_rfl⟩
theorem f_second (X : K.In h) (G : h.Ns mainGlobals mg) (D : He.SaysD fa fn K) : DF K mg "_law_second" s_second ["_law_box_here", "_law_setup_so"] := by
  obtain ⟨fd, F⟩ := D.def_ 51 (d := d_second) rfl
  exact ⟨_, fd, funD_fun F, He.glo_ok X G (D.fact 39 (f := .glo "_law_second") rfl), F.kp, F.bindsN fun _ _ _ _ _ _ us hl => match us, hl with | [_, _], _ => by kernel_rfl⟩
theorem f_right (X : K.In h) (G : h.Ns mainGlobals mg) (D : He.SaysD fa fn K) : DF K mg "_law_right" s_right ["_law_box_here"] := by
  obtain ⟨fd, F⟩ := D.def_ 52 (d := d_right) rfl
  exact ⟨_, fd, funD_fun F, He.glo_ok X G (D.fact 40 (f := .glo "_law_right") rfl), F.kp, F.bindsN fun _ _ _ _ _ _ us hl => match us, hl with | [_], _ => by kernel_rfl⟩
end
end L2.K13
set_option Elab.async false
set_option linter.all false
set_option maxRecDepth 100000
set_option maxHeartbeats 4000000
set_option pp.maxSteps 150
namespace L2.K13
open PySem PySem.Spec PyProof.Rows L2
open C8 (Cal Met Mak pe_c pe_mt pe_mt0 pe_mk)
local macro_rules | `(tactic| walk_at "hp") => `(tactic| first | assumption | exact upd_same | (refine upd_keep ?_ (by assumption); walk_at "hp") | (refine upd_off ?_ (by assumption) (by intro z; cases z); walk_at "hp"))
local macro_rules | `(tactic| walk_at "seq") => `(tactic| first | assumption | exact SqT.of (by walk_at "hp") | exact SqL.of (by walk_at "hp"))
section
variable {P : Program} {w : World} {K : PySem.W.Frag} {mg : Str → Option Value} {base h : Heap}
def tLe (K : PySem.W.Frag) : Addr × Addr := He.cT K ("Shelf", some "least")
def tLo (K : PySem.W.Frag) : Addr × Addr := He.cT K ("Shelf", some "long_named")
def T0of (K : PySem.W.Frag) : List (Addr × Str) := [((tLe K).2, qLeast), ((tLo K).2, qLong)]
abbrev loOf (K : PySem.W.Frag) : Addr := He.dflAt ("run", none) 2 K
theorem chain {f : Addr} {fd : FuncData} (X : K.In h) (G : h.Ns mainGlobals mg) (D : He.SaysD fa fn K) (T : Fx K mg) (ne : (tLe K).2 ≠ (tLo K).2) (F : Fun K "law" "law" s_law f fd) (B1 : LamX.TabB base mg (tLe K).1 (tLe K).2) (B2 : LamX.TabB base mg (tLo K).1 (tLo K).2) : FnOk P w K mg base CX0 10 f fd ["_law_script"] (spLaw K (T0of K) (loOf K)) := by
  -- the program
  have c_count_of := ok_count_of (P := P) (w := w) (base := base) T (f_count_of X G D)
  have c_span_of := ok_span_of (P := P) (w := w) (base := base) T (f_span_of X G D)
  have c_Spot := ok_spot_init (P := P) (w := w) (base := base) T (fSpot_init D)
  have m_waits := ok_waits (P := P) (w := w) (base := base) T (fSpot_waits D)
  have m_waiting := ok_waiting (T0 := T0of K) (P := P) (w := w) (base := base) T (fShelf_waiting D) m_waits
  have m_least := ok_least (tb := T0of K) (P := P) (w := w) (base := base) T (fShelf_least D) B1 (List.mem_cons_self ..) (fun p hp e => by
    rcases List.mem_cons.mp hp with rfl | hp
    · rfl
    · rw [List.mem_singleton.mp hp] at e
      exact absurd e.symm ne)
  have m_long := ok_long (tb := T0of K) (P := P) (w := w) (base := base) T (fShelf_long_named D) B2 (List.mem_cons_of_mem _ (List.mem_cons_self ..)) (fun p hp e => by
    rcases List.mem_cons.mp hp with rfl | hp
    · exact absurd e ne
    · rw [List.mem_singleton.mp hp])
  have m_short := ok_short (T0 := T0of K) (P := P) (w := w) (base := base) T (fShelf_short_named D)
  have m_show := ok_show (T0 := T0of K) (P := P) (w := w) (base := base) T (fShelf_show D)
  have m_presses := ok_presses (T0 := T0of K) (P := P) (w := w) (base := base) T (fShelf_presses D) m_waiting
  have m_show_all := ok_show_all (T0 := T0of K) (P := P) (w := w) (base := base) T (fShelf_show_all D) m_waiting m_show m_least
  have m_over := ok_over (T0 := T0of K) (P := P) (w := w) (base := base) T (fShelf_over D) m_show_all
  have m_clear := ok_clear (T0 := T0of K) (P := P) (w := w) (base := base) T (fShelf_clear D) m_show_all
  have m_put := ok_put (T0 := T0of K) (P := P) (w := w) (base := base) T (fShelf_put D) c_Spot m_waiting m_show m_least m_presses
  have m_room := ok_make_room (T0 := T0of K) (P := P) (w := w) (base := base) T (fShelf_make_room D) m_waits m_waiting m_show m_least m_presses
  have m_mark := ok_mark (T0 := T0of K) (P := P) (w := w) (base := base) T (fShelf_mark_by D) m_long m_short
  have m_left := ok_left (T0 := T0of K) (P := P) (w := w) (base := base) T (fShelf_is_left_out D)
  have c_as := ok_as (P := P) (w := w) (base := base) T (f_as_tuples X G D)
  have c_Shelf := ok_shelf_init (P := P) (w := w) (base := base) T (fShelf_init D) (c_as 3) c_span_of
  have c_look := ok_look (P := P) (w := w) (base := base) T (f_look_for_entry X G D)
  have m_take := ok_take (T0 := T0of K) (P := P) (w := w) (base := base) T (fShelf_take D) (c_as 3) c_count_of m_left m_clear m_mark m_room m_put
  have c_run := ok_run (T0 := T0of K) (P := P) (w := w) (base := base) T (f_run X G D) (c_as 4) c_look c_Shelf m_take m_over
  -- the law's own
  have c_cell := ok_cell (P := P) (w := w) (base := base) T (f_cell_at X G D)
  have c_box := ok_box (P := P) (w := w) (base := base) T (f_box X G D) c_cell
  have c_take := ok_tk (P := P) (w := w) (base := base) T (f_take X G D)
  have c_of := ok_of (P := P) (w := w) (base := base) T (f_of X G D) c_take
  have c_setup := ok_setup (P := P) (w := w) (base := base) T (f_some_setup X G D) c_take c_of
  have c_names := ok_names (P := P) (w := w) (base := base) T (f_some_names X G D) c_take
  have c_span := ok_span (P := P) (w := w) (base := base) T (f_span X G D)
  have c_pic := ok_pic (P := P) (w := w) (base := base) T (f_some_picture X G D) c_take c_of c_span c_names
  have c_stream := ok_stream (P := P) (w := w) (base := base) T (f_some_stream X G D) c_take c_pic
  have c_second := ok_second (P := P) (w := w) (base := base) T (f_second X G D) c_take c_stream
  have c_kernel := ok_kernel (P := P) (w := w) (base := base) T (f_kernel X G D)
  have c_waiting := ok_waitK (P := P) (w := w) (base := base) T (f_waiting X G D)
  have c_presses := ok_pressK (P := P) (w := w) (base := base) T (f_presses X G D)
  have c_first := ok_firstK (P := P) (w := w) (base := base) T (f_first X G D)
  have c_show := ok_showK (P := P) (w := w) (base := base) T (f_show X G D)
  have c_near := ok_nearK (P := P) (w := w) (base := base) T (f_near X G D)
  have c_cleared := ok_clearK (P := P) (w := w) (base := base) T (f_cleared X G D) c_waiting c_first c_show
  have c_roomed := ok_roomK (P := P) (w := w) (base := base) T (f_roomed X G D) c_waiting c_first c_show c_presses
  have c_named := ok_namedK (P := P) (w := w) (base := base) T (f_named X G D) c_span
  have c_marked := ok_markedK (P := P) (w := w) (base := base) T (f_marked X G D) c_named
  have c_took := ok_tookK (P := P) (w := w) (base := base) T (f_took X G D) c_cleared c_near c_span c_marked c_roomed c_waiting c_presses c_first c_show
  have c_parts := ok_partsK (P := P) (w := w) (base := base) T (f_parts X G D) c_kernel c_took
  have c_least := ok_leastK (P := P) (w := w) (base := base) T (f_least X G D)
  have c_mayN := ok_mayN (P := P) (w := w) (base := base) T (f_may_name X G D)
  have c_mayU := ok_mayU (P := P) (w := w) (base := base) T (f_may_use X G D)
  have c_chosen := ok_chosen (P := P) (w := w) (base := base) T (f_chosen X G D) c_take c_mayN c_mayU
  have c_added := ok_added (P := P) (w := w) (base := base) T (f_added X G D) c_take c_chosen
  have c_group := ok_group (P := P) (w := w) (base := base) T (f_group X G D) c_take c_of c_added
  have c_sound := ok_sound (P := P) (w := w) (base := base) T (f_sound X G D) c_take c_of c_group c_parts c_least
  have c_same := ok_same (P := P) (w := w) (base := base) T (f_same X G D) 4
  have c_right := ok_right (T0 := T0of K) (lo := loOf K) (P := P) (w := w) (base := base) T (f_right X G D) c_take c_sound c_setup c_second c_run c_same
  exact ok_law (T0 := T0of K) (lo := loOf K) T F c_box c_right
end

end L2.K13
set_option Elab.async false
set_option linter.all false
set_option maxRecDepth 100000
set_option maxHeartbeats 4000000
set_option pp.maxSteps 150
namespace L2.K13
open PySem PySem.Spec PyProof.Rows L2
open C8 (Cal Met Mak pe_c pe_mt pe_mt0 pe_mk)
local macro_rules | `(tactic| walk_at "hp") => `(tactic| first | assumption | exact upd_same | (refine upd_keep ?_ (by assumption); walk_at "hp") | (refine upd_off ?_ (by assumption) (by intro z; cases z); walk_at "hp"))
local macro_rules | `(tactic| walk_at "seq") => `(tactic| first | assumption | exact SqT.of (by walk_at "hp") | exact SqL.of (by walk_at "hp"))
section
theorem ex_lo {K : PySem.W.Frag} (e : ex K = true) (H : Hp) : SqT K H (loOf K) [] := by
  unfold ex at e
  obtain ⟨_, e⟩ := He.ba e
  obtain ⟨_, e⟩ := He.ba e
  obtain ⟨e3, _⟩ := He.ba e
  obtain ⟨_, e4⟩ := He.ba e3
  cases q : K.lookup (He.dflAt ("run", none) 2 K) with
  | none =>
    rw [q] at e4
    cases e4
  | some o =>
    obtain ⟨oc, od, dt, osl⟩ := o
    rw [q] at e4
    cases oc with
    | type c =>
      cases dt with
      | seq its n =>
        obtain ⟨h1, h2⟩ := He.ba (show (decide (c = "tuple") && its.isEmpty) = true from e4)
        have e5 : its = #[] := Array.isEmpty_iff.mp h2
        subst e5
        exact .inr ⟨_, #[], n, q, congrArg Value.type (of_decide_eq_true h1), rfl, Nat.zero_le _, .nil⟩
      | _ => cases e4
    | _ => cases dt <;> cases e4
theorem ex_ne {K : PySem.W.Frag} (e : ex K = true) : (tLe K).2 ≠ (tLo K).2 := by
  unfold ex at e
  obtain ⟨_, e⟩ := He.ba e
  obtain ⟨_, e⟩ := He.ba e
  obtain ⟨_, e⟩ := He.ba e
  obtain ⟨e5, _⟩ := He.ba e
  intro z
  rw [decide_eq_true (show (He.cT K ("Shelf", some "least")).2 = (He.cT K ("Shelf", some "long_named")).2 from z)] at e5
  cases e5
theorem law_at {w : World} {mg : Str → Option Value} {f : Addr} {h : Heap} (Y : ∃ K : PySem.W.Frag, K.In h ∧ He.SaysX fa fn [] tf ex w h K) (G : h.Ns mainGlobals mg) (hmg : mg "law" = some (.ref f)) :
    ∃ K : PySem.W.Frag, K.In h ∧ LamX.LawAtS PySem.Challenge.rw_shownlater_k13_whole_one_behind_another w K CX0 10 63 "_law_script" mg f h := by
  obtain ⟨K, X, c⟩ := Y
  have D := c.t.d
  obtain ⟨fd, F⟩ := D.def_ 53 (d := d_law) rfl
  have e := hmg.symm.trans (He.glo_ok X G (D.fact 130 (f := .glo "law") rfl))
  cases e
  have b := FunD.bindsA (ps := ["_law_script"]) F fun _ _ _ _ _ _ us hl => match us, hl with | [_], _ => by kernel_rfl
  have T := fx_of X G c
  have mT : ∀ {p : He.Defn}, p ∈ tf → He.cT K p ∈ tf.map (He.cT K) := fun hp => List.mem_map.mpr ⟨_, hp, rfl⟩
  have m1 : (("Shelf", some "least") : He.Defn) ∈ tf := List.mem_cons_self ..
  have m2 : (("Shelf", some "long_named") : He.Defn) ∈ tf := List.mem_cons_of_mem _ (List.mem_cons_self ..)
  refine ⟨K, X, fd, tf.map (He.cT K), spLaw K (T0of K) (loOf K), fun p hp => ?_, fun p hp => ?_, fun p hp => ?_, fun s u => b s [u] rfl, fun H a ns _ _ ht hS => ⟨a, ns, rfl, hS, fun p hp => ?_, ex_lo c.more H, fun _ => rfl⟩, fun base hK hN TB => ?_⟩
  · obtain ⟨q, hq, rfl⟩ := List.mem_map.mp hp
    exact c.empty q hq
  · obtain ⟨q, hq, rfl⟩ := List.mem_map.mp hp
    exact c.out q hq
  · obtain ⟨q, hq, rfl⟩ := List.mem_map.mp hp
    exact PySem.W.codeHd_of_K X (c.hd q hq)
  · rcases List.mem_cons.mp hp with rfl | hp
    · exact .nil (ht _ (mT m1))
    · rw [List.mem_singleton.mp hp]
      exact .nil (ht _ (mT m2))
  · exact chain X G D T (ex_ne c.more) (funD_fun F) (TB _ (mT m1)) (TB _ (mT m2))
end
end L2.K13
open PySem PySem.W PySem.Calls PyProof.Rows
theorem PySem.Challenge.cw_shownlater_k13_whole_one_behind_another_holds : PySem.Challenge.rw_shownlater_k13_whole_one_behind_another.Holds := by
  w_on; o_law
  refine HandSHeadRun.head_any (r := OpenLaw.row PySem.Challenge.rw_shownlater_k13_whole_one_behind_another) (q := view (OpenLaw.row PySem.Challenge.rw_shownlater_k13_whole_one_behind_another).prog [50]) (H := L2.K13.hk) (ob := L2.K13.ob) (M := 4000) (loose := L2.K13.names) (d := HandSHeadRun.topDef (OpenLaw.row PySem.Challenge.rw_shownlater_k13_whole_one_behind_another).prog 50) (kwd := []) L2.K13.ob_eq
    (by kernel_rfl) (fun s => by kernel_rfl) L2.K13.run (by kernel_rfl) (by kernel_rfl) (by kernel_rfl) (by rfl) (by first | assumption | decide +kernel) (by decide +kernel) ⟨rfl, rfl, rfl, rfl, rfl, by decide +kernel⟩ ?hw ?hc
  case hw => w_witness2
  case hc =>
    refine LamX.walk_ofTsE (l := PySem.Challenge.rw_shownlater_k13_whole_one_behind_another) (n := 63) (k := 10) (x := "_law_script") (CX := fun _ => L2.CX0) rfl (by decide) (by kernel_rfl) ⟨rfl, by decide, by decide⟩ ?F (fun _ _ _ _ _ z => z)
    intro w mg fa h Y G hmg0
    have hmg : mg ("law" : PySem.Str) = some (.ref fa) := by
      have e : (HandSHeadRun.topDef (OpenLaw.row PySem.Challenge.rw_shownlater_k13_whole_one_behind_another).prog 50).name = ("law" : PySem.Str) := by kernel_rfl
      rw [← e]
      exact hmg0
    exact L2.K13.law_at Y G hmg
