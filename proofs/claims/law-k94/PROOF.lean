import PyProof.Rows.All
import Wide.All
import OpenK.AllK
import Wide.FinOn
import KE.KOpsOwn
import KE.KDictCopyH
import HandS.ForMost
import HandS.Codes
import HandS.Evl
import HandS.IsInst
import HandS.Property
import HandS.Star
import HandS.Style
import HandS.TupAny
import HandS.Sort
import HandS.SortRule
import HandS.SortInts
import HandS.Strs
import HandS.SetFor
import HandS.SetBool
import HandS.SetKeys
import HandS.DictComp
import HandS.DictTup
import HandS.NoneIn
import HandS.Zip
import HandS.Conv
import HandS.Small
import HandS.Walk
import HandS.Defaults
import HandS.More
import HandS.WrittenGet
import KE.GoesNew
import KE.GoesMore
import KE.KDictWalk
import KE.KStateDown
import HandS.Ends
import HandS.Words
import HandS.WordsExc
import HandS.Head0
import HandS.Head1
import HandS.Head2
import HandS.HeadEnd
import HandS.HeadHook1
import HandS.HeadHook2
import HandS.HeadHook3
import KE.KDictZip
import PySem.Challenge.RW_flashfolds_k94_whole_hidden_speeds
set_option Elab.async false
set_option linter.all false
section
set_option maxRecDepth 100000
set_option maxHeartbeats 4000000
namespace Ff
open PySem PySem.Spec PyProof.Rows L2
/-! ### operators of an own class -/
section
variable {X : Cx} {k : Nat} {C : Addr} {m : PySem.Str} {sp : Sp}
/-- a op b for two instances of the class at C -/
def rOwn (C : Addr) (sp : Sp) : R2 := fun x y H Q => ∃ a b dx dy fs gs, x = .ref a ∧ y = .ref b ∧ H a = some (.ins C dx fs) ∧ H b = some (.ins C dy gs) ∧ sp [.ref a, .ref b] H Q E0
theorem cmpBack_ep {pins : List (Addr × Obj)} {σ : L2.St} {Q : VK} {v : Value} {s : Shared} (h : EP X pins σ Q v s) : PySem.W.CmpBack (EP X pins σ Q) v s := by
  obtain ⟨x, H', I, r, q⟩ := id h
  cases v with
  | notImplemented => have e := r.abs; cases x <;> cases e
  | _ => exact h
theorem op_own {op : Operator} (c : C8.Met X.prog X.w X.K X.mg X.base k C m sp []) (hm : PySem.dunder op.info.2 = m) (hc : PySem.W.selfFirst X.K C = true) (hr : Room k X.A) : OpR X (binaryOp op) (rOwn C sp) := by
  intro pins s σ H x y v u Q I rx ry h
  obtain ⟨a, b, dx, dy, fs, gs, rfl, rfl, ha, hb, h⟩ := h
  cases rx; cases ry
  obtain ⟨f, fd, ps, ds, cl, me, F, bi, d⟩ := c.ex
  obtain ⟨mA, J, -⟩ := ins_get I.hok ha
  obtain ⟨od, J, -⟩ := J.look
  obtain ⟨mB, L, -⟩ := ins_get I.hok hb
  obtain ⟨od', L, -⟩ := L.look
  obtain ⟨mf, hF⟩ := I.fr
  refine PySem.W.binop_K hF I.ok.mod.kin J L.type hc (by rw [hm]; exact me.at_) me.fn ?_
  exact wpAny_mono (run_fn (us := [.ref a, .ref b]) (vs := [.ref a, .ref b]) F hr bi d pass0 I (.cons rfl (.cons rfl .nil)) h) (fun v s' z => cmpBack_ep z) fun _ _ e => e
/-- a op= e for an instance -/
theorem ip_own {op : Operator} (c : C8.Met X.prog X.w X.K X.mg X.base k C m sp []) (hm : dunderI op.info.2 = m) (hc : PySem.W.selfFirst X.K C = true) (hr : Room k X.A) :
    PIp X op (fun x y H Q => ∃ a dx fs, x = .ref a ∧ H a = some (.ins C dx fs) ∧ sp [.ref a, y] H Q E0) := by
  intro pins s σ H x y v u Q I rx ry h
  obtain ⟨a, dx, fs, rfl, ha, h⟩ := h
  cases rx
  obtain ⟨f, fd, ps, ds, cl, me, F, bi, d⟩ := c.ex
  obtain ⟨mA, J, -⟩ := ins_get I.hok ha
  obtain ⟨od, J, -⟩ := J.look
  obtain ⟨mf, hF⟩ := I.fr
  refine PySem.W.ksp_inplace hF I.ok.mod.kin J hc (by rw [hm]; exact me.at_) me.fn ?_
  exact wpAny_mono (run_fn (us := [.ref a, u]) (vs := [.ref a, y]) F hr bi d pass0 I (.cons rfl (.cons ry .nil)) h) (fun v s' z => cmpBack_ep z) fun _ _ e => e
/-- e in o, e not in o, by the class's own method, which gives a truth value -/
theorem op_inOwn (c : C8.Met X.prog X.w X.K X.mg X.base k C "__contains__" sp []) (hr : Room k X.A) :
    OpR X (compareOp .In) (fun x y H Q => ∃ a dx fs, y = .ref a ∧ H a = some (.ins C dx fs) ∧ sp [.ref a, x] H (fun v H' => ∃ b, v = .bl b ∧ Q (.bl b) H') E0) := by
  intro pins s σ H x y v u Q I rx ry h
  obtain ⟨a, dx, fs, rfl, ha, h⟩ := h
  cases ry
  obtain ⟨f, fd, ps, ds, cl, me, F, bi, d⟩ := c.ex
  obtain ⟨mA, J, -⟩ := ins_get I.hok ha
  obtain ⟨od, J, -⟩ := J.look
  obtain ⟨mf, hF⟩ := I.fr
  refine PySem.W.in_K hF I.ok.mod.kin J me.at_ me.fn ?_
  refine wpAny_mono (run_fn (us := [.ref a, v]) (vs := [.ref a, x]) F hr bi d pass0 I (.cons rfl (.cons rx .nil)) h) (fun r s' z => ?_) fun _ _ e => e
  obtain ⟨z, H', I', rz, b, rfl, q⟩ := z
  cases rz
  exact wpAny_truthy_bool ⟨.bl b, H', I', rfl, q⟩
theorem op_niOwn (c : C8.Met X.prog X.w X.K X.mg X.base k C "__contains__" sp []) (hr : Room k X.A) :
    OpR X (compareOp .NotIn) (fun x y H Q => ∃ a dx fs, y = .ref a ∧ H a = some (.ins C dx fs) ∧ sp [.ref a, x] H (fun v H' => ∃ b, v = .bl b ∧ Q (.bl (!b)) H') E0) := by
  intro pins s σ H x y v u Q I rx ry h
  obtain ⟨a, dx, fs, rfl, ha, h⟩ := h
  cases ry
  obtain ⟨f, fd, ps, ds, cl, me, F, bi, d⟩ := c.ex
  obtain ⟨mA, J, -⟩ := ins_get I.hok ha
  obtain ⟨od, J, -⟩ := J.look
  obtain ⟨mf, hF⟩ := I.fr
  refine PySem.W.notIn_K hF I.ok.mod.kin J me.at_ me.fn ?_
  refine wpAny_mono (run_fn (us := [.ref a, v]) (vs := [.ref a, x]) F hr bi d pass0 I (.cons rfl (.cons rx .nil)) h) (fun r s' z => ?_) fun _ _ e => e
  obtain ⟨z, H', I', rz, b, rfl, q⟩ := z
  cases rz
  exact wpAny_truthy_bool ⟨.bl (!b), H', I', rfl, q⟩
end
end Ff
end
section
set_option maxRecDepth 100000
set_option maxHeartbeats 4000000
/-! Dicts whose keys are None or texts. -/
namespace Ff
open PySem PySem.Spec PyProof.Rows L2
abbrev Wd := Option PySem.Str
def wLeaf : Wd → Leaf
  | none => .none
  | some z => .text z
def wV : Wd → V
  | none => .non
  | some z => .str z
theorem wLeaf_inj {a b : Wd} (e : wLeaf a = wLeaf b) : a = b := by
  cases a <;> cases b <;> first | rfl | cases e | skip
  rfl
theorem wDec (a b : Wd) : decide (wLeaf a = wLeaf b) = decide (a = b) := by
  by_cases q : a = b
  · rw [decide_eq_true q, decide_eq_true (congrArg wLeaf q)]
  · rw [decide_eq_false q, decide_eq_false fun r => q (wLeaf_inj r)]
def wKind (P : Program) (w : World) : KeyKind P w Wd where
  is := fun k v => Leaf.isOf (wLeaf k) v
  hash := fun k => (leafKind P w).hash (wLeaf k)
  inj := fun v a b ha hb => wLeaf_inj ((leafKind P w).inj v _ _ ha hb)
  byValue := fun k v h => (leafKind P w).byValue (wLeaf k) v h
  pyHash := fun hv h => (leafKind P w).pyHash hv h
  eqBool := fun {_ _ _ a b _ _ _} hu hv h => (leafKind P w).eqBool hu hv (by rw [wDec a b]; exact h)
  «strs» := fun k x t v h => (leafKind P w).strs (wLeaf k) x t v h
theorem wKind_of {P : Program} {w : World} {k : Wd} {u : Value} (r : RelV (wV k) u) : (wKind P w).is k u = true := by
  cases k with
  | none => cases (show u = Value.none from r); rfl
  | some z =>
    obtain ⟨t, rfl⟩ := (show ∃ t, u = Value.str z t from r)
    show Value.isStrOf z (Value.str z t) = true
    simp [Value.isStrOf]
theorem wKind_rel {P : Program} {w : World} {k : Wd} {u : Value} (h : (wKind P w).is k u = true) : RelV (wV k) u := by
  cases k with
  | none =>
    have h2 : Leaf.isOf .none u = true := h
    cases Leaf.nested (h := default) h2
    rfl
  | some z =>
    obtain ⟨t, e⟩ := Value.isStrOf_shape (show Value.isStrOf z u = true from h)
    exact ⟨t, e⟩
/-- what is true of the dict at d -/
def DFact (P : Program) (w : World) (d : Addr) (kvs : List (Wd × V)) (h : Heap) : Prop :=
  kvs.length ≤ sizeLine ∧ (d == sysModules) = false ∧ ∃ vs, KV kvs vs ∧ h.DictOf (wKind P w) d vs
def DO (P : Program) (w : World) (d : Addr) (kvs : List (Wd × V)) : HO := .ext (DFact P w d kvs)
section
variable {P : Program} {w : World} {H : Hp} {h h' : Heap} {d : Addr} {kvs : List (Wd × V)}
theorem DFact.stay (x : DFact P w d kvs h) (k : ∀ o, h.get? d = some o → h'.get? d = some o) : DFact P w d kvs h' := by
  obtain ⟨z, y, vs, r, o, es, ep, e, c⟩ := x
  exact ⟨z, y, vs, r, o, es, ep, k _ e, c⟩
theorem DFact.here (x : DFact P w d kvs h) : ∃ o, h.get? d = some o := by
  obtain ⟨_, _, _, _, o, _, _, e, _⟩ := x
  exact ⟨o, e⟩
theorem do_new (x : DFact P w d kvs h) : ObjOk P w H h d (DO P w d kvs) := ⟨x, x.here, fun _ _ p k => p.stay k⟩
theorem do_rd (ok : HOk P w H h) (e : Rd H d (DO P w d kvs)) : DFact P w d kvs h := (rd_of ok e).1
theorem dfact_nil (h : Heap) (hb : sysModules < h.objs.size) : DFact P w h.objs.size [] (h.push { cls := .type "dict", data := .dict #[] }) :=
  ⟨Nat.zero_le _, beq_eq_false_iff_ne.mpr (Ne.symm (Nat.ne_of_lt hb)), [], .nil, Heap.DictOf.new h⟩
end
section
variable {X : Cx} {pins : List (Addr × Obj)} {σ : L2.St} {H : Hp} {s : Shared} {d : Addr} {kvs : List (Wd × V)} {k : Wd} {v : V} {u r : Value} {A : Around} {E : Value → Shared → Prop}
theorem o_store {h' : Heap} {tk : Nat} (I : Inv X pins σ H s) (e : H d = some (DO X.prog X.w d kvs)) (hl : kvs.length < sizeLine) {vs : List (Wd × Value)} (rel : KV kvs vs) (hd : (d == sysModules) = false)
    (rv : RelV v r) (dd : h'.DictOf (wKind X.prog X.w) d (stored vs k r)) (hs : Heap.SameBut d s.heap h') : Inv X pins σ (upd H d (DO X.prog X.w d (putK kvs k v))) { s with heap := h', toks := tk } := by
  have l2 := length_putK kvs k v
  have F : DFact X.prog X.w d (putK kvs k v) h' := ⟨by omega, hd, _, rel.put k rv, dd⟩
  exact d_write I (by rw [e]; exact True.intro) hs F.here (do_new F)
/-- the value under a key -/
theorem op_inO : OpR X (compareOp .In) (fun x y H Q => ∃ d kvs k, x = wV k ∧ y = .ref d ∧ Rd H d (DO X.prog X.w d kvs) ∧ Q (.bl (valV kvs k).isSome) H) := by
  intro pins s σ H x y v u Q I rx ry h
  obtain ⟨d, kvs, k, rfl, rfl, e, q⟩ := h
  cases ry
  obtain ⟨z, hd, vs, rel, dd⟩ := do_rd I.hok e
  refine wpAny_in_of (wKind_of rx) hd dd.mapOf ⟨.bl (valV kvs k).isSome, H, I.tok _, ?_, q⟩
  show Value.bool _ = Value.bool _
  rw [(rel.val k).isSome_eq]
theorem op_niO : OpR X (compareOp .NotIn) (fun x y H Q => ∃ d kvs k, x = wV k ∧ y = .ref d ∧ Rd H d (DO X.prog X.w d kvs) ∧ Q (.bl (!(valV kvs k).isSome)) H) := by
  intro pins s σ H x y v u Q I rx ry h
  obtain ⟨d, kvs, k, rfl, rfl, e, q⟩ := h
  cases ry
  obtain ⟨z, hd, vs, rel, dd⟩ := do_rd I.hok e
  refine wpAny_notIn_of (wKind_of rx) hd dd.mapOf ⟨.bl (!(valV kvs k).isSome), H, I.tok _, ?_, q⟩
  show Value.bool _ = Value.bool _
  rw [(rel.val k).isSome_eq]
end
section
variable {X : Cx} {o i e value : Expr} {pos pos' : Pos} {td ty tv : TE}
theorem pe_newO : PE X (.Dict [] [] pos) (fun _ H Q => ∀ p, H p = none → Q (.ref p) (upd H p (DO X.prog X.w p []))) := ⟨fun pins s σ H Q I h => by
  have new := dfact_nil (P := X.prog) (w := X.w) s.heap I.big
  exact wpAny_Dict_empty ⟨.ref s.heap.objs.size, _, I.laid (t' := s.toks) (fun b q z => Heap.get?_push_of_some _ z) (Nat.le_refl _) (do_new new), rfl, h _ (I.hok.fresh (Nat.le_refl _))⟩⟩
/-- d[k] -/
theorem pe_getO (ho : PE X o td) (hi : PE X i ty) (hs : NoSl i) : PE X (.Subscript o i pos)
    (fun σ H Q => td σ H fun x H1 => ty σ H1 fun y H2 => ∃ d kvs k v, x = .ref d ∧ y = wV k ∧ Rd H2 d (DO X.prog X.w d kvs) ∧ valV kvs k = some v ∧ Q v H2) := by
  refine ⟨fun pins s σ H Q I h => ?_⟩
  refine subD_of PySem.F.slot_dict_getitem.lookup hs (thn (ho.run pins s σ H _ I h) fun u s1 ⟨x, H1, I1, rx, q1⟩ => thn (hi.run pins s1 σ H1 _ I1 q1) fun iv s2 ⟨y, H2, I2, ry, d, kvs, k, v, ex, ey, e, l, q2⟩ => ?_)
  subst ex ey
  obtain rfl : u = Value.ref d := rx
  obtain ⟨z, hd, vs, rel, dd⟩ := do_rd I2.hok e
  obtain ⟨w', hw, rw'⟩ := RelO.some_of (v := v) (o := valueAt vs k) (by rw [← l]; exact rel.val k)
  exact ⟨dd.typeIs, wpAny_getItem_of (wKind_of ry) dd.mapOf hw ⟨v, H2, I2.tok _, rw', q2⟩⟩
/-- d[k] = v -/
theorem ps_putO (ho : PE X o td) (hi : PE X i ty) (hv : PE X value tv) (hs : swapsWith value (some (.Subscript o i pos')) pos.line X.env = pure false) :
    PS X (.Assign [.Subscript o i pos'] value pos) (fun D σ H => tv σ H fun v H1 => td σ H1 fun x H2 => ty σ H2 fun y H3 =>
      ∃ d kvs k, x = .ref d ∧ y = wV k ∧ H3 d = some (DO X.prog X.w d kvs) ∧ kvs.length < sizeLine ∧ D.nx σ (upd H3 d (DO X.prog X.w d (putK kvs k v)))) := by
  refine ⟨fun pins s σ H D I h => ?_⟩
  refine wpAny_Assign_Subscript (thn (hv.run pins s σ H _ I h) fun r s1 ⟨v, H1, I1, rv, q1⟩ => thn (ho.run pins s1 σ H1 _ I1 q1) fun u s2 ⟨x, H2, I2, rx, q2⟩ => thn (hi.run pins s2 σ H2 _ I2 q2) fun iv s3 ⟨y, H3, I3, ry, d, kvs, k, ex, ey, e, l, q3⟩ => ?_) hs
  subst ex ey
  obtain rfl : u = Value.ref d := rx
  obtain ⟨z, hd, vs, rel, dd⟩ := do_rd I3.hok (.inl e)
  refine wpAny_setItem_pairs (hsz := by rw [← rel.length]; exact z) (wKind_of ry) dd fun h' dd' hs' => ?_
  exact ⟨σ, _, o_store I3 e l rel hd rv dd' hs', q3⟩
/-- a method of such a dict, with arguments -/
theorem pe_bmO {es : List Expr} {t : TA} {to : TE} {name : PySem.Str} {id : String} {r : V → List V → Hp → VK → Prop} {apos cpos : Pos} (slot : Slot "dict" name id) (hty : typeOf (.builtin id) = pure (.type "method_descriptor")) (hm : MtR X id r) (ho : PE X o to) (ha : PA X (e :: es) t)
    (hbase : attributeBase o name X.env (eval o X.env) = eval o X.env := by rfl)
    (hfew : ((backTo cpos (starEach (e :: es) X.env)).all (fun x => !x.1) && (backToKw cpos (keywordEach [] X.env)).all (fun x => x.1.isSome)
      && decide ((e :: es).length + ([] : List Keyword).length + (if ([] : List Keyword).isEmpty then 0 else 1) < 30)) = true := by rfl)
    (hline : (apos.endLine == cpos.line) = true := by rfl) (hs : starEach (e :: es) X.env = (false, eval e X.env) :: starEach es X.env := by rfl) (hplain : (backTo cpos (starEach es X.env)).any (·.1) = false := by rfl) :
    PE X (.Call (.Attribute o name apos) (e :: es) [] cpos) (fun σ H Q => to σ H fun x H1 => (∃ d kvs, x = .ref d ∧ Rd H1 d (DO X.prog X.w d kvs)) ∧ t σ H1 fun xs H2 => r x xs H2 Q) := by
  refine ⟨fun pins s σ H Q I h => ?_⟩
  refine wpAny_Call_method_late hbase hfew hline rfl (thn (ho.run pins s σ H _ I h) fun v s1 ⟨x, H1, I1, r1, ⟨d, kvs, ex, e1⟩, q1⟩ => ?_)
  subst ex
  obtain rfl : v = Value.ref d := r1
  obtain ⟨z, hd, vs, rel, dd⟩ := do_rd I1.hok e1
  refine ⟨"dict", id, PySem.F.plainAttrs_dict, slot, hty, dd.typeIs, fun b q => ?_, ?_⟩
  · cases q
    obtain ⟨ob, _, _, h1, h2, _⟩ := dd
    exact ⟨ob, h1, h2.2.1⟩
  have hA := ha.run cpos pins s1 σ H1 _ I1 q1
  rw [hs] at hA ⊢
  refine Calls.callWith_builtin (by show (false || (backTo cpos (starEach es X.env)).any (·.1)) = false; rw [hplain] <;> rfl) (Calls.evalArgs_plain ?_)
  exact thn hA fun us s2 ⟨vs, H2, I2, r2, q2⟩ => hm pins s2 σ H2 (.ref d) vs (.ref d) us Q I2 rfl r2 q2
end
section
variable {X : Cx}
theorem mt_sdO : MtR X "dict.setdefault" (fun x xs H Q => ∃ d kvs k z, x = .ref d ∧ xs = [wV k, z] ∧ H d = some (DO X.prog X.w d kvs) ∧ kvs.length < sizeLine ∧
    (∀ v, valV kvs k = some v → Q v H) ∧ (valV kvs k = none → Q z (upd H d (DO X.prog X.w d (putK kvs k z))))) := by
  intro pins s σ H x xs v us Q I rx r h
  obtain ⟨d, kvs, k, z, rfl, rfl, e, l, q1, q2⟩ := h
  cases rx
  obtain ⟨ku, zu, rfl, rk, rz⟩ := vals2 r
  obtain ⟨sz, hd, vs, rel, dd⟩ := do_rd I.hok (.inl e)
  refine call_meetsIn PySem.F.slot_dict_setdefault dd.typeIs PySem.F.entry_dict_setdefault (PySem.F.args_dict_setdefault_3 _ _ _) (kt_meets_setdefault (wKind X.prog X.w) d (wKind_of rk) hd zu)
    ⟨vs, dd, by rw [← rel.length]; exact sz, fun v hv => ?_, fun hn h' dd' hs => ?_⟩
  all_goals
    have q := rel.val k
    cases q0 : valV kvs k <;> rw [q0] at q <;> simp only [*] at q
  · exact q.elim
  · exact ⟨_, H, I.tok _, q, q1 _ q0⟩
  · exact ⟨z, _, o_store I e l rel hd rz dd' hs, rz, q2 q0⟩
  · exact q.elim
theorem mt_sdT (hu : X.A.units + 1 < cLine) : MtR X "dict.setdefault" (fun x xs H Q => ∃ d kvs k b z, x = .ref d ∧ xs = [.ref b, z] ∧ H d = some (.dT kvs) ∧ H b = some (.tup (k.map kV)) ∧ kvs.length < sizeLine ∧
    (∀ v, valV kvs k = some v → Q v H) ∧ (valV kvs k = none → Q z (upd H d (.dT (putK kvs k z))))) := by
  intro pins s σ H x xs v us Q I rx r h
  obtain ⟨d, kvs, k, b, z, rfl, rfl, e, eb, l, q1, q2⟩ := h
  cases rx
  obtain ⟨ku, zu, rfl, rk, rz⟩ := vals2 r
  cases rk
  obtain ⟨sz, hd, xs, rel, dd⟩ := dt_of I.hok e
  have rv := rel.val k
  refine call_setdefault_heap (hsz := by rw [← Paired.length rel]; exact sz) (tupleKind_room_in1 hu) (key_of I.hok eb) hd dd (fun p hp => ?_) fun hn h' dd' hs => ?_
  · rw [hp] at rv
    cases q0 : valV kvs k with
    | none => rw [q0] at rv; exact rv.elim
    | some v0 => rw [q0] at rv; exact ⟨v0, H, I.tok _, rv, q1 _ q0⟩
  · rw [hn] at rv
    cases q0 : valV kvs k with
    | some v0 => rw [q0] at rv; exact rv.elim
    | none =>
      have l2 := length_putK kvs k z
      obtain ⟨q, es, ep, hq, h2, h3, h4, _, h5⟩ := dd'
      refine ⟨z, upd H d (.dT (putK kvs k z)), d_write I (by rw [e]; exact True.intro) hs ⟨q, hq⟩ ⟨by omega, hd, _, (rel.put k eb rz).keeps fun c ys ec => ?_, q, es, ep, hq, h2, h3, h4, h5⟩, rz, q2 q0⟩
      rw [upd_ne (ne_of ec e (fun z => nomatch z))]
      exact ec
end
end Ff
end
section
set_option maxRecDepth 100000
set_option maxHeartbeats 4000000
/-! What is walked: pairs by the library's GoesN, keys of the dicts of FfB. -/
namespace Ff
open PySem PySem.Spec PyProof.Rows L2
/-- a walk of new pairs, out of the library's own -/
theorem turn_pairs {P : Program} {w : World} {K : PySem.W.Frag} {elts : List Expr} {kk : Nat} {tpos : Pos} {it : Addr} {fp : List Addr} {tn : Nat → Heap → Prop} {J : It} (mem : it ∈ fp)
    (obj : ∀ i h, tn i h → ∀ b ∈ fp, ∃ o, h.get? b = some o ∧ ∀ v, o.data ≠ .cell v) (keep : ∀ i h h', tn i h → (∀ b ∈ fp, ∀ o, h.get? b = some o → h'.get? b = some o) → tn i h')
    (G : ∀ (X : Cx), X.prog = P → X.w = w → X.K = K → X.calm = true → ∀ (i : Nat) (pins : List (Addr × Obj)) (s : Shared) (σ : L2.St) (H : Hp), Inv X pins σ H s → tn i s.heap → J.go i H ∨ J.stop i H →
      ∃ (fq wr : List Addr) (n : Nat) (Y : Nat → Heap → Value → Heap → Prop) (St : Nat → Heap → Prop), GoesN P w X.A (.Tuple elts kk tpos) it fq wr n Y St ∧ (∀ b ∈ wr, b ∈ fp) ∧ St i s.heap ∧ (∀ j h, St j h → tn j h) ∧
        (J.go i H → i < n ∧ ∀ v h, Y i s.heap v h → ∃ T a b u1 u2, v = .ref T ∧ s.heap.objs.size ≤ T ∧ h.IsTuple T #[u1, u2] ∧ RelV a u1 ∧ RelV b u2 ∧ J.yld i H (.ref T) (upd H T (.tup [a, b]))) ∧ (J.stop i H → i = n))
    (self : ∀ (A : Around) (i : Nat) (s : Shared) (Q : Value → Shared → Prop) (E : Value → Shared → Prop), tn i s.heap → Q (.ref it) s → wpAny (model P w) A (pyIter (.ref it)) Q E s) :
    Turn P w K (.Tuple elts kk tpos) J fp it tn where
  mem := mem
  obj := obj
  keep := keep
  item := by
    intro X hP hw hK hc i pins s σ H E I hf st hg
    obtain ⟨fq, wr, n, Y, St, g, hwr, hst, hS, hgo, -⟩ := G X hP hw hK hc i pins s σ H I st (.inl hg)
    obtain ⟨hi, hY⟩ := hgo hg
    refine g.goes i s _ E hi hst fun v h' tk hy st' hk _ => ?_
    obtain ⟨T, a, b, u1, u2, rfl, hT, ht, r1, r2, y⟩ := hY v h' hy
    have new : ObjOk X.prog X.w (upd H T (.tup [a, b])) h' T (.tup [a, b]) := ⟨by show 2 ≤ sizeLine; decide, [u1, u2], .cons r1 (.cons r2 .nil), ht⟩
    have I1 : Inv X pins σ (upd H T (.tup [a, b])) { s with heap := h', toks := tk } := I.turnedNew (ch := fp) (fun c o hb e => hk c o (fun z => hb (hwr c z)) e) hf hT new
    refine ⟨.ref T, _, I1, rfl, y, hS _ _ st', fun c hcm => ?_⟩
    obtain ⟨o, e, _⟩ := obj i _ st c hcm
    rw [upd_ne (Nat.ne_of_lt (Nat.lt_of_lt_of_le (Heap.lt_size e) hT))]
    exact (hf c hcm).1
  done := by
    intro X hP hw hK hc i pins s σ H E I hf st hg
    obtain ⟨fq, wr, n, Y, St, g, hwr, hst, hS, -, hn⟩ := G X hP hw hK hc i pins s σ H I st (.inr hg)
    have e := hn hg
    subst e
    exact g.stops s (fun s1 => Inv X pins σ H s1) E hst fun h' tk hk _ => I.turnedL (ch := fp) (fun c o hb e => hk c o (fun z => hb (hwr c z)) e) hf
  self := self
/-! ### zip of a list and a tuple -/
def ItLT (K : PySem.W.Frag) (a b : Addr) : It :=
  ⟨fun i H => ∃ xs ys : List V, SqL K H a xs ∧ SqT K H b ys ∧ i < xs.length ∧ i < ys.length,
    fun i H v H' => ∃ T x y, v = .ref T ∧ H T = none ∧ H' = upd H T (.tup [x, y]) ∧ (∀ xs, SqL K H a xs → xs[i]? = some x) ∧ ∀ ys, SqT K H b ys → ys[i]? = some y,
    fun i H => ∃ xs ys : List V, SqL K H a xs ∧ SqT K H b ys ∧ i = min xs.length ys.length⟩
def tnLT (z TI TO i1 i2 a b : Addr) (i : Nat) (h : Heap) : Prop :=
  IsZip h z TI TO .none ∧ IsTupOf2 h TI (.ref i1) (.ref i2) ∧ (∃ a1 a2, IsTupOf2 h TO a1 a2) ∧ h.IsListIter i1 a i ∧ h.IsTupleIter i2 b i
theorem turn_zipLT {P : Program} {w : World} {K : PySem.W.Frag} {elts : List Expr} {kk : Nat} {tpos : Pos} {a b z TI TO i1 i2 : Addr} (S : ZipSep2 z TI TO i1 i2 [i1, a] [i2, b]) (ha : a ≠ i1) (hb : b ≠ i2) :
    Turn P w K (.Tuple elts kk tpos) (ItLT K a b) [z, TI, TO, i1, i2] z (tnLT z TI TO i1 i2 a b) := by
  refine turn_pairs (by simp) (fun i h st c hc => ?_) (fun i h h' st k => ?_) (fun X hP hw hK hc i pins s σ H I st hg => ?_) fun A i s Q E st h => wpAny_pyIter_zip st.1 h
  · obtain ⟨hz, hTI, ⟨x, y, hTO⟩, ⟨o1, e1, _, d1⟩, ⟨o2, e2, _, d2⟩⟩ := st
    simp only [List.mem_cons, List.not_mem_nil, or_false] at hc
    rcases hc with q | q | q | q | q <;> rw [q]
    · exact ⟨_, hz, fun v q => nomatch q⟩
    · exact ⟨_, hTI, fun v q => nomatch q⟩
    · exact ⟨_, hTO, fun v q => nomatch q⟩
    · exact ⟨o1, e1, fun v q => by rw [d1] at q; cases q⟩
    · exact ⟨o2, e2, fun v q => by rw [d2] at q; cases q⟩
  · obtain ⟨hz, hTI, ⟨x, y, hTO⟩, h1, h2⟩ := st
    exact ⟨k z (by simp) _ hz, k TI (by simp) _ hTI, ⟨x, y, k TO (by simp) _ hTO⟩, h1.at fun o q => k i1 (by simp) o q, h2.at fun o q => k i2 (by simp) o q⟩
  · subst hP hw hK
    have hh : X.A.in1.handled = none := I.ok.hd hc
    obtain ⟨xs, ys, qx, qy⟩ : ∃ xs ys, SqL X.K H a xs ∧ SqT X.K H b ys := by
      rcases hg with ⟨xs, ys, q1, q2, _⟩ | ⟨xs, ys, q1, q2, _⟩ <;> exact ⟨xs, ys, q1, q2⟩
    obtain ⟨its, rv, p, _⟩ := I.list qx
    obtain ⟨its2, rv2, p2, _⟩ := I.tuple qy
    obtain ⟨hz, hTI, hTO, h1, h2⟩ := st
    have l1 := rv.length
    have l2 := rv2.length
    refine ⟨_, _, _, _, _, GoesN.zip2 S (Draws.list (prog := X.prog) (w := X.w) hh i1 a ha its.toArray) (Draws.tuple hh i2 b hb its2.toArray), fun b' hb' => ?_, ⟨hz, hTI, hTO, ⟨h1, p.isList⟩, ⟨h2, p2⟩⟩, fun j h z => ⟨z.1, z.2.1, z.2.2.1, z.2.2.2.1.1, z.2.2.2.2.1⟩, fun q => ?_, fun q => ?_⟩
    · simp only [List.mem_cons, List.not_mem_nil, or_false] at hb' ⊢
      rcases hb' with q | q | q | q <;> simp [q]
    · obtain ⟨xs', ys', q1, q2, q3, q4⟩ := q
      rw [I.list_inj q1 qx] at q3
      rw [I.tuple_inj q2 qy] at q4
      refine ⟨by simp only [List.size_toArray]; omega, fun v h hy => ?_⟩
      obtain ⟨T, x, y, rfl, hT, hx, hy, ht⟩ := hy
      obtain ⟨u, hu, ru⟩ := rv.get (List.getElem?_eq_getElem q3)
      obtain ⟨u', hu', ru'⟩ := rv2.get (List.getElem?_eq_getElem q4)
      rw [List.getElem?_toArray] at hx hy
      rw [hu] at hx; rw [hu'] at hy
      cases hx; cases hy
      exact ⟨T, xs[i], ys[i], x, y, rfl, hT, ht, ru, ru', T, xs[i], ys[i], rfl, I.hok.fresh hT, rfl, fun l hl => by rw [I.list_inj hl qx]; exact List.getElem?_eq_getElem q3, fun l hl => by rw [I.tuple_inj hl qy]; exact List.getElem?_eq_getElem q4⟩
    · obtain ⟨xs', ys', q1, q2, q3⟩ := q
      rw [I.list_inj q1 qx, I.tuple_inj q2 qy] at q3
      simp only [List.size_toArray]
      omega
def iZipLT (K : PySem.W.Frag) (ta : TA) : TI := fun σ H R => ta σ H fun vs H1 => ∃ a b xs ys, vs = [.ref a, .ref b] ∧ SqL K H1 a xs ∧ SqT K H1 b ys ∧ R (ItLT K a b) H1
theorem pi_zipLT {X : Cx} {e e2 : Expr} {ta : TA} {p pos tpos : Pos} {elts : List Expr} {kk : Nat} (hg : Gl X "zip") (hm : X.mg "zip" = none) (ha : PA X [e, e2] ta)
    (hs : starEach [e, e2] X.env = (false, eval e X.env) :: starEach [e2] X.env := by rfl) (hpl : (backTo pos (starEach [e2] X.env)).any (·.1) = false := by rfl) :
    PI X (.Tuple elts kk tpos) (.Call (.Name "zip" p) [e, e2] [] pos) (iZipLT X.K ta) := by
  refine ⟨fun pins s σ H R I h => ?_⟩
  refine Call_ (ld_blt I hg hm PyProof.Rows.boot_zip (PyProof.Rows.callWith_type1 (thn (ha.run pos pins s σ H _ I h) fun us s1 ⟨vs, H1, I1, r1, q1⟩ => ?_) hs hpl))
  obtain ⟨a, b, xs, ys, rfl, hqx, hqy, q⟩ := q1
  obtain ⟨ua, ub, rfl, ra, rb⟩ := vals2 r1
  cases ra; cases rb
  obtain ⟨its, rv, p1, _⟩ := I1.list hqx
  obtain ⟨its2, rv2, p2, _⟩ := I1.tuple hqy
  have la : a < s1.heap.objs.size := p1.lt
  have lb : b < s1.heap.objs.size := p2.lt
  refine zip_begins2 (begins_list a its.toArray) (begins_tuple b its2.toArray) p1.isList p2 fun h' hz hTI hTO h1 h2 hsz hk => wpAny_pyIter_zip hz ?_
  have I2 : Inv X pins σ H1 { s1 with heap := h' } := I1.kept (t' := s1.toks) hk
  have S := zip_sep2 (N := s1.heap.objs.size) (fp1 := [a]) (fp2 := [b]) (by simpa using la) (by simpa using lb)
  refine ⟨_, [s1.heap.objs.size + 4, s1.heap.objs.size + 2, s1.heap.objs.size + 3, s1.heap.objs.size, s1.heap.objs.size + 1], _, _, H1, rfl, I2, turn_zipLT S (Nat.ne_of_lt la) (Nat.ne_of_lt (Nat.lt_succ_of_lt lb)), ⟨hz, hTI, ⟨_, _, hTO⟩, ⟨_, h1, rfl, rfl⟩, ⟨_, h2, rfl, rfl⟩⟩, fun c hcm => ?_, q⟩
  have hle : s1.heap.objs.size ≤ c := by
    simp only [List.mem_cons, List.not_mem_nil, or_false] at hcm
    rcases hcm with z | z | z | z | z <;> rw [z]
    · exact Nat.le_add_right _ _
    · exact Nat.le_add_right _ _
    · exact Nat.le_add_right _ _
    · exact Nat.le_refl _
    · exact Nat.le_add_right _ _
  exact I1.fpOk hle (I1.hok.fresh hle)
/-! ### the pairs of a dict with tuple keys -/
def ItTi (d : Addr) (o : Obj) (kvs : List (List Key × V)) : It :=
  ⟨fun i H => H d = some (.frz o (.dT kvs)) ∧ i < kvs.length,
    fun i H x H' => ∃ T q k v, kvs[i]? = some (k, v) ∧ H q = some (.tup (k.map kV)) ∧ x = .ref T ∧ H T = none ∧ H' = upd H T (.tup [.ref q, v]),
    fun i H => H d = some (.frz o (.dT kvs)) ∧ i = kvs.length⟩
theorem frzT2 {X : Cx} {pins : List (Addr × Obj)} {σ : L2.St} {H : Hp} {s : Shared} {d : Addr} {o : Obj} {kvs : List (List Key × V)} (I : Inv X pins σ H s) (h : H d = some (.frz o (.dT kvs))) :
    (d == sysModules) = false ∧ s.heap.get? d = some o ∧ o.ExactDict ∧ ∃ (es : Array DictEntry) (ep : Nat), o.data = .dict es ep ∧ es.size = kvs.length ∧
      ∀ (i : Nat) (k : List Key) (v : V), kvs[i]? = some (k, v) → ∃ (en : DictEntry) (q : Addr), es[i]? = some en ∧ en.key = .ref q ∧ H q = some (.tup (k.map kV)) ∧ RelV v en.val := by
  obtain ⟨hd, z, hs, xs, pr, o', es, ep, ho, hx, hdt, he, _⟩ := I.hok d _ h
  rw [hd] at ho
  cases ho
  have l1 : es.size = xs.length := size_of_entries he
  have l2 : kvs.length = xs.length := Paired.length pr
  refine ⟨hs, hd, hx, es, ep, hdt, by omega, fun i k v e => ?_⟩
  obtain ⟨b, hb, e1, e2, e3⟩ := paired_get pr e
  have q := entry_at he i
  rw [hb] at q
  exact ⟨_, b.2.1, q, rfl, e2, e3⟩
theorem turn_itemsT {P : Program} {w : World} {K : PySem.W.Frag} {elts : List Expr} {kk : Nat} {tpos : Pos} {d it : Addr} {o : Obj} {es : Array DictEntry} {ep : Nat} {kvs : List (List Key × V)} (hod : o.data = .dict es ep) (hne : d ≠ it) :
    Turn P w K (.Tuple elts kk tpos) (ItTi d o kvs) [it] it (fun i h => ∃ ok ov, IsItemIter h it d i es.size ep ok ov) := by
  refine turn_pairs (by simp) (fun i h st c hc => ?_) (fun i h h' st k => ?_) (fun X hP hw hK hc i pins s σ H I st hg => ?_) fun A i s Q E st h => ?_
  · obtain ⟨ok, ov, e⟩ := st
    simp only [List.mem_cons, List.not_mem_nil, or_false] at hc
    rw [hc]
    exact ⟨_, e, fun v z => nomatch z⟩
  · obtain ⟨ok, ov, e⟩ := st
    exact ⟨ok, ov, k it (by simp) _ e⟩
  · subst hP hw hK
    have hd : H d = some (.frz o (.dT kvs)) := by rcases hg with z | z <;> exact z.1
    obtain ⟨hs, hgd, hx, es', ep', hdt, hsz, ent⟩ := frzT2 I hd
    obtain ⟨rfl, rfl⟩ := dict_ep hod hdt
    refine ⟨_, _, _, _, _, GoesN.ofWalksT (WalksT.rawItems (I.ok.hd hc) it d hne es' ep'), fun b hb => hb, ⟨st, ⟨o, hgd, hx, hdt⟩⟩, fun j h z => z.1, fun q => ?_, fun q => ?_⟩
    · obtain ⟨_, hi⟩ := q
      refine ⟨by omega, fun v h hy => ?_⟩
      obtain ⟨T, vals, rfl, hT, ⟨hi', rfl⟩, ht⟩ := hy
      obtain ⟨⟨k, y⟩, hkv⟩ : ∃ p, kvs[i]? = some p := ⟨kvs[i], List.getElem?_eq_getElem hi⟩
      obtain ⟨en, q, hen, hkey, hq, rv⟩ := ent i k y hkv
      have ee : es'[i] = en := by rw [Array.getElem?_eq_getElem hi'] at hen; exact Option.some.inj hen
      rw [ee, hkey] at ht
      exact ⟨T, .ref q, y, .ref q, en.val, rfl, hT, ht, rfl, rv, T, q, k, y, hkv, hq, rfl, I.hok.fresh hT, rfl⟩
    · rw [hsz]; exact q.2
  · obtain ⟨_, _, e⟩ := st
    exact PySem.W.kcp_self e h
def iItemsT (td : TE) : TI := fun σ H R => td σ H fun x H1 => ∃ d o kvs, x = .ref d ∧ H1 d = some (.frz o (.dT kvs)) ∧ R (ItTi d o kvs) H1
theorem pi_itemsT {X : Cx} {e : Expr} {td : TE} {apos cpos tpos : Pos} {elts : List Expr} {kk : Nat} (he : PE X e td) (hbase : attributeBase e "items" X.env (eval e X.env) = eval e X.env := by rfl) (hline : (apos.endLine == cpos.line) = true := by rfl) :
    PI X (.Tuple elts kk tpos) (.Call (.Attribute e "items" apos) [] [] cpos) (iItemsT td) := by
  refine ⟨fun pins s σ H R I h => ?_⟩
  refine wpAny_Call_method (T := "dict") (id := "dict.items") hbase rfl hline F.plainAttrs_dict F.slot_dict_items F.type_dict_items (thn (he.run pins s σ H _ I h) fun u s1 ⟨x, H1, I1, rx, d, o, kvs, ex, hd, q⟩ => ?_)
  subst ex
  obtain rfl : u = Value.ref d := rx
  obtain ⟨hs, hgd, hx, es, ep, hdt, hsz, ent⟩ := frzT2 I1 hd
  have raw : s1.heap.DictRaw d es ep := ⟨o, hgd, hx, hdt⟩
  refine ⟨raw.typeIs, fun b z => by cases z; exact ⟨o, hgd, hx.2.1⟩, ?_⟩
  have I2 : Inv X pins σ H1 { s1 with heap := s1.heap.push { cls := .type "dict_items", data := .fields #[.ref d] } } := I1.kept (t' := s1.toks) fun b ob q => Heap.get?_push_of_some _ q
  have fin : wpAny (model X.prog X.w) X.A (pyIter (.ref s1.heap.objs.size)) (PIE X pins σ (.Tuple elts kk tpos) R) X.xe { s1 with heap := s1.heap.push { cls := .type "dict_items", data := .fields #[.ref d] } } := by
    refine wpAny_pyIter_items_raw (d := d) ⟨_, Heap.get?_push_size _ rfl, rfl, rfl⟩ (raw.push _) (pi_one (tk := s1.toks) I2 _ (turn_itemsT hdt (Nat.ne_of_lt (Nat.lt_of_lt_of_le raw.lt_size (by rw [Heap.size_push]; exact Nat.le_succ _)))) ⟨.none, .none, ?_⟩ q)
    exact Heap.get?_push_size _ rfl
  show wpAny _ _ (callWith cpos (.builtin "dict.items") [.ref d] [] []) _ X.xe s1
  exact method_meetsIn F.slot_dict_items F.entry_dict_items rfl (PySem.evalArgs_none ⟨rfl, raw.typeIs, F.args_dict_items_1 _, _, meets_dict_items_raw d hs, ⟨es, ep, raw⟩, fin⟩)
/-! ### the keys of a dict of FfB -/
def ItO (P : Program) (w : World) (d : Addr) (o : Obj) (kvs : List (Wd × V)) : It :=
  ⟨fun i H => H d = some (.frz o (DO P w d kvs)) ∧ i < kvs.length, fun i H x H' => H' = H ∧ ∃ k v, kvs[i]? = some (k, v) ∧ x = wV k, fun i H => H d = some (.frz o (DO P w d kvs)) ∧ kvs.length ≤ i⟩
theorem frzO {X : Cx} {pins : List (Addr × Obj)} {σ : L2.St} {H : Hp} {s : Shared} {d : Addr} {o : Obj} {kvs : List (Wd × V)} (I : Inv X pins σ H s) (h : H d = some (.frz o (DO X.prog X.w d kvs))) :
    (d == sysModules) = false ∧ s.heap.get? d = some o ∧ o.ExactDict ∧ ∃ (es : Array DictEntry) (ep : Nat) (vs : List (Wd × Value)), o.data = .dict es ep ∧ es.size = kvs.length ∧ KV kvs vs ∧ s.heap.DictAt (wKind X.prog X.w) d vs ep := by
  obtain ⟨hd, u⟩ := I.hok d _ h
  obtain ⟨z, hs, vs, kv, o', es, ep, ho, hx, hdt, r⟩ := u.1
  rw [hd] at ho
  cases ho
  have l1 := r.2.1.length
  have l2 : kvs.length = vs.length := Paired.length kv
  rw [Array.length_toList] at l1
  exact ⟨hs, hd, hx, es, ep, vs, hdt, by omega, kv, o, es, hd, hx, hdt, r⟩
theorem turn_keysO {P : Program} {w : World} {K : PySem.W.Frag} {tg : Expr} {d : Addr} {o : Obj} {es : Array DictEntry} {ep : Nat} {kvs : List (Wd × V)} (it : Addr) (hod : o.data = .dict es ep) :
    Turn P w K tg (ItO P w d o kvs) [it] it (fun i h => h.IsKeyIter it d i kvs.length ep) where
  mem := by simp
  obj := fun i h ⟨oi, e, c, dd⟩ b hb => by
    rw [List.mem_singleton.mp hb]
    exact ⟨oi, e, fun v z => by rw [dd] at z; cases z⟩
  keep := fun i h h' st k => st.at fun oi e => k it (by simp) oi e
  item := by
    intro X hP hw hK hc i pins s σ H E I hf st ⟨hd, hi⟩
    subst hP hw hK
    obtain ⟨f0, f1, f2, f3, f4, f5⟩ := hf it (by simp)
    obtain ⟨hs, hgd, hx, es', ep', vs, hdt, hsz, kv, hm⟩ := frzO I hd
    obtain ⟨rfl, rfl⟩ := dict_ep hod hdt
    obtain ⟨⟨k, v⟩, hkv⟩ : ∃ p, kvs[i]? = some p := ⟨kvs[i], List.getElem?_eq_getElem hi⟩
    obtain ⟨u, hu, ru⟩ := kv_get kv hkv
    have hl : kvs.length = vs.length := Paired.length kv
    simp only [hl] at st ⊢
    refine wpAny_pyNext_dict_item st hm hu fun key h' hkey st' sb => ?_
    have I1 : Inv X pins σ H { s with heap := h' } := I.turned (t' := s.toks) (fun b ob hb e => (sb.2 b hb).trans e) f0 f1 f3 f4 f5
    obtain ⟨oi, e, c, dd⟩ := id st'
    exact ⟨key, rfl, go_of (s := { s with heap := h' }) e c dd (by decide) ⟨wV k, H, I1, wKind_rel hkey, ⟨rfl, k, v, hkv, rfl⟩, st', fun b hb => (hf b hb).1⟩⟩
  done := by
    intro X hP hw hK hc i pins s σ H E I hf st ⟨hd, hi⟩
    subst hP hw hK
    obtain ⟨f0, f1, f2, f3, f4, f5⟩ := hf it (by simp)
    obtain ⟨hs, hgd, hx, es', ep', vs, hdt, hsz, kv, hm⟩ := frzO I hd
    obtain ⟨rfl, rfl⟩ := dict_ep hod hdt
    exact next_key_end (I.ok.hd hc) st hgd hdt hsz hi fun h' eb => ⟨rfl, I.turned (t' := s.toks) (fun b ob hb e => eb b ob hb e) f0 f1 f3 f4 f5⟩
  self := fun A i s Q E st h => wpAny_pyIter_keyiter st h
def iKeysO (P : Program) (w : World) (td : TE) : TI := fun σ H R => td σ H fun x H1 => ∃ d o kvs, x = .ref d ∧ H1 d = some (.frz o (DO P w d kvs)) ∧ R (ItO P w d o kvs) H1
theorem pi_keysO {X : Cx} {tg e : Expr} {td : TE} (he : PE X e td) : PI X tg e (iKeysO X.prog X.w td) := by
  refine ⟨fun pins s σ H R I h => ?_⟩
  refine thn (he.run pins s σ H _ I h) fun u s1 ⟨x, H1, I1, rx, d, o, kvs, ex, hd, q⟩ => ?_
  subst ex
  obtain rfl : u = Value.ref d := rx
  obtain ⟨hs, hgd, hx, es, ep, vs, hdt, hsz, kv, hm⟩ := frzO I1 hd
  refine iter_keys hs hgd hx hdt (pi_one (tk := s1.toks) I1 _ (turn_keysO _ hdt) ⟨_, Heap.get?_push_size _ rfl, rfl, ?_⟩ q)
  rw [hsz] <;> rfl
theorem walkO {P : Program} {w : World} {d : Addr} {o : Obj} {kvs : List (Wd × V)} : Walk (ItO P w d o kvs) kvs.length (fun H => H d = some (.frz o (DO P w d kvs))) (fun i H x H' => H' = H ∧ ∃ k v, kvs[i]? = some (k, v) ∧ x = wV k) :=
  ⟨fun i H hi h => ⟨h, hi⟩, fun H h => ⟨h, Nat.le_refl _⟩, fun i H x H' hi h y => y⟩
end Ff
end
section
set_option maxRecDepth 100000
set_option maxHeartbeats 4000000
/-! Comprehensions that fill a set of ints or a dict of FfB: one core for both. -/
namespace Ff
open PySem PySem.Spec PyProof.Rows L2
/-- what a turn does behind its tests: the end it wants of the state, of an error -/
abbrev Tail := Around → Env → Addr → (Shared → Prop) → (Value → Shared → Prop) → Shared → Prop
/-- its reading over slots and heap -/
abbrev TTail := L2.St → Hp → Addr → (Hp → Prop) → Prop
def PTail (X : Cx) (T : Tail) (t : TTail) : Prop :=
  ∀ (pins : List (Addr × Obj)) (s : Shared) (σ : L2.St) (H : Hp) (D : Addr) (N : Hp → Prop) (Q : Shared → Prop) (E : Value → Shared → Prop), Inv X pins σ H s → t σ H D N →
    (∀ s' H', Inv X pins σ H' s' → N H' → Q s') → T X.A X.env D Q E s
/-- one turn of the block, as the model takes it -/
def Turns (M : Model) (A : Around) (env : Env) (tg : Expr) (ifs : List Expr) (T : Tail) (it : Value) (D : Addr) (R : Result → Shared → Prop) (I : Nat → Shared → Prop) (n : Nat) (s : Shared) : Prop :=
  wpAny M A (pyNext it) (fun r s₁ => match r with
    | none => R (.ok .next) s₁
    | some v => wpAny M A (letOwnedTupleGo tg it v) (fun _ s₂ => wpAny M A (assign tg env v) (fun _ s₃ =>
        wpAny M A (forIn ifs true fun c r => if r = true then do let ok ← isTrue c env (eval c env); pure (ForInStep.yield ok) else pure (ForInStep.yield r)) (fun ok s₄ =>
          if ok = true then T A env D (fun s₅ => ∃ m, m < n ∧ I m s₅) (notedBy M A env fun e s' => R (.error e) s') s₄ else ∃ m, m < n ∧ I m s₄)
          (notedBy M A env fun e s' => R (.error e) s') s₃) (notedBy M A env fun e s' => R (.error e) s') s₂) (notedBy M A env fun e s' => R (.error e) s') s₁)
    (notedBy M A env fun e s' => R (.error e) s') s
/-- the reading: u0 what the new object is at first -/
def tComp (u0 : Addr → HO) (wi : TI) (g : TG) (tt : TT) (te : TTail) (vs : List Nat) : TE := fun σ H Q => wi σ H fun J H1 => ∀ D, H1 D = none → ∃ W : Nat → Nat → Hp → Prop, (∃ m, W 0 m (upd H1 D (u0 D))) ∧ ∀ i m H, W i m H →
  (J.stop i H ∧ Q (.ref D) H) ∨ (J.go i H ∧ ∃ Nx : Hp → Prop, (∀ H', Nx H' → ∃ m', m' < m ∧ W (i + 1) m' H') ∧ ∀ x H', J.yld i H x H' → g x (wipe σ vs) H' fun σ2 H2 =>
    wipe σ2 vs = wipe σ vs ∧ tt σ2 H2 fun b H3 => if b = true then te σ2 H3 D Nx else Nx H3)
section
variable {X : Cx}
theorem comp_any {comp tg iter : Expr} {ifs : List Expr} {scope : Scope} {own : List (PySem.Str × Nat)} {pos : Pos} {mk : Sem Value} {o0 : Obj} {u0 : Addr → HO} {T : Tail} {wi : TI} {g : TG} {tt : TT} {te : TTail} (hc : X.calm = true) (hN : X.N.Nodup)
    (hev : eval comp X.env = comprehension comp scope X.env pos mk false (eval iter X.env) none) (hcl : clausesOf comp = [⟨tg, iter, ifs, 0⟩])
    (hmk : ∀ {s : Shared} {Q : Value → Shared → Prop} {E : Value → Shared → Prop}, Q (.ref s.heap.objs.size) { s with heap := s.heap.push o0 } → wpAny (model X.prog X.w) X.A mk Q E s)
    (hu0 : ∀ (h : Heap) (H' : Hp), sysModules < h.objs.size → ObjOk X.prog X.w H' (h.push o0) h.objs.size (u0 h.objs.size))
    (hstart : ∀ {R : Result → Shared → Prop} {env : Env} {it acc : Value} {s : Shared}, codeAny (model X.prog X.w) X.A (.compLoop comp 0 it acc env) R s →
      wpAny (model X.prog X.w) X.A (pyIter it) (fun it' s' => codeAny (model X.prog X.w) X.A (.compLoop comp 0 it' acc env) R s') (notedBy (model X.prog X.w) X.A env fun x s' => R (.error x) s') s →
      codeAny (model X.prog X.w) X.A (.compStart comp 0 it acc env) R s)
    (hloop : ∀ {R : Result → Shared → Prop} {env : Env} {it D : Addr} (I : Nat → Shared → Prop), (∀ n s, I n s → Turns (model X.prog X.w) X.A env tg ifs T (.ref it) D R I n s) → ∀ n s, I n s → codeAny (model X.prog X.w) X.A (.compLoop comp 0 (.ref it) (.ref D) env) R s)
    (hi : PI X tg iter wi) (ok : BlkOk X.N X.env.scope scope own)
    (hg : ∀ (s : Shared) (H : Hp) (C : Addr) (cl : List (PySem.Str × Addr)) (fp : List Addr), PG (X.blk s H scope (compEnvC scope cl C X.env) fp) tg g)
    (ht : ∀ (s : Shared) (H : Hp) (C : Addr) (cl : List (PySem.Str × Addr)) (fp : List Addr), PTs (X.blk s H scope (compEnvC scope cl C X.env) fp) ifs tt)
    (he : ∀ (s : Shared) (H : Hp) (C : Addr) (cl : List (PySem.Str × Addr)) (fp : List Addr), PTail (X.blk s H scope (compEnvC scope cl C X.env) fp) T te)
    (hs : ∀ x, foldedSetIterable iter X.env x = pure x) : PE X comp (tComp u0 wi g tt te (own.map (·.2))) := by
  refine ⟨fun pins s σ H Q I h => ?_⟩
  have cells : ∀ y ∈ scope.names, y.2 = .free → ∃ c, X.env.cells.lookup y.1 = some c := fun y hy e => (ok.free y hy e).elim (fun k => I.ok.has _ (.inl k)) fun k => I.ok.has _ (.inr k)
  rw [hev]
  refine wpAny_comprehension_free hcl hs (closure_ok cells) ok.kind (fun y hy e => by rw [ok.uniq y hy, e]) (thn (hi.run pins s σ H _ I h) fun xv s1 hx => thn hx fun itv s2 h2 => ?_)
  obtain ⟨it, fp, tn, J, H2, rfl, I2, TN, st2, f2, q⟩ := h2
  refine hmk (newEnv_comp ?_)
  obtain ⟨D, hD⟩ : ∃ D, s2.heap.objs.size = D := ⟨_, rfl⟩
  obtain ⟨H3, eH3⟩ : ∃ H3, upd H2 D (u0 D) = H3 := ⟨_, rfl⟩
  obtain ⟨s3, es3⟩ : ∃ s3 : Shared, { s2 with heap := s2.heap.push o0 } = s3 := ⟨_, rfl⟩
  have up3 : ∀ b o, s2.heap.get? b = some o → s3.heap.get? b = some o := fun b o e => by rw [← es3]; exact Heap.get?_push_of_some _ e
  have I3 : Inv X pins σ H3 s3 := by
    have new := hu0 s2.heap (upd H2 s2.heap.objs.size (u0 s2.heap.objs.size)) I2.big
    rw [← eH3, ← es3, ← hD]
    exact I2.laid (t' := s2.toks) (fun b o e => Heap.get?_push_of_some _ e) (Nat.le_refl _) new
  have f3 : ∀ b ∈ fp, FpOk X pins H3 b ∧ b < s3.heap.objs.size := fun b hb => by
    obtain ⟨o, e, _⟩ := TN.obj _ _ st2 b hb
    refine ⟨⟨?_, (f2 b hb).2⟩, Heap.lt_size (up3 b o e)⟩
    rw [← eH3, upd_ne (by rw [← hD]; exact Nat.ne_of_lt (Heap.lt_size e))]
    exact (f2 b hb).1
  have B := block_start I3 ok hN f3
  obtain ⟨cl, ecl⟩ : ∃ cl, cellsFrom (s3.heap.objs.size + 1) scope.names (cloFrom X.env.cells scope.names []) = cl := ⟨_, rfl⟩
  rw [ecl] at B
  have pg := hg s3 H3 s3.heap.objs.size cl fp
  have pt := ht s3 H3 s3.heap.objs.size cl fp
  have pe := he s3 H3 s3.heap.objs.size cl fp
  rw [show s2.heap.objs.size = D from hD]
  show codeAny _ _ (.compStart comp 0 (.ref it) (.ref D) _) _ _
  rw [es3]
  show codeAny _ _ (.compStart comp 0 (.ref it) (.ref D) (compEnvC scope (cellsFrom (s3.heap.objs.size + 1) scope.names (cloFrom X.env.cells scope.names [])) s3.heap.objs.size X.env)) (compPost (model X.prog X.w) X.A X.xe none _ (.ref D) s3.heap.objs.size)
    { s3 with heap := pushCells (s3.heap.push { cls := .type "dict", data := .dict #[] }) scope.names }
  rw [ecl]
  obtain ⟨s4, es4⟩ : ∃ s4 : Shared, { s3 with heap := pushCells (s3.heap.push { cls := .type "dict", data := .dict #[] }) scope.names } = s4 := ⟨_, rfl⟩
  rw [es4] at B ⊢
  have st4 : tn 0 s4.heap := TN.keep _ _ _ st2 fun b _ o e => by rw [← es4]; exact pushCells_keeps _ _ _ _ (Heap.get?_push_of_some _ (up3 b o e))
  obtain ⟨ce, ece⟩ : ∃ ce, compEnvC scope cl s3.heap.objs.size X.env = ce := ⟨_, rfl⟩
  rw [ece] at B pg pt pe ⊢
  have cL : ce.locals = s3.heap.objs.size := by rw [← ece]; rfl
  obtain ⟨W, ⟨m0, w0⟩, turn⟩ := q D (I2.hok.fresh (Nat.le_of_eq hD))
  rw [eH3] at w0
  let XB : Cx := X.blk s3 H3 scope ce fp
  have stat : ∀ {pins' : List (Addr × Obj)} {σ' : L2.St} {H' : Hp} {s' : Shared}, Inv XB [] σ' H' s' → (∀ b ∈ fp, H' b = none) → ∀ b ∈ fp, FpOk XB [] H' b := fun {_ σ' H' s'} I' hn b hb =>
    ⟨hn b hb, (I'.ok.exf b hb).1, I'.ok.exfs b hb, .inl hb, fun x c e => (I'.ok.exf b hb).2 x c e, fun p hp => absurd (show p ∈ ([] : List (Addr × Obj)) ++ [] from hp) (by simp)⟩
  have loop : codeAny (model X.prog X.w) X.A (.compLoop comp 0 (.ref it) (.ref D) ce) (compPost (model X.prog X.w) X.A X.xe none (EP X pins σ Q) (.ref D) s3.heap.objs.size) s4 := by
    refine hloop (fun n s' => ∃ i H', Inv XB [] (wipe σ (own.map (·.2))) H' s' ∧ tn i s'.heap ∧ (∀ b ∈ fp, H' b = none) ∧ W i n H') ?_ m0 s4 ⟨0, H3, B, st4, fun b hb => (f3 b hb).1.1, w0⟩
    rintro n s5 ⟨i, H5, I5, st5, n5, w5⟩
    rcases turn i n H5 w5 with ⟨stop, qq⟩ | ⟨go, Nx, hNx, step⟩
    · refine thnF (TN.done XB rfl rfl rfl hc i [] s5 _ H5 (fun _ _ => False) I5 (stat (pins' := []) I5 n5) st5 stop) fun r s6 ⟨hr, I6⟩ => ?_
      subst hr
      have I7 : Inv X pins σ H5 s6 := I3.call' (ch := fp) I6.os I6.base I6.hok I6.bare fun b hb => ⟨(f3 b hb).1.2.2.2.1, (f3 b hb).1.2.1, (f3 b hb).1.2.2.2.2.1, (f3 b hb).1.2.2.2.2.2⟩
      have nC : H5 s3.heap.objs.size = none := by rw [← cL]; exact I6.free
      obtain ⟨m, hn, _⟩ := I6.loc
      refine ⟨m, by rw [← cL]; exact hn, fun h'' sb => ?_⟩
      obtain ⟨k0, k1, k2, k3, k4, k5⟩ := I3.fpOk (Nat.le_refl _) nC
      exact ⟨.ref D, H5, I7.turned (t' := s6.toks) (fun b o hb e => (sb.2 b hb).trans e) k0 k1 k3 k4 k5, rfl, qq⟩
    · refine thnF (TN.item XB rfl rfl rfl hc i [] s5 _ H5 (fun _ _ => False) I5 (stat (pins' := []) I5 n5) st5 go) fun r s6 ⟨u, hr, h6⟩ => ?_
      subst hr
      refine thnF h6 fun _ s7 ⟨x, H7, I7, r7, y7, st7, n7⟩ => ?_
      have P7 := I7.pinned (stat (pins' := []) I7 n7) (TN.obj _ _ st7)
      refine thnF (pg.run _ s7 _ H7 x u _ P7 r7 (step x H7 y7)) fun _ s8 ⟨σ8, H8, I8, hw8, q8⟩ => ?_
      refine thnF (pt.run _ s8 σ8 H8 _ I8 q8) fun b s9 ⟨H9, I9, q9⟩ => ?_
      have fin : ∀ {s' : Shared} {H' : Hp}, Inv XB ([] ++ pinsAt fp s7.heap) σ8 H' s' → Nx H' → ∃ m, m < n ∧ ∃ i H', Inv XB [] (wipe σ (own.map (·.2))) H' s' ∧ tn i s'.heap ∧ (∀ b ∈ fp, H' b = none) ∧ W i m H' := fun {s' H'} I' nx => by
        obtain ⟨m', hm, w'⟩ := hNx H' nx
        have pin : ∀ b ∈ fp, ∀ o, s7.heap.get? b = some o → s'.heap.get? b = some o ∧ H' b = none := fun b hb o e =>
          let z := I'.pin (b, o) (List.mem_append_right _ (List.mem_append_right _ (mem_pinsAt hb e)))
          ⟨z.1, z.2.1⟩
        refine ⟨m', hm, i + 1, H', (I'.unpinned (pins := [])).weak (by rw [← hw8, wipe_length]) (fun j v e => ?_), TN.keep _ _ _ st7 fun b hb o e => (pin b hb o e).1, fun b hb => ?_, w'⟩
        · rw [← hw8] at e
          exact (wipe_some e).1
        · obtain ⟨o, e, _⟩ := TN.obj _ _ st7 b hb
          exact (pin b hb o e).2
      cases b with
      | false => exact fin I9 q9
      | true => exact pe _ s9 σ8 H9 D Nx _ _ I9 q9 fun s' H' I' nx => fin I' nx
  exact hstart loop (TN.self X.A 0 _ _ _ st4 loop)
/-! ### {k: v for ..}, the keys None or texts -/
def tailD (P : Program) (w : World) (kx vx : Expr) : Tail := fun A env D Q E s => wpAny (model P w) A (eval kx env) (fun kv s₁ => wpAny (model P w) A (eval vx env) (fun vv s₂ => wpAny (model P w) A (dictSet D kv vv) (fun _ s₃ => Q s₃) E s₂) E s₁) E s
def teD (P : Program) (w : World) (tk tv : TE) : TTail := fun σ H D N => tk σ H fun y H1 => tv σ H1 fun z H2 => ∃ kvs k, y = wV k ∧ H2 D = some (DO P w D kvs) ∧ kvs.length < sizeLine ∧ N (upd H2 D (DO P w D (putK kvs k z)))
theorem pe_dcO {kx vx tg iter : Expr} {ifs : List Expr} {scope : Scope} {own : List (PySem.Str × Nat)} {pos : Pos} {wi : TI} {g : TG} {tt : TT} {tk tv : TE} (hc : X.calm = true) (hN : X.N.Nodup) (hi : PI X tg iter wi) (ok : BlkOk X.N X.env.scope scope own)
    (hg : ∀ (s : Shared) (H : Hp) (C : Addr) (cl : List (PySem.Str × Addr)) (fp : List Addr), PG (X.blk s H scope (compEnvC scope cl C X.env) fp) tg g)
    (ht : ∀ (s : Shared) (H : Hp) (C : Addr) (cl : List (PySem.Str × Addr)) (fp : List Addr), PTs (X.blk s H scope (compEnvC scope cl C X.env) fp) ifs tt)
    (hk : ∀ (s : Shared) (H : Hp) (C : Addr) (cl : List (PySem.Str × Addr)) (fp : List Addr), PE (X.blk s H scope (compEnvC scope cl C X.env) fp) kx tk)
    (he : ∀ (s : Shared) (H : Hp) (C : Addr) (cl : List (PySem.Str × Addr)) (fp : List Addr), PE (X.blk s H scope (compEnvC scope cl C X.env) fp) vx tv) (hs : ∀ x, foldedSetIterable iter X.env x = pure x := by intro _; rfl) :
    PE X (.DictComp kx vx [⟨tg, iter, ifs, 0⟩] scope pos) (tComp (fun D => DO X.prog X.w D []) wi g tt (teD X.prog X.w tk tv) (own.map (·.2))) := by
  refine comp_any (T := tailD X.prog X.w kx vx) (o0 := { cls := .type "dict", data := .dict #[] }) hc hN (arm_eval_DictComp ..) rfl (fun h => wpAny_newObj_type h) (fun h H' hb => do_new (dfact_nil h hb)) (fun h h' => codeAny_compStart_dict h h') (fun I t n s h => compLoop_anyD I t n h) hi ok hg ht ?_ hs
  intro s1 H1 C cl fp pins s σ H D N Q E I h fin
  refine thnF ((hk s1 H1 C cl fp).run pins s σ H _ I h) fun u s2 ⟨y, H2, I2, ry, q2⟩ => ?_
  refine thnF ((he s1 H1 C cl fp).run pins s2 σ H2 _ I2 q2) fun u' s3 ⟨z, H3, I3, rz, kvs, k, ey, eD, l, n⟩ => ?_
  subst ey
  obtain ⟨sz, hd, vs, rel, dd⟩ := do_rd I3.hok (.inl eD)
  exact wpAny_dictSet_pairs (hsz := by rw [← rel.length]; exact sz) (wKind_of ry) dd fun h' dd' hs' => fin _ _ (o_store I3 eD l rel hd rz dd' hs') n
/-! ### {e for ..}, ints -/
def tailS (P : Program) (w : World) (elt : Expr) : Tail := fun A env D Q E s => wpAny (model P w) A (eval elt env) (fun x s₁ => wpAny (model P w) A (call (.builtin "set.add") [.ref D, x]) (fun _ s₂ => Q s₂) E s₁) E s
def teS (w : World) (te : TE) : TTail := fun σ H D N => te σ H fun y H1 => ∃ (c : Int) (S : Int → Bool) (n : Nat), y = .int c ∧ H1 D = some (SetO w D S n) ∧ n + 1 < scanBound ∧ N (upd H1 D (SetO w D (fun j => S j || decide (j = c)) (if S c = true then n else n + 1)))
theorem pe_scI {elt tg iter : Expr} {ifs : List Expr} {scope : Scope} {own : List (PySem.Str × Nat)} {pos : Pos} {wi : TI} {g : TG} {tt : TT} {te : TE} (hc : X.calm = true) (hN : X.N.Nodup) (hi : PI X tg iter wi) (ok : BlkOk X.N X.env.scope scope own)
    (hg : ∀ (s : Shared) (H : Hp) (C : Addr) (cl : List (PySem.Str × Addr)) (fp : List Addr), PG (X.blk s H scope (compEnvC scope cl C X.env) fp) tg g)
    (ht : ∀ (s : Shared) (H : Hp) (C : Addr) (cl : List (PySem.Str × Addr)) (fp : List Addr), PTs (X.blk s H scope (compEnvC scope cl C X.env) fp) ifs tt)
    (he : ∀ (s : Shared) (H : Hp) (C : Addr) (cl : List (PySem.Str × Addr)) (fp : List Addr), PE (X.blk s H scope (compEnvC scope cl C X.env) fp) elt te) (hs : ∀ x, foldedSetIterable iter X.env x = pure x := by intro _; rfl) :
    PE X (.SetComp elt [⟨tg, iter, ifs, 0⟩] scope pos) (tComp (fun D => SetO X.w D (fun _ => false) 0) wi g tt (teS X.w te) (own.map (·.2))) := by
  refine comp_any (T := tailS X.prog X.w elt) hc hN (PpSet.eval_SetComp ..) rfl (fun h => PpSet.newSet_ok h) (fun h H' hb => setO_new (setR_fresh X.w)) (fun h h' => PpSet.codeAny_compStart_set h h') (fun I t n s h => PpSet.compLoopS_any I t n h) hi ok hg ht ?_ hs
  intro s1 H1 C cl fp pins s σ H D N Q E I h fin
  refine thnF ((he s1 H1 C cl fp).run pins s σ H _ I h) fun u s2 ⟨y, H2, I2, ry, c, S, n, ey, eD, l, z⟩ => ?_
  subst ey
  obtain ⟨tk, rfl⟩ := ry
  refine setR_add (setO_get (X := X.blk s1 H1 scope (compEnvC scope cl C X.env) fp) I2 eD) l fun h' sb new => fin _ _ ?_ z
  obtain ⟨o, _, _, _, ho, _⟩ := id new
  exact I2.write (e := D) (t' := s2.toks + 1) (by rw [eD]; trivial) (.inl rfl) (fun b u hb hu => (sb.2 b hb).trans hu) ⟨o, ho⟩ (setO_new new)
/-- the form one uses, over whatever is walked -/
theorem comp_it {J : It} {n : Nat} {G : Hp → Prop} {Y : Nat → Hp → V → Hp → Prop} (w : Walk J n G Y) {u0 : Addr → HO} {g : TG} {tt : TT} {te : TTail} {vs : List Nat} {σ : L2.St} {H1 : Hp} {D : Addr} {Qd : Hp → Prop} (Pv : Nat → Hp → Prop) (h0 : Pv 0 (upd H1 D (u0 D))) (hG : ∀ i H, i ≤ n → Pv i H → G H)
    (hs : ∀ i x H H', i < n → Pv i H → Y i H x H' → g x (wipe σ vs) H' fun σ2 H2 => wipe σ2 vs = wipe σ vs ∧ tt σ2 H2 fun b H3 => if b = true then te σ2 H3 D (Pv (i + 1)) else Pv (i + 1) H3) (hd : ∀ H, Pv n H → Qd H) :
    ∃ W : Nat → Nat → Hp → Prop, (∃ m, W 0 m (upd H1 D (u0 D))) ∧ ∀ i m H, W i m H → (J.stop i H ∧ Qd H) ∨ (J.go i H ∧ ∃ Nx : Hp → Prop, (∀ H', Nx H' → ∃ m', m' < m ∧ W (i + 1) m' H') ∧ ∀ x H', J.yld i H x H' → g x (wipe σ vs) H' fun σ2 H2 =>
      wipe σ2 vs = wipe σ vs ∧ tt σ2 H2 fun b H3 => if b = true then te σ2 H3 D Nx else Nx H3) := by
  refine ⟨fun i m H => m = n - i ∧ i ≤ n ∧ Pv i H, ⟨n, rfl, Nat.zero_le _, h0⟩, ?_⟩
  rintro i m H ⟨rfl, hi, p⟩
  rcases Nat.lt_or_ge i n with hlt | hge
  · exact .inr ⟨w.goes i H hlt (hG i H hi p), Pv (i + 1), fun H' p' => ⟨n - (i + 1), by omega, rfl, hlt, p'⟩, fun x H' y => hs i x H H' hlt p (w.yields i H x H' hlt (hG i H hi p) y)⟩
  · have e : i = n := by omega
    subst e
    exact .inl ⟨w.stops H (hG _ H hi p), hd H p⟩
end
end Ff
end
section
set_option maxRecDepth 100000
set_option maxHeartbeats 4000000
/-! Words of the walk: what a heap keeps, promises, comprehensions, tactics. -/
namespace Ff
open PySem PySem.Spec PyProof.Rows L2
def top (i : Nat) : Stmt := PySem.Challenge.pw_flashfolds_k94_whole_hidden_speeds.main.body.getD i (.Pass ⟨0, 0, 0, 0⟩)
/-- everything tracked stays -/
def Ex (H H' : Hp) : Prop := ∀ a o, H a = some o → H' a = some o
theorem Ex.refl (H : Hp) : Ex H H := fun _ _ h => h
theorem Ex.trans {H H1 H2 : Hp} (a : Ex H H1) (b : Ex H1 H2) : Ex H H2 := fun x o h => b x o (a x o h)
theorem Ex.mut {H H' : Hp} {p : Addr} {o : HO} (e : Ex H H') (h : H p = none) : Ex H (upd H' p o) := fun a u ha => by
  rw [upd_ne (ne_of_none ha h)]
  exact e a u ha
theorem Ex.back {H H' : Hp} {p : Addr} (e : Ex H H') (h : H' p = none) : H p = none := by
  cases h1 : H p with
  | none => rfl
  | some o =>
    rw [e p o h1] at h
    cases h
theorem Ex.new {H H' : Hp} {p : Addr} {o : HO} (e : Ex H H') (h : H' p = none) : Ex H (upd H' p o) := e.mut (e.back h)
theorem Ex.at {H H' : Hp} {a : Addr} {o : HO} (h : H a = some o) (e : Ex H H') : H' a = some o := e a o h
theorem upd_old {H : Hp} {a p : Addr} {o o' : HO} (h : H a = some o) (hp : H p = none) : upd H p o' a = some o := by
  rw [upd_ne (ne_of_none h hp)]
  exact h
theorem upd_off {H : Hp} {a p : Addr} {o o' : HO} (h : H a = some o) (hp : a ≠ p) : upd H p o' a = some o := by
  rw [upd_ne hp]
  exact h
theorem upd_none {H : Hp} {a p : Addr} {o' : HO} (h : upd H p o' a = none) : H a = none := by
  by_cases e : a = p
  · subst e
    rw [upd_same] at h
    cases h
  · rw [upd_ne e] at h
    exact h
/-- .. all but at d and l, and nothing is lost -/
def Exd (d l : Addr) (H H' : Hp) : Prop := (∀ a o, a ≠ d → a ≠ l → H a = some o → H' a = some o) ∧ ∀ a, H' a = none → H a = none
theorem Exd.refl {d l : Addr} (H : Hp) : Exd d l H H := ⟨fun _ _ _ _ h => h, fun _ h => h⟩
theorem Exd.trans {d l : Addr} {H H1 H2 : Hp} (a : Exd d l H H1) (b : Exd d l H1 H2) : Exd d l H H2 := ⟨fun x o h1 h2 h => b.1 x o h1 h2 (a.1 x o h1 h2 h), fun x h => a.2 x (b.2 x h)⟩
theorem Exd.mut {d l : Addr} {H H' : Hp} {p : Addr} {o : HO} (e : Exd d l H H') (h : H p = none) : Exd d l H (upd H' p o) := ⟨fun a u h1 h2 ha => by
  rw [upd_ne (ne_of_none ha h)]
  exact e.1 a u h1 h2 ha, fun a ha => e.2 a (upd_none ha)⟩
theorem Exd.new {d l : Addr} {H H' : Hp} {p : Addr} {o : HO} (e : Exd d l H H') (h : H' p = none) : Exd d l H (upd H' p o) := e.mut (e.2 _ h)
theorem Exd.own {d l : Addr} {H H' : Hp} {p : Addr} {o : HO} (e : Exd d l H H') (h : p = d ∨ p = l) : Exd d l H (upd H' p o) := ⟨fun a u h1 h2 ha => by
  rw [upd_ne (by rcases h with h | h <;> subst h <;> assumption)]
  exact e.1 a u h1 h2 ha, fun a ha => e.2 a (upd_none ha)⟩
theorem Ex.exd {d l : Addr} {H H' : Hp} (e : Ex H H') : Exd d l H H' := ⟨fun a o _ _ h => e a o h, fun a h => e.back h⟩
/-- a promise: the arguments' shape, what it asks, what it gives -/
def mkSp {α : Type} (av : α → List V) (pre : α → Hp → Prop) (post : α → Hp → V → Hp → Prop) : Sp := fun vs H Q _ => ∃ x, vs = av x ∧ pre x H ∧ ∀ v H', post x H v H' → Q v H'
theorem sqL {K : PySem.W.Frag} {H : Hp} {a : Addr} {xs : List V} (h : H a = some (.lst xs)) : SqL K H a xs := Or.inl (Or.inl h)
theorem sqT {K : PySem.W.Frag} {H : Hp} {a : Addr} {xs : List V} (h : H a = some (.tup xs)) : SqT K H a xs := Or.inl (Or.inl h)
section
variable {P : Program} {w : World} {K : PySem.W.Frag} {mg : PySem.Str → Option Value} {base : Heap}
/-- a module's def, as the top leaves it -/
def DefAt (K : PySem.W.Frag) (mg : PySem.Str → Option Value) (x : PySem.Str) (st : Stmt) : Prop := ∃ f fd, C8.Def K mg x st f fd ∧ fd.defaults = .none
theorem calD {α : Type} {av : α → List V} {pre : α → Hp → Prop} {post : α → Hp → V → Hp → Prop} {x : PySem.Str} {st : Stmt} {N ps : List PySem.Str} {k : Nat} (D : DefAt K mg x st) (S : FnScope N ps (C8.fnScope st))
    (hb : ∀ (kV doc pm : Value) (an : Option Addr) (cdv ct : Value) (us : List Value), us.length = ps.length → bindArgs (PySem.W.fnOf x x (C8.fnArgs st) (C8.fnBody st) (C8.fnScope st) .none kV doc pm an cdv ct) ⟨us, []⟩ = pure (ps.zip us))
    (len : ∀ x, (av x).length = ps.length)
    (hbody : ∀ (cdv : Value) (f : Addr) (A : Around) (outer : List Env) (s : Shared) (H0 H : Hp) (Q : VK) (E : XK) (a : α), Room k (A.deeper (envOfC x (C8.fnScope st) s.heap.objs.size f cdv)) → pre a H → (∀ v H', post a H v H' → Q v H') →
      ∃ t, PSs (cxOf C8.CX0 P w K mg base N x (C8.fnScope st) f cdv A outer s H0 E).nox (C8.fnBody st) t ∧ t { nx := fun _ H' => Q .non H', rt := Q } (start N (av a)) H) : C8.Cal P w K mg base (k + 1) x (mkSp av pre post) [] := by
  obtain ⟨f, fd, F, df⟩ := D
  refine C8.cal0 F (F.fn.binds df hb) .nil S (fun vs H Q E h => ?_) (fun cdv A outer s H vs Q E hr h => ?_)
  · obtain ⟨a, rfl, _⟩ := h
    exact len a
  · obtain ⟨a, rfl, hp, hq⟩ := h
    exact hbody cdv f A outer s H H Q E a hr hp hq
end
theorem us1 {us : List Value} (h : us.length = 1) : ∃ a, us = [a] := by
  match us, h with
  | [a], _ => exact ⟨a, rfl⟩
theorem us2 {us : List Value} (h : us.length = 2) : ∃ a b, us = [a, b] := by
  match us, h with
  | [a, b], _ => exact ⟨a, b, rfl⟩
theorem us3 {us : List Value} (h : us.length = 3) : ∃ a b c, us = [a, b, c] := by
  match us, h with
  | [a, b, c], _ => exact ⟨a, b, c, rfl⟩
theorem us4 {us : List Value} (h : us.length = 4) : ∃ a b c d, us = [a, b, c, d] := by
  match us, h with
  | [a, b, c, d], _ => exact ⟨a, b, c, d, rfl⟩
theorem us5 {us : List Value} (h : us.length = 5) : ∃ a b c d e, us = [a, b, c, d, e] := by
  match us, h with
  | [a, b, c, d, e], _ => exact ⟨a, b, c, d, e, rfl⟩
/-! ### comprehensions -/
/-- what a comprehension of the walk gives: one value a turn that f keeps -/
def Got (R : Nat → V → Hp → Prop) (l : List Nat) (ys : List V) (H : Hp) : Prop := Paired (fun i y => R i y H) l ys
theorem paired_map {α β : Type} {F G : α → β → Prop} (g : ∀ a b, F a b → G a b) : ∀ {l1 : List α} {l2 : List β}, Paired F l1 l2 → Paired G l1 l2
  | _, _, .nil => .nil
  | _, _, .cons r t => .cons (g _ _ r) (paired_map g t)
theorem paired_app {α β : Type} {F : α → β → Prop} {a : α} {b : β} (h : F a b) : ∀ {l1 : List α} {l2 : List β}, Paired F l1 l2 → Paired F (l1 ++ [a]) (l2 ++ [b])
  | _, _, .nil => .cons h .nil
  | _, _, .cons r t => .cons r (paired_app h t)
theorem paired_get {α β : Type} {F : α → β → Prop} : ∀ {l1 : List α} {l2 : List β} {i : Nat} {a : α} {b : β}, Paired F l1 l2 → l1[i]? = some a → l2[i]? = some b → F a b
  | _, _, 0, _, _, .cons r _, h1, h2 => by simp at h1 h2; subst h1 h2; exact r
  | _, _, i + 1, _, _, .cons _ t, h1, h2 => paired_get (i := i) t (by simpa using h1) (by simpa using h2)
  | _, _, _, _, _, .nil, h1, _ => by simp at h1
theorem paired_len {α β : Type} {F : α → β → Prop} : ∀ {l1 : List α} {l2 : List β}, Paired F l1 l2 → l1.length = l2.length
  | _, _, .nil => rfl
  | _, _, .cons _ t => congrArg (· + 1) (paired_len t)
/-- n turns over a walk; E how the heap goes on, B what holds of it throughout, f which turns keep, R what each gives -/
theorem lc_go {J : It} {n : Nat} {G : Hp → Prop} {Y : Nat → Hp → V → Hp → Prop} (w : Walk J n G Y) {g : TG} {tt : TT} {te : TE} {vs : List Nat} {σ : L2.St} {H1 : Hp} {D : Addr} {Qd : Hp → Prop}
    (E : Hp → Hp → Prop) (B : Hp → Prop) (f : Nat → Bool) (R : Nat → V → Hp → Prop)
    (et : ∀ {H H' H''}, E H H' → E H' H'' → E H H'') (em : ∀ {H o}, E H1 H → E H1 (upd H D o)) (e0 : E H1 H1) (bm : ∀ {H o}, E H1 H → B H → B (upd H D o)) (ek : ∀ {H H' o}, E H1 H → E H H' → H D = some o → H' D = some o)
    (rm : ∀ {i y H H'}, E H1 H → E H H' → R i y H → R i y H') (rd : ∀ {i y H ys ys'}, E H1 H → H D = some (.lst ys) → R i y H → R i y (upd H D (.lst ys')))
    (hn : n ≤ 1000000) (b0 : B H1) (hG : ∀ H, E H1 H → B H → G H)
    (hs : ∀ i x H H', i < n → E H1 H → B H → Y i H x H' → ∀ (S : V → Hp → Prop) (Z : Hp → Prop), (∀ y H4, E H H4 → B H4 → f i = true → R i y H4 → S y H4) → (∀ H3, E H H3 → B H3 → f i = false → Z H3) →
      g x (wipe σ vs) H' fun σ2 H2 => wipe σ2 vs = wipe σ vs ∧ tt σ2 H2 fun b H3 => if b = true then te σ2 H3 S else Z H3)
    (hd : ∀ H ys, E H1 H → B H → H D = some (.lst ys) → Got R ((List.range n).filter f) ys H → Qd H) :
    ∃ W : Nat → Nat → Hp → Prop, (∃ m, W 0 m (upd H1 D (.lst []))) ∧ ∀ i m H, W i m H →
      (J.stop i H ∧ Qd H) ∨ (J.go i H ∧ ∃ Nx : Hp → Prop, (∀ H', Nx H' → ∃ m', m' < m ∧ W (i + 1) m' H') ∧ ∀ x H', J.yld i H x H' → g x (wipe σ vs) H' fun σ2 H2 => wipe σ2 vs = wipe σ vs ∧ tt σ2 H2 fun b H3 =>
        if b = true then te σ2 H3 fun y H4 => ∃ acc, H4 D = some (.lst acc) ∧ acc.length < sizeLine ∧ Nx (upd H4 D (.lst (acc ++ [y]))) else Nx H3) := by
  refine lc_it w (fun i H => E H1 H ∧ B H ∧ ∃ ys, H D = some (.lst ys) ∧ Got R ((List.range i).filter f) ys H) ⟨em e0, bm e0 b0, [], upd_same, .nil⟩ (fun i H _ p => hG H p.1 p.2.1) ?_ (fun H p => ?_)
  · rintro i x H H' hi ⟨e, b, ys, hD, got⟩ hy
    have yl : ys.length < sizeLine := by
      have h1 := paired_len got
      have h2 := List.length_filter_le f (List.range i)
      rw [List.length_range] at h2
      have : (1000000 : Nat) < sizeLine := by decide
      omega
    refine hs i x H H' hi e b hy _ _ (fun y H4 e4 b4 hf r => ⟨ys, ek e e4 hD, yl, em (et e e4), bm (et e e4) b4, ys ++ [y], upd_same, ?k⟩) (fun H3 e3 b3 hf => ⟨et e e3, b3, ys, ek e e3 hD, ?_⟩)
    · show Paired (fun i z => R i z (upd H4 D (.lst (ys ++ [y])))) _ _
      rw [List.range_succ, List.filter_append, List.filter_cons, if_pos hf]
      have g2 : Paired (fun i z => R i z (upd H4 D (.lst (ys ++ [y])))) ((List.range i).filter f) ys := paired_map (fun _ _ q => rd (et e e4) (ek e e4 hD) (rm e e4 q)) got
      have g3 : R i y (upd H4 D (.lst (ys ++ [y]))) := rd (et e e4) (ek e e4 hD) r
      exact @paired_app Nat V (fun i z => R i z (upd H4 D (.lst (ys ++ [y])))) i y g3 _ _ g2
    · rw [List.range_succ, List.filter_append, List.filter_cons, if_neg (by rw [hf]; decide)]
      show Got R (_ ++ []) ys H3
      rw [List.append_nil]
      exact paired_map (fun _ _ q => rm e e3 q) got
  · obtain ⟨e, b, ys, hD, got⟩ := p
    exact hd H ys e b hD got
/-- .. where the heap only grows -/
theorem lcE {J : It} {n : Nat} {G : Hp → Prop} {Y : Nat → Hp → V → Hp → Prop} (w : Walk J n G Y) {g : TG} {tt : TT} {te : TE} {vs : List Nat} {σ : L2.St} {H1 : Hp} {D : Addr} {Qd : Hp → Prop}
    (hD : H1 D = none) (hn : n ≤ 1000000) (f : Nat → Bool) (R : Nat → V → Hp → Prop) (rm : ∀ {i y H H'}, Ex H H' → R i y H → R i y H') (rd : ∀ {i y H ys ys'}, H D = some (.lst ys) → R i y H → R i y (upd H D (.lst ys')))
    (hG : ∀ H, Ex H1 H → G H)
    (hs : ∀ i x H H', i < n → Ex H1 H → Y i H x H' → ∀ (S : V → Hp → Prop) (Z : Hp → Prop), (∀ y H4, Ex H H4 → f i = true → R i y H4 → S y H4) → (∀ H3, Ex H H3 → f i = false → Z H3) →
      g x (wipe σ vs) H' fun σ2 H2 => wipe σ2 vs = wipe σ vs ∧ tt σ2 H2 fun b H3 => if b = true then te σ2 H3 S else Z H3)
    (hd : ∀ H ys, Ex H1 H → H D = some (.lst ys) → Got R ((List.range n).filter f) ys H → Qd H) :
    ∃ W : Nat → Nat → Hp → Prop, (∃ m, W 0 m (upd H1 D (.lst []))) ∧ ∀ i m H, W i m H →
      (J.stop i H ∧ Qd H) ∨ (J.go i H ∧ ∃ Nx : Hp → Prop, (∀ H', Nx H' → ∃ m', m' < m ∧ W (i + 1) m' H') ∧ ∀ x H', J.yld i H x H' → g x (wipe σ vs) H' fun σ2 H2 => wipe σ2 vs = wipe σ vs ∧ tt σ2 H2 fun b H3 =>
        if b = true then te σ2 H3 fun y H4 => ∃ acc, H4 D = some (.lst acc) ∧ acc.length < sizeLine ∧ Nx (upd H4 D (.lst (acc ++ [y]))) else Nx H3) :=
  lc_go w Ex (fun _ => True) f R Ex.trans (fun e => e.mut hD) (Ex.refl _) (fun _ b => b) (fun _ e h => e _ _ h) (fun _ e r => rm e r) (fun _ h r => rd h r) hn True.intro (fun H e _ => hG H e)
    (fun i x H H' hi e _ y S Z s z => hs i x H H' hi e y S Z (fun y H4 e4 hf r => s y H4 e4 True.intro hf r) (fun H3 e3 hf => z H3 e3 True.intro hf)) (fun H ys e _ h g => hd H ys e h g)
theorem range_all (n : Nat) : (List.range n).filter (fun _ => true) = List.range n := List.filter_eq_self.mpr (fun _ _ => rfl)
/-- what Got tells when every turn is kept and its value is known -/
theorem got_fn {n : Nat} {v : Nat → V} {ys : List V} {H : Hp} (h : Got (fun i y _ => y = v i) ((List.range n).filter fun _ => true) ys H) : ys = (List.range n).map v := by
  rw [range_all] at h
  have go : ∀ {l : List Nat} {ys : List V}, Paired (fun i y => y = v i) l ys → ys = l.map v := by
    intro l
    induction l with
    | nil => intro ys p; cases p; rfl
    | cons a l ih =>
      intro ys p
      cases p with
      | cons r t => rw [r, ih t, List.map_cons]
  exact go h
theorem got_fnF {n : Nat} {f : Nat → Bool} {v : Nat → V} {ys : List V} {H : Hp} (h : Got (fun i y _ => y = v i) ((List.range n).filter f) ys H) : ys = ((List.range n).filter f).map v := by
  have go : ∀ {l : List Nat} {ys : List V}, Paired (fun i y => y = v i) l ys → ys = l.map v := by
    intro l
    induction l with
    | nil => intro ys p; cases p; rfl
    | cons a l ih =>
      intro ys p
      cases p with
      | cons r t => rw [r, ih t, List.map_cons]
  exact go h
end Ff
end
section
set_option maxRecDepth 100000
set_option maxHeartbeats 4000000
/-! Methods, classes, properties; the tactics. -/
namespace Ff
open PySem PySem.Spec PyProof.Rows L2
section
variable {P : Program} {w : World} {K : PySem.W.Frag} {mg : PySem.Str → Option Value} {base : Heap}
def MetAt (K : PySem.W.Frag) (C : Addr) (m qual : PySem.Str) (st : Stmt) : Prop := ∃ f fd, Cls K C ∧ Meth K C m f ∧ C8.Fun K m qual st f fd ∧ fd.defaults = .none
theorem metD {α : Type} {av : α → List V} {pre : α → Hp → Prop} {post : α → Hp → V → Hp → Prop} {C : Addr} {m qual : PySem.Str} {st : Stmt} {N ps : List PySem.Str} {k : Nat} (D : MetAt K C m qual st) (S : FnScope N ps (C8.fnScope st))
    (hb : ∀ (kV doc pm : Value) (an : Option Addr) (cdv ct : Value) (us : List Value), us.length = ps.length → bindArgs (PySem.W.fnOf m qual (C8.fnArgs st) (C8.fnBody st) (C8.fnScope st) .none kV doc pm an cdv ct) ⟨us, []⟩ = pure (ps.zip us))
    (len : ∀ x, (av x).length = ps.length)
    (hbody : ∀ (cdv : Value) (f : Addr) (A : Around) (outer : List Env) (s : Shared) (H0 H : Hp) (Q : VK) (E : XK) (a : α), Room k (A.deeper (envOfC qual (C8.fnScope st) s.heap.objs.size f cdv)) → pre a H → (∀ v H', post a H v H' → Q v H') →
      ∃ t, PSs (cxOf C8.CX0 P w K mg base N qual (C8.fnScope st) f cdv A outer s H0 E).nox (C8.fnBody st) t ∧ t { nx := fun _ H' => Q .non H', rt := Q } (start N (av a)) H) : C8.Met P w K mg base (k + 1) C m (mkSp av pre post) [] := by
  obtain ⟨f, fd, c, me, F, df⟩ := D
  refine C8.met0 c me F (F.binds df hb) S (fun vs H Q E h => ?_) (fun cdv A outer s H vs Q E hr h => ?_)
  · obtain ⟨a, rfl, _⟩ := h
    exact len a
  · obtain ⟨a, rfl, hp, hq⟩ := h
    exact hbody cdv f A outer s H H Q E a hr hp hq
def MakAt (K : PySem.W.Frag) (mg : PySem.Str → Option Value) (x : PySem.Str) (C : Addr) (qual : PySem.Str) (st : Stmt) : Prop := ∃ f fd, Mk K C f ∧ mg x = some (.ref C) ∧ C8.Fun K "__init__" qual st f fd ∧ fd.defaults = .none
theorem makD {α : Type} {av : α → List V} {pre : α → Hp → Prop} {post : α → Hp → V → Hp → Prop} {C : Addr} {x qual : PySem.Str} {st : Stmt} {N ps : List PySem.Str} {k : Nat} (D : MakAt K mg x C qual st) (S : FnScope N ps (C8.fnScope st))
    (hb : ∀ (kV doc pm : Value) (an : Option Addr) (cdv ct : Value) (us : List Value), us.length = ps.length → bindArgs (PySem.W.fnOf "__init__" qual (C8.fnArgs st) (C8.fnBody st) (C8.fnScope st) .none kV doc pm an cdv ct) ⟨us, []⟩ = pure (ps.zip us))
    (len : ∀ x, (av x).length = ps.length)
    (hbody : ∀ (cdv : Value) (f : Addr) (A : Around) (outer : List Env) (s : Shared) (H0 H : Hp) (Q : VK) (E : XK) (a : α), Room k (A.deeper (envOfC qual (C8.fnScope st) s.heap.objs.size f cdv)) → pre a H → (∀ v H', post a H v H' → Q v H') →
      ∃ t, PSs (cxOf C8.CX0 P w K mg base N qual (C8.fnScope st) f cdv A outer s H0 E).nox (C8.fnBody st) t ∧ t { nx := fun _ H' => Q .non H', rt := Q } (start N (av a)) H) : C8.Mak P w K mg base (k + 1) x C (mkSp av pre post) [] := by
  obtain ⟨f, fd, M, hm, F, df⟩ := D
  refine C8.mak0 M hm F (F.binds df hb) .nil S (fun vs H Q E h => ?_) (fun cdv A outer s H vs Q E hr h => ?_)
  · obtain ⟨a, rfl, _⟩ := h
    exact len a
  · obtain ⟨a, rfl, hp, hq⟩ := h
    exact hbody cdv f A outer s H H Q E a hr hp hq
def MakB (K : PySem.W.Frag) (mg : PySem.Str → Option Value) (x : PySem.Str) (C : Addr) (qual : PySem.Str) (st : Stmt) (ps : List PySem.Str) : Prop := ∃ f fd, Mk K C f ∧ mg x = some (.ref C) ∧ C8.Fun K "__init__" qual st f fd ∧ Binds K fd ps []
theorem makDB {α : Type} {av : α → List V} {pre : α → Hp → Prop} {post : α → Hp → V → Hp → Prop} {C : Addr} {x qual : PySem.Str} {st : Stmt} {N ps : List PySem.Str} {k : Nat} (D : MakB K mg x C qual st ps) (S : FnScope N ps (C8.fnScope st))
    (len : ∀ x, (av x).length = ps.length)
    (hbody : ∀ (cdv : Value) (f : Addr) (A : Around) (outer : List Env) (s : Shared) (H0 H : Hp) (Q : VK) (E : XK) (a : α), Room k (A.deeper (envOfC qual (C8.fnScope st) s.heap.objs.size f cdv)) → pre a H → (∀ v H', post a H v H' → Q v H') →
      ∃ t, PSs (cxOf C8.CX0 P w K mg base N qual (C8.fnScope st) f cdv A outer s H0 E).nox (C8.fnBody st) t ∧ t { nx := fun _ H' => Q .non H', rt := Q } (start N (av a)) H) : C8.Mak P w K mg base (k + 1) x C (mkSp av pre post) [] := by
  obtain ⟨f, fd, M, hm, F, bi⟩ := D
  refine C8.mak0 M hm F bi .nil S (fun vs H Q E h => ?_) (fun cdv A outer s H vs Q E hr h => ?_)
  · obtain ⟨a, rfl, _⟩ := h
    exact len a
  · obtain ⟨a, rfl, hp, hq⟩ := h
    exact hbody cdv f A outer s H H Q E a hr hp hq
/-- a property of the class at C, by its getter's promise -/
structure Pro (P : Program) (w : World) (K : PySem.W.Frag) (mg : PySem.Str → Option Value) (base : Heap) (k : Nat) (C : Addr) (f : PySem.Str) (sp : Sp) : Prop where
  ex : ∃ (p g : Addr) (fd : FuncData) (ps : List PySem.Str), Cls K C ∧ PropOf K C f p g ∧ FnOk P w K mg base C8.CX0 k g fd ps sp ∧ Binds K fd ps []
def ProAt (K : PySem.W.Frag) (C : Addr) (m qual : PySem.Str) (st : Stmt) : Prop := ∃ p g fd, Cls K C ∧ PropOf K C m p g ∧ C8.Fun K m qual st g fd ∧ fd.defaults = .none
theorem proD {α : Type} {av : α → List V} {pre : α → Hp → Prop} {post : α → Hp → V → Hp → Prop} {C : Addr} {m qual : PySem.Str} {st : Stmt} {N ps : List PySem.Str} {k : Nat} (D : ProAt K C m qual st) (S : FnScope N ps (C8.fnScope st))
    (hb : ∀ (kV doc pm : Value) (an : Option Addr) (cdv ct : Value) (us : List Value), us.length = ps.length → bindArgs (PySem.W.fnOf m qual (C8.fnArgs st) (C8.fnBody st) (C8.fnScope st) .none kV doc pm an cdv ct) ⟨us, []⟩ = pure (ps.zip us))
    (len : ∀ x, (av x).length = ps.length)
    (hbody : ∀ (cdv : Value) (f : Addr) (A : Around) (outer : List Env) (s : Shared) (H0 H : Hp) (Q : VK) (E : XK) (a : α), Room k (A.deeper (envOfC qual (C8.fnScope st) s.heap.objs.size f cdv)) → pre a H → (∀ v H', post a H v H' → Q v H') →
      ∃ t, PSs (cxOf C8.CX0 P w K mg base N qual (C8.fnScope st) f cdv A outer s H0 E).nox (C8.fnBody st) t ∧ t { nx := fun _ H' => Q .non H', rt := Q } (start N (av a)) H) : Pro P w K mg base (k + 1) C m (mkSp av pre post) := by
  obtain ⟨p, f, fd, c, me, F, df⟩ := D
  refine ⟨p, f, fd, ps, c, me, C8.fn0 F S (fun vs H Q E h => ?_) (fun cdv A outer s H vs Q E hr h => ?_), F.binds df hb⟩
  · obtain ⟨a, rfl, _⟩ := h
    exact len a
  · obtain ⟨a, rfl, hp, hq⟩ := h
    exact hbody cdv f A outer s H H Q E a hr hp hq
end
theorem pe_pr {X : Cx} {k j : Nat} {C : Addr} {f : PySem.Str} {sp : Sp} {e : Expr} {pos : Pos} {ta : TE} (c : Pro X.prog X.w X.K X.mg X.base k C f sp) (hr : Room j X.A) (hk : k + 1 ≤ j) (he : PE X e ta)
    (hab : attributeBase e f X.env (eval e X.env) = eval e X.env := by rfl) : PE X (.Attribute e f pos) (tProp C sp [] C8.E0 ta) := by
  obtain ⟨p, g, fd, ps, c, hp, F, b⟩ := c.ex
  exact pe_prop he c hp F (hr.mono hk) b .nil C8.pass0 hab
/-! ### small facts -/
theorem min2_of {m a b : Int} (h : m ∈ [a, b]) (l : ∀ y, y ∈ [a, b] → m ≤ y) : m = min a b := by
  have h1 := l a (by simp)
  have h2 := l b (by simp)
  simp at h
  omega
theorem max2_of {m a b : Int} (h : m ∈ [a, b]) (l : ∀ y, y ∈ [a, b] → y ≤ m) : m = max a b := by
  have h1 := l a (by simp)
  have h2 := l b (by simp)
  simp at h
  omega
theorem Ex.unlock {H H' : Hp} {d : Addr} {u f : HO} (e : Ex (upd H d f) H') (hd : H d = some u) : Ex H (upd H' d u) := fun a o h => by
  by_cases q : a = d
  · subst q
    rw [hd] at h
    cases h
    exact upd_same
  · rw [upd_ne q]
    exact e a o (by rw [upd_ne q]; exact h)
theorem fdiv_pos {a b : Int} (h : 0 < b) : a.fdiv b = a / b := Int.fdiv_eq_ediv_of_nonneg a (Int.le_of_lt h)
theorem fmod_pos {a b : Int} (h : 0 ≤ b) : a.fmod b = a % b := Int.fmod_eq_emod_of_nonneg a h
end Ff
namespace Ff
theorem iteD {c A B : Prop} [Decidable c] (h1 : c → A) (h2 : ¬ c → B) : if decide c = true then A else B := by
  by_cases h : c
  · rw [decide_eq_true h, if_pos rfl]
    exact h1 h
  · rw [decide_eq_false h, if_neg (by decide)]
    exact h2 h
theorem iteB {b : Bool} {A B : Prop} (h1 : b = true → A) (h2 : b = false → B) : if b = true then A else B := by
  cases b with
  | true => exact h1 rfl
  | false => exact h2 rfl
theorem ite1 {b : Bool} {A B : Prop} (h : b = true) (h1 : A) : if b = true then A else B := by
  rw [h, if_pos rfl]
  exact h1
theorem ite0 {b : Bool} {A B : Prop} (h : b = false) (h1 : B) : if b = true then A else B := by
  rw [h, if_neg (by decide)]
  exact h1
end Ff
namespace Ff
open PySem PySem.Spec PyProof.Rows L2
theorem kt_int {K : PySem.W.Frag} : PySem.W.kitOne K (.type "int") (.type "int") = some true := kit_ty (by decide +kernel)
theorem kt_intb {K : PySem.W.Frag} : PySem.W.kitOne K (.type "int") (.type "bool") = some false := kit_ty (by decide +kernel)
theorem kt_bool {K : PySem.W.Frag} : PySem.W.kitOne K (.type "bool") (.type "bool") = some true := kit_ty (by decide +kernel)
theorem kt_str {K : PySem.W.Frag} : PySem.W.kitOne K (.type "str") (.type "str") = some true := kit_ty (by decide +kernel)
theorem kt_tup {K : PySem.W.Frag} : PySem.W.kitOne K (.type "tuple") (.type "tuple") = some true := kit_ty (by decide +kernel)
theorem kt_dict {K : PySem.W.Frag} : PySem.W.kitOne K (.type "dict") (.type "dict") = some true := kit_ty (by decide +kernel)
theorem kt_list {K : PySem.W.Frag} : PySem.W.kitOne K (.type "list") (.type "list") = some true := kit_ty (by decide +kernel)
end Ff
namespace Ff
open PySem PySem.Spec PyProof.Rows L2
def iOr (w1 w2 : TI) : TI := fun σ H R => w1 σ H R ∨ w2 σ H R
theorem pi_or {X : Cx} {tg e : Expr} {w1 w2 : TI} (h1 : PI X tg e w1) (h2 : PI X tg e w2) : PI X tg e (iOr w1 w2) := by
  refine ⟨fun pins s σ H R I h => ?_⟩
  rcases h with h | h
  · exact h1.run pins s σ H R I h
  · exact h2.run pins s σ H R I h
/-- a new tuple, a new list -/
def NewT (xs : List V) (H : Hp) (v : V) (H' : Hp) : Prop := ∃ p, v = .ref p ∧ H p = none ∧ Ex H H' ∧ H' p = some (.tup xs)
def NewL (xs : List V) (H : Hp) (v : V) (H' : Hp) : Prop := ∃ p, v = .ref p ∧ H p = none ∧ Ex H H' ∧ H' p = some (.lst xs)
/-- a list or a tuple of these -/
def SeqOf (xs : List V) (H : Hp) (p : Addr) : Prop := H p = some (.lst xs) ∨ H p = some (.tup xs)
theorem SeqOf.ex {xs : List V} {H H' : Hp} {p : Addr} (h : SeqOf xs H p) (e : Ex H H') : SeqOf xs H' p := h.imp (e _ _) (e _ _)
theorem map_get {α β : Type} {f : α → β} {l : List α} {i : Nat} {x : β} (h : (l.map f)[i]? = some x) : ∃ a, l[i]? = some a ∧ x = f a := by
  rw [List.getElem?_map] at h
  cases q : l[i]? with
  | none => rw [q] at h; cases h
  | some a => rw [q] at h; exact ⟨a, rfl, (Option.some.inj h).symm⟩
theorem take_more {α : Type} {l : List α} {i : Nat} {x : α} (h : l[i]? = some x) : l.take (i + 1) = l.take i ++ [x] := by
  rw [List.take_add_one, h] <;> rfl
end Ff
namespace Ff
open PySem PySem.Spec PyProof.Rows L2
theorem iseq {K : PySem.W.Frag} {i : Nat} {p : Addr} {xs : List V} {σ : L2.St} {H : Hp} {R : It → Hp → Prop} (h0 : σ[i]? = some (some (.ref p))) (h : SeqOf xs H p)
    (k : ∀ J G, Walk J xs.length G (YAt xs) → (∀ H', Ex H H' → G H') → R J H) : iOr (iList K (tVar i)) (iTup K (tVar i)) σ H R := by
  rcases h with h | h
  · exact .inl ⟨_, h0, p, rfl, ⟨xs, sqL h⟩, k _ _ (walk_list (K := K) (a := p)) fun H' e => sqL (e _ _ h)⟩
  · exact .inr ⟨_, h0, p, rfl, ⟨xs, sqT h⟩, k _ _ (walk_tup (K := K) (a := p)) fun H' e => sqT (e _ _ h)⟩
end Ff
namespace Ff
/-- a wall before what is to be shown by hand -/
inductive Hold (p : Prop) : Prop
  | of (h : p)
  | no (h : False)
theorem Hold.out {p : Prop} (h : Hold p) : p := by
  cases h with
  | of h => exact h
  | no h => exact h.elim
end Ff
namespace Ff
open PySem PySem.Spec PyProof.Rows L2
/-! ### the rules that name the written part, with it told: under a comprehension it must not hang on the block -/
section
variable {X : Cx} {K : PySem.W.Frag}
theorem ixL (h : X.K = K) : IxR X (rIxL K) := by subst h; exact ix_list
theorem ixT (h : X.K = K) : IxR X (rIxT K) := by subst h; exact ix_tup
theorem ixQ (h : X.K = K) : IxR X (rIx K) := by subst h; exact ix_seq
theorem inS (h : X.K = K) : OpR X (compareOp .In) (rIn K false) := by subst h; exact op_in_seq
theorem niS (h : X.K = K) : OpR X (compareOp .NotIn) (rIn K true) := by subst h; exact op_notIn_seq
theorem eqD (h : X.K = K) (hu : X.A.units + 64 < cLine) : OpR X (compareOp .Eq) (rEqD K) := by subst h; exact op_eqD hu
theorem neD (h : X.K = K) (hu : X.A.units + 64 < cLine) : OpR X (compareOp .NotEq) (rNeD K) := by subst h; exact op_neD hu
theorem catA (h : X.K = K) : OpR X (binaryOp .Add) (rCatA K) := by subst h; exact op_catA
theorem isI (h : X.K = K) : CallR X (.builtin "isinstance") (rIsi K) := by subst h; exact call_isi
theorem isIT (h : X.K = K) : CallR X (.builtin "isinstance") (rIsiT K) := by subst h; exact call_isiT
theorem lenS (h : X.K = K) : CallR X (.builtin "len") (fun xs H Q => ∃ p ys, xs = [.ref p] ∧ (SqL K H p ys ∨ SqT K H p ys) ∧ Q (.int ys.length) H) := by subst h; exact call_len_seq
theorem lenQ (h : X.K = K) : CallR X (.builtin "len") (fun xs H Q => ∃ x n, xs = [x] ∧ LenV K x H n ∧ Q (.int n) H) := by subst h; exact call_len
theorem lstO (h : X.K = K) : CallR X (.type "list") (fun xs H Q => ∃ p ys, xs = [.ref p] ∧ (SqL K H p ys ∨ SqT K H p ys) ∧ ∀ l, H l = none → Q (.ref l) (upd H l (.lst ys))) := by subst h; exact call_list_of
theorem tupO (h : X.K = K) : CallR X (.type "tuple") (fun xs H Q => ∃ p ys, xs = [.ref p] ∧ ((SqL K H p ys ∧ ∀ l, H l = none → Q (.ref l) (upd H l (.tup ys))) ∨ (SqT K H p ys ∧ Q (.ref p) H))) := by subst h; exact call_tuple_of
theorem crMax (h : X.K = K) (hc : X.calm = true) : CallR X (.builtin "max") (rMax K) := by subst h; exact cr_max hc
theorem crMin (h : X.K = K) (hc : X.calm = true) : CallR X (.builtin "min") (rMin K) := by subst h; exact cr_min hc
theorem crSum (h : X.K = K) (hc : X.calm = true) : CallR X (.builtin "sum") (rSum K) := by subst h; exact cr_sum hc
theorem crAny (h : X.K = K) (hc : X.calm = true) : CallR X (.builtin "any") (rAny K) := by subst h; exact cr_any hc
theorem crAll (h : X.K = K) (hc : X.calm = true) : CallR X (.builtin "all") (rAll K) := by subst h; exact cr_all hc
theorem srtP (h : X.K = K) : CallR X (.builtin "sorted") (rSortedPO K) := by subst h; exact cr_sortedPO
theorem srtI (h : X.K = K) : CallR X (.builtin "sorted") (rSortedI K) := by subst h; exact cr_sortedI
theorem srtS (h : X.K = K) : CallR X (.builtin "sorted") (rSortedS K) := by subst h; exact cr_sortedS
theorem slL (h : X.K = K) : SlR X (rSlL K) := by subst h; exact sl_list
theorem piL (h : X.K = K) {tg l : Expr} {tl : TE} (hl : PE X l tl) : PI X tg l (iList K tl) := by subst h; exact pi_list hl
theorem piT (h : X.K = K) {tg l : Expr} {tl : TE} (hl : PE X l tl) : PI X tg l (iTup K tl) := by subst h; exact pi_tup hl
theorem pgT (h : X.K = K) {es : List Expr} {k : Nat} {t : TGs} {n : Nat} {pos : Pos} (hc : X.calm = true) (h2 : PGs X es t)
    (hn : (assignEach es X.env).length = n := by rfl) (hst : (assignEach es X.env).findIdx? (·.1) = none := by rfl) : PG X (.Tuple es k pos) (gTup K n t) := by subst h; exact pg_tup hc h2 hn hst
theorem fldK (h : X.K = K) {e : Expr} {ta : TE} {f : PySem.Str} {pos : Pos} (he : PE X e ta) (hb : attributeBase e f X.env (eval e X.env) = eval e X.env) : PE X (.Attribute e f pos) (tFld K ta f) := by subst h; exact pe_fld he hb
theorem getO {P : Program} {w : World} (hp : X.prog = P) (hw : X.w = w) {o i : Expr} {pos : Pos} {td ty : TE} (ho : PE X o td) (hi : PE X i ty) (hs : NoSl i) : PE X (.Subscript o i pos)
    (fun σ H Q => td σ H fun x H1 => ty σ H1 fun y H2 => ∃ d kvs k v, x = .ref d ∧ y = wV k ∧ Rd H2 d (DO P w d kvs) ∧ valV kvs k = some v ∧ Q v H2) := by subst hp hw; exact pe_getO ho hi hs
end
end Ff
namespace Ff
open PySem PySem.Spec PyProof.Rows L2
theorem walk_r0 {n : Nat} : Walk (Itr 0 n) n (fun _ => True) (YFn fun i => .int (i : Nat)) :=
  walk_range.mono (fun _ h => h) fun i H x H2 _ _ y => ⟨y.1, y.2.trans (congrArg V.int (Int.zero_add _))⟩
end Ff
end
section
set_option maxRecDepth 100000
set_option maxHeartbeats 4000000
/-! What the top leaves. -/
namespace Ff
open PySem PySem.Spec PyProof.Rows L2
structure Adr where
  pat : Addr
  prog : Addr
  watch : Addr
  moment : Addr
  parts : Addr
structure Txt (P : Program) (w : World) (K : PySem.W.Frag) (mg : PySem.Str → Option Value) (base : Heap) (Z : Adr) : Prop where
  n_len : mg "len" = none
  n_range : mg "range" = none
  n_min : mg "min" = none
  n_max : mg "max" = none
  n_sorted : mg "sorted" = none
  n_isinstance : mg "isinstance" = none
  n_int : mg "int" = none
  n_bool : mg "bool" = none
  n_str : mg "str" = none
  n_tuple : mg "tuple" = none
  n_list : mg "list" = none
  n_dict : mg "dict" = none
  n_set : mg "set" = none
  n_any : mg "any" = none
  n_all : mg "all" = none
  n_sum : mg "sum" = none
  n_enumerate : mg "enumerate" = none
  n_zip : mg "zip" = none
  n_abs : mg "abs" = none
  n_divmod : mg "divmod" = none
  g_GREATEST_HALF : ∃ u, mg "GREATEST_HALF" = some u ∧ RelV (.int 1000) u
  g_GREATEST_PATTERN : ∃ u, mg "GREATEST_PATTERN" = some u ∧ RelV (.int 5040) u
  g_LONGEST_WORD : ∃ u, mg "LONGEST_WORD" = some u ∧ RelV (.int 8) u
  g_MOST_ROWS : ∃ u, mg "MOST_ROWS" = some u ∧ RelV (.int 20) u
  g_MOST_ENDS : ∃ u, mg "MOST_ENDS" = some u ∧ RelV (.int 12) u
  g_GREATEST : ∃ u, mg "GREATEST" = some u ∧ RelV (.int 5040) u
  g_GREATEST_DOUBT : ∃ u, mg "GREATEST_DOUBT" = some u ∧ RelV (.int 1000) u
  g_MOST_LOOKS : ∃ u, mg "MOST_LOOKS" = some u ∧ RelV (.int 6) u
  g_LETTERS : ∃ u, mg "LETTERS" = some u ∧ RelV (.str "abcdefghijklmnopqrstuvwxyz") u
  c_Pattern : ∃ u, mg "Pattern" = some u ∧ RelV (.ref Z.pat) u
  cl_Pattern : Cls K Z.pat
  sf_Pattern : PySem.W.selfFirst K Z.pat = true
  k_Pattern : MakAt K mg "Pattern" Z.pat "Pattern.__init__" (inClass (top 40) 0)
  c_Program : ∃ u, mg "Program" = some u ∧ RelV (.ref Z.prog) u
  cl_Program : Cls K Z.prog
  sf_Program : PySem.W.selfFirst K Z.prog = true
  k_Program : MakAt K mg "Program" Z.prog "Program.__init__" (inClass (top 53) 0)
  c_Watch : ∃ u, mg "Watch" = some u ∧ RelV (.ref Z.watch) u
  cl_Watch : Cls K Z.watch
  sf_Watch : PySem.W.selfFirst K Z.watch = true
  k_Watch : MakB K mg "Watch" Z.watch "Watch.__init__" (inClass (top 92) 0) ["self", "doubt"]
  c_Moment : ∃ u, mg "Moment" = some u ∧ RelV (.ref Z.moment) u
  cl_Moment : Cls K Z.moment
  sf_Moment : PySem.W.selfFirst K Z.moment = true
  k_Moment : MakAt K mg "Moment" Z.moment "Moment.__init__" (inClass (top 85) 0)
  ins_Pattern : C8.InsC K Z.pat
  parts : ∃ es n u, mg "PARTS" = some (.ref Z.parts) ∧ KDict K w Z.parts es n ∧ PySem.W.nsIn K Z.parts "look" = some (some u) ∧ RelV (.int 3) u
  na_p_half : NoAttr K Z.pat "p_half"
  na_p_pieces : NoAttr K Z.pat "p_pieces"
  na_p_rows : NoAttr K Z.prog "p_rows"
  na_p_halves : NoAttr K Z.prog "p_halves"
  na_v_now : NoAttr K Z.watch "v_now"
  na_v_mark : NoAttr K Z.watch "v_mark"
  na_q_doubt : NoAttr K Z.moment "q_doubt"
  na_q_looks : NoAttr K Z.moment "q_looks"
  na_q_deed : NoAttr K Z.moment "q_deed"
  na_q_before : NoAttr K Z.moment "q_before"
  d_is_integer : DefAt K mg "is_integer" (top 16)
  d_is_between : DefAt K mg "is_between" (top 17)
  d_divisor : DefAt K mg "divisor" (top 18)
  d_multiple : DefAt K mg "multiple" (top 19)
  d_is_speed : DefAt K mg "is_speed" (top 20)
  d_need_speed : DefAt K mg "need_speed" (top 21)
  d_lowest : DefAt K mg "lowest" (top 22)
  d_is_half : DefAt K mg "is_half" (top 23)
  d_folded : DefAt K mg "folded" (top 24)
  d_is_piece : DefAt K mg "is_piece" (top 27)
  d_need_pieces : DefAt K mg "need_pieces" (top 28)
  d_spot_of : DefAt K mg "spot_of" (top 29)
  d_folded_spot : DefAt K mg "folded_spot" (top 30)
  d_spots_of : DefAt K mg "spots_of" (top 31)
  d_marks_of : DefAt K mg "marks_of" (top 32)
  d_pieces_in : DefAt K mg "pieces_in" (top 33)
  d_lifted : DefAt K mg "lifted" (top 34)
  d_primes_in : DefAt K mg "primes_in" (top 35)
  d_least_half : DefAt K mg "least_half" (top 36)
  d_common_half : DefAt K mg "common_half" (top 37)
  d_pairs_at : DefAt K mg "pairs_at" (top 38)
  d_is_word : DefAt K mg "is_word" (top 46)
  d_are_ends : DefAt K mg "are_ends" (top 47)
  d_is_row : DefAt K mg "is_row" (top 48)
  d_cell_of : DefAt K mg "cell_of" (top 49)
  d_goal_of : DefAt K mg "goal_of" (top 50)
  d_path_of : DefAt K mg "path_of" (top 51)
  d_word_of : DefAt K mg "word_of" (top 52)
  d_need_small : DefAt K mg "need_small" (top 56)
  d_speed_in : DefAt K mg "speed_in" (top 57)
  d_pieces_of : DefAt K mg "pieces_of" (top 58)
  d_regions_by_path : DefAt K mg "regions_by_path" (top 59)
  d_outcomes : DefAt K mg "outcomes" (top 60)
  d_need_sayings : DefAt K mg "need_sayings" (top 62)
  d_is_look : DefAt K mg "is_look" (top 64)
  d_need_doubt : DefAt K mg "need_doubt" (top 67)
  d_need_multiple : DefAt K mg "need_multiple" (top 68)
  d_near : DefAt K mg "near" (top 69)
  d_left_by : DefAt K mg "left_by" (top 70)
  d_cells_of : DefAt K mg "cells_of" (top 71)
  d_ways_at : DefAt K mg "ways_at" (top 72)
  d_targets_at : DefAt K mg "targets_at" (top 73)
  d_reached : DefAt K mg "reached" (top 74)
  d_lasting : DefAt K mg "lasting" (top 75)
  d_kinds_of : DefAt K mg "kinds_of" (top 76)
  d_led : DefAt K mg "led" (top 77)
  d_number_at : DefAt K mg "number_at" (top 78)
  d_way_to : DefAt K mg "way_to" (top 79)
  d_ring_from : DefAt K mg "ring_from" (top 80)
  d_misled : DefAt K mg "misled" (top 81)
  d_is_deed : DefAt K mg "is_deed" (top 87)
  d_with_look : DefAt K mg "with_look" (top 88)
  d_later_moment : DefAt K mg "later_moment" (top 90)
  d_law_begin : DefAt K mg "_law_begin" (top 94)
  d_law_take : DefAt K mg "_law_take" (top 95)
  d_law_pick : DefAt K mg "_law_pick" (top 96)
  d_law_fraction : DefAt K mg "_law_fraction" (top 97)
  d_law_lcm : DefAt K mg "_law_lcm" (top 98)
  d_law_half : DefAt K mg "_law_half" (top 99)
  d_law_halves : DefAt K mg "_law_halves" (top 100)
  d_law_seen : DefAt K mg "_law_seen" (top 101)
  d_law_speed : DefAt K mg "_law_speed" (top 102)
  d_law_term : DefAt K mg "_law_term" (top 103)
  d_law_ends : DefAt K mg "_law_ends" (top 104)
  d_law_rows : DefAt K mg "_law_rows" (top 105)
  d_law_can_be : DefAt K mg "_law_can_be" (top 106)
  d_law_left_right : DefAt K mg "_law_left_right" (top 107)
  d_law_watch_right : DefAt K mg "_law_watch_right" (top 108)
  d_law_led_right : DefAt K mg "_law_led_right" (top 109)
  d_law : DefAt K mg "law" (top 110)
  m_Pattern_contains : MetAt K Z.pat "__contains__" "Pattern.__contains__" (inClass (top 40) 3)
  m_Pattern_and : MetAt K Z.pat "__and__" "Pattern.__and__" (inClass (top 40) 6)
  m_Pattern_sub : MetAt K Z.pat "__sub__" "Pattern.__sub__" (inClass (top 40) 7)
  m_Pattern_within : MetAt K Z.pat "within" "Pattern.within" (inClass (top 40) 10)
  m_Watch_do : MetAt K Z.watch "do" "Watch.do" (inClass (top 92) 4)
  m_Watch_iadd : MetAt K Z.watch "__iadd__" "Watch.__iadd__" (inClass (top 92) 8)
  m_Watch_contains : MetAt K Z.watch "__contains__" "Watch.__contains__" (inClass (top 92) 9)
  p_Pattern_half : ProAt K Z.pat "half" "Pattern.half" (inClass (top 40) 1)
  p_Pattern_pieces : ProAt K Z.pat "pieces" "Pattern.pieces" (inClass (top 40) 2)
  p_Program_rows : ProAt K Z.prog "rows" "Program.rows" (inClass (top 53) 1)
  p_Program_halves : ProAt K Z.prog "halves" "Program.halves" (inClass (top 53) 2)
  p_Watch_left : ProAt K Z.watch "left" "Watch.left" (inClass (top 92) 3)
end Ff
end
section
set_option maxRecDepth 100000
set_option maxHeartbeats 0
/-! The head: what it looks at, its run. -/
namespace Ff
open PySem PySem.Spec PySem.W PyProof.Rows L2
abbrev R : PySem.W.OpenRow := PySem.W.OpenLaw.row PySem.Challenge.rw_flashfolds_k94_whole_hidden_speeds

def names0 : List PySem.Str := ["_wall", "__name__", "FlashError", "BadSpeed", "BadHalf", "BadPattern", "TooGreat", "NoSpeed", "BadNumber", "BadLook", "BadProgram", "BadSayings", "BadDoubt", "BadDeed", "GREATEST_HALF", "is_integer", "is_between", "divisor", "multiple", "is_speed"]
def names1 : List PySem.Str := ["need_speed", "lowest", "is_half", "folded", "GREATEST_PATTERN", "is_piece", "need_pieces", "spot_of", "folded_spot", "spots_of", "marks_of", "pieces_in", "lifted", "primes_in", "least_half", "common_half", "pairs_at", "rests_in", "Pattern", "LETTERS"]
def names2 : List PySem.Str := ["LONGEST_WORD", "MOST_ROWS", "MOST_ENDS", "is_word", "are_ends", "is_row", "cell_of", "goal_of", "path_of", "word_of", "Program", "GREATEST", "need_small", "speed_in", "pieces_of", "regions_by_path", "outcomes", "need_sayings", "is_look", "GREATEST_DOUBT"]
def names3 : List PySem.Str := ["need_doubt", "need_multiple", "near", "left_by", "cells_of", "ways_at", "targets_at", "reached", "lasting", "kinds_of", "led", "number_at", "way_to", "ring_from", "misled", "PARTS", "MOST_LOOKS", "Moment", "Mark", "is_deed"]
def names4 : List PySem.Str := ["with_look", "without_look", "later_moment", "deeds_to", "Watch", "_law_begin", "_law_take", "_law_pick", "_law_fraction", "_law_lcm", "_law_half", "_law_halves", "_law_seen", "_law_speed", "_law_term", "_law_ends", "_law_rows", "_law_can_be", "_law_left_right", "_law_watch_right"]
def names5 : List PySem.Str := ["_law_led_right"]
def names : List PySem.Str := names0 ++ names1 ++ names2 ++ names3 ++ names4 ++ names5
def fa0 : List He.Fa := [.free "len", .free "range", .free "min", .free "max", .free "sorted", .free "isinstance", .free "int", .free "bool", .free "str", .free "tuple", .free "list", .free "dict", .free "set", .free "any", .free "all", .free "sum", .free "enumerate", .free "zip", .free "abs", .free "divmod"]
def fa1 : List He.Fa := [.int "GREATEST_HALF" 1000, .int "GREATEST_PATTERN" 5040, .int "LONGEST_WORD" 8, .int "MOST_ROWS" 20, .int "MOST_ENDS" 12, .int "GREATEST" 5040, .int "GREATEST_DOUBT" 1000, .int "MOST_LOOKS" 6, .str "LETTERS" "abcdefghijklmnopqrstuvwxyz", .glo "Pattern", .cls "Pattern", .mkr "Pattern", .glo "Program", .cls "Program", .mkr "Program", .glo "Watch", .cls "Watch", .mkr "Watch", .glo "Moment", .cls "Moment"]
def fa2 : List He.Fa := [.mkr "Moment", .glo "PARTS", .noat "Pattern" "p_half", .noat "Pattern" "p_pieces", .noat "Program" "p_rows", .noat "Program" "p_halves", .noat "Watch" "v_now", .noat "Watch" "v_mark", .noat "Moment" "q_doubt", .noat "Moment" "q_looks", .noat "Moment" "q_deed", .noat "Moment" "q_before", .meth "Pattern" "__contains__", .meth "Pattern" "__and__", .meth "Pattern" "__sub__", .meth "Pattern" "within", .meth "Watch" "do", .meth "Watch" "__iadd__", .meth "Watch" "__contains__", .glo "is_integer"]
def fa3 : List He.Fa := [.glo "is_between", .glo "divisor", .glo "multiple", .glo "is_speed", .glo "need_speed", .glo "lowest", .glo "is_half", .glo "folded", .glo "is_piece", .glo "need_pieces", .glo "spot_of", .glo "folded_spot", .glo "spots_of", .glo "marks_of", .glo "pieces_in", .glo "lifted", .glo "primes_in", .glo "least_half", .glo "common_half", .glo "pairs_at"]
def fa4 : List He.Fa := [.glo "is_word", .glo "are_ends", .glo "is_row", .glo "cell_of", .glo "goal_of", .glo "path_of", .glo "word_of", .glo "need_small", .glo "speed_in", .glo "pieces_of", .glo "regions_by_path", .glo "outcomes", .glo "need_sayings", .glo "is_look", .glo "need_doubt", .glo "need_multiple", .glo "near", .glo "left_by", .glo "cells_of", .glo "ways_at"]
def fa5 : List He.Fa := [.glo "targets_at", .glo "reached", .glo "lasting", .glo "kinds_of", .glo "led", .glo "number_at", .glo "way_to", .glo "ring_from", .glo "misled", .glo "is_deed", .glo "with_look", .glo "later_moment", .glo "_law_begin", .glo "_law_take", .glo "_law_pick", .glo "_law_fraction", .glo "_law_lcm", .glo "_law_half", .glo "_law_halves", .glo "_law_seen"]
def fa6 : List He.Fa := [.glo "_law_speed", .glo "_law_term", .glo "_law_ends", .glo "_law_rows", .glo "_law_can_be", .glo "_law_left_right", .glo "_law_watch_right", .glo "_law_led_right", .glo "law"]
def fa : List He.Fa := fa0 ++ fa1 ++ fa2 ++ fa3 ++ fa4 ++ fa5 ++ fa6
/-- where a function is found: a module's name, a class's method, a class's property -/
inductive Wh where
  | glo (x : PySem.Str)
  | met (C m : PySem.Str)
  | pro (C f : PySem.Str)
/-- a property's object, its getter -/
def pA (K : PySem.W.Frag) (C : Addr) (f : PySem.Str) : Addr := match PySem.W.findIn K (.ref C) f with
  | some (some (.ref p)) => p
  | _ => 0
def gA (K : PySem.W.Frag) (p : Addr) : Addr := match PySem.W.recIn K p "property" with
  | some (.ref g :: _) => g
  | _ => 0
def Wh.addr (K : PySem.W.Frag) : Wh → Addr
  | .glo x => He.ga K x
  | .met C m => He.ma K (He.ga K C) m
  | .pro C f => gA K (pA K (He.ga K C) f)
structure Site where
  wh : Wh
  name : PySem.Str
  qual : PySem.Str
  st : Stmt
def fnAt (K : PySem.W.Frag) (a : Addr) : He.FnW := match K.lookup a with
  | some ⟨_, _, .func fd, _⟩ => some (fd.name, fd.qualname, fd.params, fd.body, fd.scope, fd.globals, fd.closure, fd.builtins)
  | _ => none
def Site.val (s : Site) : He.FnW := some (s.name, s.qual, C8.fnArgs s.st, .stmts (C8.fnBody s.st), C8.fnScope s.st, mainGlobals, [], builtinsNs)
def isNo : Value → Bool
  | .none => true
  | _ => false
def Site.ok (K : PySem.W.Frag) (s : Site) : Bool := match K.lookup (s.wh.addr K) with
  | some ⟨_, _, .func fd, _⟩ => PySem.W.codeIn K fd.code s.qual && isNo fd.defaults
  | _ => false
def proB (K : PySem.W.Frag) (C f : PySem.Str) : Bool := He.eqO (PySem.W.findIn K (.ref (He.ga K C)) f) (some (some (.ref (pA K (He.ga K C) f)))) && (He.eqO (PySem.W.specialIn K (.ref (pA K (He.ga K C) f)) "__get__") (some (some (.builtin "property.__get__"))) &&
  (decide (PySem.W.takesIn K (.ref (pA K (He.ga K C) f)) = some true) && (match PySem.W.recIn K (pA K (He.ga K C) f) "property" with
    | some (.ref _ :: _) => true
    | _ => false)))
def insB (K : PySem.W.Frag) (C : Addr) : Bool := He.eqO (PySem.W.findIn K (.ref C) "__class__") (some (some (.builtin "object.__class__"))) && (He.eqO (PySem.W.specialIn K (.builtin "object.__class__") "__get__") (some (some (.builtin "getset_descriptor.__get__"))) &&
  (decide (PySem.W.takesIn K (.builtin "object.__class__") = some true) && (decide (PySem.W.mroIn K C (.type "object") = some true) && decide (PySem.W.kitOne K (.ref C) (.ref C) = some true))))
def tops0 : List Site := [⟨.glo "is_integer", "is_integer", "is_integer", top 16⟩, ⟨.glo "is_between", "is_between", "is_between", top 17⟩, ⟨.glo "divisor", "divisor", "divisor", top 18⟩, ⟨.glo "multiple", "multiple", "multiple", top 19⟩, ⟨.glo "is_speed", "is_speed", "is_speed", top 20⟩, ⟨.glo "need_speed", "need_speed", "need_speed", top 21⟩, ⟨.glo "lowest", "lowest", "lowest", top 22⟩, ⟨.glo "is_half", "is_half", "is_half", top 23⟩, ⟨.glo "folded", "folded", "folded", top 24⟩, ⟨.glo "is_piece", "is_piece", "is_piece", top 27⟩]
def tops1 : List Site := [⟨.glo "need_pieces", "need_pieces", "need_pieces", top 28⟩, ⟨.glo "spot_of", "spot_of", "spot_of", top 29⟩, ⟨.glo "folded_spot", "folded_spot", "folded_spot", top 30⟩, ⟨.glo "spots_of", "spots_of", "spots_of", top 31⟩, ⟨.glo "marks_of", "marks_of", "marks_of", top 32⟩, ⟨.glo "pieces_in", "pieces_in", "pieces_in", top 33⟩, ⟨.glo "lifted", "lifted", "lifted", top 34⟩, ⟨.glo "primes_in", "primes_in", "primes_in", top 35⟩, ⟨.glo "least_half", "least_half", "least_half", top 36⟩, ⟨.glo "common_half", "common_half", "common_half", top 37⟩]
def tops2 : List Site := [⟨.glo "pairs_at", "pairs_at", "pairs_at", top 38⟩, ⟨.glo "is_word", "is_word", "is_word", top 46⟩, ⟨.glo "are_ends", "are_ends", "are_ends", top 47⟩, ⟨.glo "is_row", "is_row", "is_row", top 48⟩, ⟨.glo "cell_of", "cell_of", "cell_of", top 49⟩, ⟨.glo "goal_of", "goal_of", "goal_of", top 50⟩, ⟨.glo "path_of", "path_of", "path_of", top 51⟩, ⟨.glo "word_of", "word_of", "word_of", top 52⟩, ⟨.glo "need_small", "need_small", "need_small", top 56⟩, ⟨.glo "speed_in", "speed_in", "speed_in", top 57⟩]
def tops3 : List Site := [⟨.glo "pieces_of", "pieces_of", "pieces_of", top 58⟩, ⟨.glo "regions_by_path", "regions_by_path", "regions_by_path", top 59⟩, ⟨.glo "outcomes", "outcomes", "outcomes", top 60⟩, ⟨.glo "need_sayings", "need_sayings", "need_sayings", top 62⟩, ⟨.glo "is_look", "is_look", "is_look", top 64⟩, ⟨.glo "need_doubt", "need_doubt", "need_doubt", top 67⟩, ⟨.glo "need_multiple", "need_multiple", "need_multiple", top 68⟩, ⟨.glo "near", "near", "near", top 69⟩, ⟨.glo "left_by", "left_by", "left_by", top 70⟩, ⟨.glo "cells_of", "cells_of", "cells_of", top 71⟩]
def tops4 : List Site := [⟨.glo "ways_at", "ways_at", "ways_at", top 72⟩, ⟨.glo "targets_at", "targets_at", "targets_at", top 73⟩, ⟨.glo "reached", "reached", "reached", top 74⟩, ⟨.glo "lasting", "lasting", "lasting", top 75⟩, ⟨.glo "kinds_of", "kinds_of", "kinds_of", top 76⟩, ⟨.glo "led", "led", "led", top 77⟩, ⟨.glo "number_at", "number_at", "number_at", top 78⟩, ⟨.glo "way_to", "way_to", "way_to", top 79⟩, ⟨.glo "ring_from", "ring_from", "ring_from", top 80⟩, ⟨.glo "misled", "misled", "misled", top 81⟩]
def tops5 : List Site := [⟨.glo "is_deed", "is_deed", "is_deed", top 87⟩, ⟨.glo "with_look", "with_look", "with_look", top 88⟩, ⟨.glo "later_moment", "later_moment", "later_moment", top 90⟩, ⟨.glo "_law_begin", "_law_begin", "_law_begin", top 94⟩, ⟨.glo "_law_take", "_law_take", "_law_take", top 95⟩, ⟨.glo "_law_pick", "_law_pick", "_law_pick", top 96⟩, ⟨.glo "_law_fraction", "_law_fraction", "_law_fraction", top 97⟩, ⟨.glo "_law_lcm", "_law_lcm", "_law_lcm", top 98⟩, ⟨.glo "_law_half", "_law_half", "_law_half", top 99⟩, ⟨.glo "_law_halves", "_law_halves", "_law_halves", top 100⟩]
def tops6 : List Site := [⟨.glo "_law_seen", "_law_seen", "_law_seen", top 101⟩, ⟨.glo "_law_speed", "_law_speed", "_law_speed", top 102⟩, ⟨.glo "_law_term", "_law_term", "_law_term", top 103⟩, ⟨.glo "_law_ends", "_law_ends", "_law_ends", top 104⟩, ⟨.glo "_law_rows", "_law_rows", "_law_rows", top 105⟩, ⟨.glo "_law_can_be", "_law_can_be", "_law_can_be", top 106⟩, ⟨.glo "_law_left_right", "_law_left_right", "_law_left_right", top 107⟩, ⟨.glo "_law_watch_right", "_law_watch_right", "_law_watch_right", top 108⟩, ⟨.glo "_law_led_right", "_law_led_right", "_law_led_right", top 109⟩, ⟨.glo "law", "law", "law", top 110⟩]
def tops : List Site := tops0 ++ tops1 ++ tops2 ++ tops3 ++ tops4 ++ tops5 ++ tops6
def mets0 : List Site := [⟨.met "Pattern" "__contains__", "__contains__", "Pattern.__contains__", inClass (top 40) 3⟩, ⟨.met "Pattern" "__and__", "__and__", "Pattern.__and__", inClass (top 40) 6⟩, ⟨.met "Pattern" "__sub__", "__sub__", "Pattern.__sub__", inClass (top 40) 7⟩, ⟨.met "Pattern" "within", "within", "Pattern.within", inClass (top 40) 10⟩, ⟨.met "Watch" "do", "do", "Watch.do", inClass (top 92) 4⟩, ⟨.met "Watch" "__iadd__", "__iadd__", "Watch.__iadd__", inClass (top 92) 8⟩, ⟨.met "Watch" "__contains__", "__contains__", "Watch.__contains__", inClass (top 92) 9⟩, ⟨.met "Pattern" "__init__", "__init__", "Pattern.__init__", inClass (top 40) 0⟩, ⟨.met "Program" "__init__", "__init__", "Program.__init__", inClass (top 53) 0⟩, ⟨.met "Moment" "__init__", "__init__", "Moment.__init__", inClass (top 85) 0⟩]
def mets : List Site := mets0
def pros0 : List Site := [⟨.pro "Pattern" "half", "half", "Pattern.half", inClass (top 40) 1⟩, ⟨.pro "Pattern" "pieces", "pieces", "Pattern.pieces", inClass (top 40) 2⟩, ⟨.pro "Program" "rows", "rows", "Program.rows", inClass (top 53) 1⟩, ⟨.pro "Program" "halves", "halves", "Program.halves", inClass (top 53) 2⟩, ⟨.pro "Watch" "left", "left", "Watch.left", inClass (top 92) 3⟩]
def pros : List Site := pros0
def sites : List Site := tops ++ mets ++ pros
def dW : He.DefD := ⟨("Watch", some "__init__"), "__init__", "Watch.__init__", C8.fnArgs (inClass (top 92) 0), C8.fnBody (inClass (top 92) 0), C8.fnScope (inClass (top 92) 0), [.int 0], []⟩
def keeps (K : PySem.W.Frag) : Bool := tops.all fun s => PySem.W.keepIn K (.ref (s.wh.addr K))
def prosB (K : PySem.W.Frag) : Bool := proB K "Pattern" "half" && proB K "Pattern" "pieces" && proB K "Program" "rows" && proB K "Program" "halves" && proB K "Watch" "left"
def selfB (K : PySem.W.Frag) : Bool := PySem.W.selfFirst K (He.ga K "Pattern") && PySem.W.selfFirst K (He.ga K "Program") && PySem.W.selfFirst K (He.ga K "Watch") && PySem.W.selfFirst K (He.ga K "Moment")
def parB (K : PySem.W.Frag) : Bool := match PySem.W.nsIn K (He.ga K "PARTS") "look" with
  | some (some (.int j _)) => decide (j = 3)
  | _ => false
def exB (K : PySem.W.Frag) : Bool := (fa.all fun f => f.ok K) && (keeps K && (prosB K && (selfB K && (insB K (He.ga K "Pattern") && (parB K && (dW.ok K && sites.all fun s => s.ok K))))))
abbrev AlF : Type := Bool × List He.FnW × He.FnW × Option (List (Option (PySem.Str × Int)))
def obsF (K : PySem.W.Frag) : AlF := (exB K, sites.map (fun s => fnAt K (s.wh.addr K)), He.fnW K dW.at_, He.dicW K (He.ga K "PARTS"))
def valF (w : World) : AlF := (true, sites.map Site.val, dW.val, some (He.keysIn w.params ["look", "doubt", "drop", "undo"]))
/-! ### the objects looked at, by layers -/
def lay1 (g : Addr → Option Obj) : List Addr := match g mainGlobals with
  | some o => He.refsO o
  | none => []
def layC (g : Addr → Option Obj) (as : List Addr) : List Addr := as.flatMap fun a => match g a with
  | some ⟨_, _, .cls cd, _⟩ => [cd.ns]
  | _ => []
def layV (g : Addr → Option Obj) (as : List Addr) : List Addr := as.flatMap fun a => match g a with
  | some ⟨_, _, .dict es _, _⟩ => es.toList.flatMap fun e => He.refV e.val
  | _ => []
def layF (g : Addr → Option Obj) (as : List Addr) : List Addr := as.flatMap fun a => match g a with
  | some ⟨_, _, .func fd, _⟩ => He.refV fd.code ++ He.refV fd.defaults
  | some ⟨_, _, .fields vs, _⟩ => vs.toList.flatMap He.refV
  | _ => []
def asF (g : Addr → Option Obj) : List Addr :=
  let l1 := lay1 g
  let n2 := layC g l1
  let m3 := layV g n2
  let c4 := layF g m3
  mainGlobals :: l1 ++ n2 ++ layF g l1 ++ m3 ++ c4 ++ layF g c4
def hkF : PySem.W.Hook where
  α := AlF
  obs := fun s => obsF (He.frG s.heap.get? (asF s.heap.get?))
  val := fun w => valF w
  says := fun w h => ∃ K : PySem.W.Frag, K.In h ∧ obsF K = valF w
  of := fun _ _ e => ⟨_, He.frG_in, e⟩
  keeps := fun _ _ _ ⟨K, hK, c⟩ k => ⟨K, PySem.W.Frag.In.keeps hK k, c⟩
def obF (s : PySem.W.SharedT) : AlF := obsF (He.frG (HandSHeadRun.getT s) (asF (HandSHeadRun.getT s)))
theorem obF_eq (s : PySem.W.SharedT) : obF s = hkF.obs s.abs := by
  have e : HandSHeadRun.getT s = s.abs.heap.get? := funext (HandSHeadRun.getT_eq s)
  unfold obF
  rw [e] <;> rfl
theorem runF (w : World) : HandSHeadRun.RunEq R (PySem.W.view R.prog [110]) hkF obF 20000 names (w.withFollow "special-get-raises" false) := by
  intro os
  kernel_rfl
theorem runT (w : World) : HandSHeadRun.RunEq R (PySem.W.view R.prog [110]) hkF obF 20000 names (w.withFollow "special-get-raises" true) := by
  intro os
  kernel_rfl
theorem run (w : World) : HandSHeadRun.RunEq R (PySem.W.view R.prog [110]) hkF obF 20000 names w :=
  byRow2 "special-get-raises" (P := HandSHeadRun.RunEq R (PySem.W.view R.prog [110]) hkF obF 20000 names) runF runT w
end Ff
end
section
set_option maxRecDepth 100000
set_option maxHeartbeats 4000000
/-! The head: its facts. -/
namespace Ff
open PySem PySem.Spec PySem.W PyProof.Rows L2
theorem isNo_eq {v : Value} (h : isNo v = true) : v = .none := by
  cases v <;> first | rfl | cases h
theorem funAt_of {K : PySem.W.Frag} {s : Site} (e : fnAt K (s.wh.addr K) = s.val) (c : s.ok K = true) : ∃ fd, C8.Fun K s.name s.qual s.st (s.wh.addr K) fd ∧ fd.defaults = .none := by
  unfold fnAt at e
  unfold Site.ok at c
  cases q : K.lookup (s.wh.addr K) with
  | none => rw [q] at c; cases c
  | some o =>
    obtain ⟨oc, od, dt, osl⟩ := o
    rw [q] at c e
    cases dt with
    | func fd =>
      obtain ⟨n1, n2, n3, n4, n5, n6, n7, n8, n9, n10, n11, n12, n13, n14, n15⟩ := fd
      have e2 : (some (n1, n2, n3, n4, n5, n6, n7, n15) : He.FnW) = some (s.name, s.qual, C8.fnArgs s.st, .stmts (C8.fnBody s.st), C8.fnScope s.st, mainGlobals, [], builtinsNs) := e
      simp only [Option.some.injEq, Prod.mk.injEq] at e2
      obtain ⟨h1, h2, h3, h4, h5, h6, h7, h8⟩ := e2
      subst h1 h2 h3 h4 h5 h6 h7 h8
      have c3 : (PySem.W.codeIn K n13 s.qual && isNo n8) = true := c
      obtain ⟨k1, k2⟩ := He.ba c3
      have k3 := isNo_eq k2
      exact ⟨_, ⟨oc, od, n8, n9, n10, n11, n12, n13, n14, osl, rfl, q, k1⟩, k3⟩
    | _ => cases c
structure SaysF (K : PySem.W.Frag) (w : World) : Prop where
  fas : ∀ (i : Nat) (f : He.Fa), fa[i]? = some f → f.ok K = true
  kp : ∀ (i : Nat) (s : Site), tops[i]? = some s → PySem.W.keepIn K (.ref (s.wh.addr K)) = true
  pr : prosB K = true
  sf : selfB K = true
  ins : insB K (He.ga K "Pattern") = true
  par : parB K = true
  wa : ∃ fd, FunD K dW.name dW.qual dW.params dW.body dW.scope (dW.dvs K) (dW.kws K) (He.fAd K dW.at_) fd
  fn : ∀ (i : Nat) (s : Site), sites[i]? = some s → ∃ fd, C8.Fun K s.name s.qual s.st (s.wh.addr K) fd ∧ fd.defaults = .none
  dic : ∃ es n, KDict K w (He.ga K "PARTS") es n
theorem says_of {K : PySem.W.Frag} {w : World} (c : obsF K = valF w) : SaysF K w := by
  have c1 : exB K = true := congrArg (fun z : AlF => z.1) c
  have c2 : sites.map (fun s => fnAt K (s.wh.addr K)) = sites.map Site.val := congrArg (fun z : AlF => z.2.1) c
  have c3 : He.fnW K dW.at_ = dW.val := congrArg (fun z : AlF => z.2.2.1) c
  have c4 : He.dicW K (He.ga K "PARTS") = some (He.keysIn w.params ["look", "doubt", "drop", "undo"]) := congrArg (fun z : AlF => z.2.2.2) c
  obtain ⟨h1, c1⟩ := He.ba c1
  obtain ⟨h2, c1⟩ := He.ba c1
  obtain ⟨h3, c1⟩ := He.ba c1
  obtain ⟨h4, c1⟩ := He.ba c1
  obtain ⟨h5, c1⟩ := He.ba c1
  obtain ⟨h6, c1⟩ := He.ba c1
  obtain ⟨h7, h8⟩ := He.ba c1
  refine ⟨fun i f h => List.all_eq_true.mp h1 f (List.mem_of_getElem? h), fun i s h => List.all_eq_true.mp h2 s (List.mem_of_getElem? h), h3, h4, h5, h6, He.DefD.funD c3 h7, fun i s h => ?_, He.dicW_ok c4⟩
  have e2 : (sites.map fun s => fnAt K (s.wh.addr K))[i]? = (sites.map Site.val)[i]? := by rw [c2]
  rw [List.getElem?_map, List.getElem?_map, h] at e2
  exact funAt_of (Option.some.inj e2) (List.all_eq_true.mp h8 s (List.mem_of_getElem? h))
section
variable {w : World} {K : PySem.W.Frag} {h : Heap} {mg : PySem.Str → Option Value}
theorem defAt_of (X : K.In h) (G : h.Ns mainGlobals mg) (c : SaysF K w) {x : PySem.Str} {st : Stmt} (i j : Nat) (h1 : tops[i]? = some ⟨.glo x, x, x, st⟩) (h2 : fa[j]? = some (.glo x)) (h3 : sites[i]? = some ⟨.glo x, x, x, st⟩) : DefAt K mg x st := by
  obtain ⟨fd, F, d⟩ := c.fn i _ h3
  exact ⟨_, fd, ⟨F, He.glo_ok X G (c.fas j _ h2), c.kp i _ h1⟩, d⟩
theorem metAt_of (c : SaysF K w) {C m q : PySem.Str} {st : Stmt} (i j k : Nat) (h1 : sites[i]? = some ⟨.met C m, m, q, st⟩) (h2 : fa[j]? = some (.meth C m)) (h3 : fa[k]? = some (.cls C)) : MetAt K (He.ga K C) m q st := by
  obtain ⟨fd, F, d⟩ := c.fn i _ h1
  exact ⟨_, fd, He.cls_ok (c.fas k _ h3), He.meth_ok (c.fas j _ h2), F, d⟩
theorem makAt_of (X : K.In h) (G : h.Ns mainGlobals mg) (c : SaysF K w) {C q : PySem.Str} {st : Stmt} (i j k : Nat) (h1 : sites[i]? = some ⟨.met C "__init__", "__init__", q, st⟩) (h2 : fa[j]? = some (.mkr C)) (h3 : fa[k]? = some (.glo C)) : MakAt K mg C (He.ga K C) q st := by
  obtain ⟨fd, F, d⟩ := c.fn i _ h1
  exact ⟨_, fd, He.mkr_ok (c.fas j _ h2), He.glo_ok X G (c.fas k _ h3), F, d⟩
theorem proAt_of (c : SaysF K w) {C f q : PySem.Str} {st : Stmt} (i k : Nat) (h1 : sites[i]? = some ⟨.pro C f, f, q, st⟩) (h3 : fa[k]? = some (.cls C)) (h4 : proB K C f = true) : ProAt K (He.ga K C) f q st := by
  obtain ⟨fd, F, d⟩ := c.fn i _ h1
  obtain ⟨p1, h4⟩ := He.ba h4
  obtain ⟨p2, h4⟩ := He.ba h4
  obtain ⟨p3, p4⟩ := He.ba h4
  refine ⟨pA K (He.ga K C) f, gA K (pA K (He.ga K C) f), fd, He.cls_ok (c.fas k _ h3), ⟨He.eqO_ok p1, He.eqO_ok p2, of_decide_eq_true p3, ?_⟩, F, d⟩
  unfold gA
  cases q : PySem.W.recIn K (pA K (He.ga K C) f) "property" with
  | none => rw [q] at p4; cases p4
  | some vs =>
    rw [q] at p4
    match vs, p4 with
    | .ref g :: rest, _ => exact ⟨rest, rfl⟩
theorem insC_of (c : SaysF K w) (k : Nat) (h3 : fa[k]? = some (.cls "Pattern")) : C8.InsC K (He.ga K "Pattern") := by
  obtain ⟨p1, h4⟩ := He.ba c.ins
  obtain ⟨p2, h4⟩ := He.ba h4
  obtain ⟨p3, h4⟩ := He.ba h4
  obtain ⟨p4, p5⟩ := He.ba h4
  exact ⟨He.cls_ok (c.fas k _ h3), He.eqO_ok p1, He.eqO_ok p2, of_decide_eq_true p3, of_decide_eq_true p4, of_decide_eq_true p5⟩
theorem par_of (c : SaysF K w) : ∃ u, PySem.W.nsIn K (He.ga K "PARTS") "look" = some (some u) ∧ RelV (.int 3) u := by
  have h := c.par
  unfold parB at h
  cases q : PySem.W.nsIn K (He.ga K "PARTS") "look" with
  | none => rw [q] at h; cases h
  | some o =>
    rw [q] at h
    cases o with
    | none => cases h
    | some u =>
      cases u <;> first | cases h | skip
      have e := of_decide_eq_true h
      subst e
      exact ⟨_, rfl, _, rfl⟩
theorem relS {x z : PySem.Str} (h : ∃ t, mg x = some (.str z t)) : ∃ u, mg x = some u ∧ RelV (.str z) u := by
  obtain ⟨t, e⟩ := h
  exact ⟨_, e, t, rfl⟩
theorem relI {x : PySem.Str} {i : Int} (h : ∃ t, mg x = some (.int i t)) : ∃ u, mg x = some u ∧ RelV (.int i) u := by
  obtain ⟨t, e⟩ := h
  exact ⟨_, e, t, rfl⟩
theorem makW (X : K.In h) (G : h.Ns mainGlobals mg) (c : SaysF K w) (j k : Nat) (h2 : fa[j]? = some (.mkr "Watch")) (h3 : fa[k]? = some (.glo "Watch")) : MakB K mg "Watch" (He.ga K "Watch") "Watch.__init__" (inClass (top 92) 0) ["self", "doubt"] := by
  obtain ⟨fd, F⟩ := c.wa
  obtain ⟨ds, hv, hb⟩ := FunD.binds1 (ps := ["self", "doubt"]) F 2 1 (fun z => by cases z) rfl fun T kV doc pm an cdv ct us its hu hi => by
    match us, hu, its, hi with
    | [a, b], _, [c], _ => exact ⟨_, rfl, rfl⟩
  cases hv
  obtain ⟨oc, od, dV, kV, doc, pm, an, cdv, ct, osl, rfl, lk, hc, dv, kw⟩ := F.ex
  exact ⟨_, _, He.mkr_ok (c.fas j _ h2), He.glo_ok X G (c.fas k _ h3), ⟨oc, od, dV, kV, doc, pm, an, cdv, ct, osl, rfl, lk, hc⟩, hb⟩
end

def adrOf (K : PySem.W.Frag) : Adr := ⟨He.ga K "Pattern", He.ga K "Program", He.ga K "Watch", He.ga K "Moment", He.ga K "PARTS"⟩
theorem pros_of {K : PySem.W.Frag} (h : prosB K = true) : proB K "Pattern" "half" = true ∧ proB K "Pattern" "pieces" = true ∧ proB K "Program" "rows" = true ∧ proB K "Program" "halves" = true ∧ proB K "Watch" "left" = true := by
  unfold prosB at h
  simp only [Bool.and_eq_true] at h
  obtain ⟨⟨⟨⟨a, b⟩, c⟩, d⟩, e⟩ := h
  exact ⟨a, b, c, d, e⟩
theorem self_of {K : PySem.W.Frag} (h : selfB K = true) : PySem.W.selfFirst K (He.ga K "Pattern") = true ∧ PySem.W.selfFirst K (He.ga K "Program") = true ∧ PySem.W.selfFirst K (He.ga K "Watch") = true ∧ PySem.W.selfFirst K (He.ga K "Moment") = true := by
  unfold selfB at h
  simp only [Bool.and_eq_true] at h
  obtain ⟨⟨⟨a, b⟩, c⟩, d⟩ := h
  exact ⟨a, b, c, d⟩
theorem txt_of {P : Program} {w : World} {K : PySem.W.Frag} {h base : Heap} {mg : PySem.Str → Option Value} (X : K.In h) (G : h.Ns mainGlobals mg) (c : SaysF K w) : Txt P w K mg base (adrOf K) :=
  have pr := pros_of c.pr
  have sf := self_of c.sf
  {
    n_len := He.free_ok X G (c.fas 0 _ rfl)
    n_range := He.free_ok X G (c.fas 1 _ rfl)
    n_min := He.free_ok X G (c.fas 2 _ rfl)
    n_max := He.free_ok X G (c.fas 3 _ rfl)
    n_sorted := He.free_ok X G (c.fas 4 _ rfl)
    n_isinstance := He.free_ok X G (c.fas 5 _ rfl)
    n_int := He.free_ok X G (c.fas 6 _ rfl)
    n_bool := He.free_ok X G (c.fas 7 _ rfl)
    n_str := He.free_ok X G (c.fas 8 _ rfl)
    n_tuple := He.free_ok X G (c.fas 9 _ rfl)
    n_list := He.free_ok X G (c.fas 10 _ rfl)
    n_dict := He.free_ok X G (c.fas 11 _ rfl)
    n_set := He.free_ok X G (c.fas 12 _ rfl)
    n_any := He.free_ok X G (c.fas 13 _ rfl)
    n_all := He.free_ok X G (c.fas 14 _ rfl)
    n_sum := He.free_ok X G (c.fas 15 _ rfl)
    n_enumerate := He.free_ok X G (c.fas 16 _ rfl)
    n_zip := He.free_ok X G (c.fas 17 _ rfl)
    n_abs := He.free_ok X G (c.fas 18 _ rfl)
    n_divmod := He.free_ok X G (c.fas 19 _ rfl)
    g_GREATEST_HALF := relI (He.int_ok X G (c.fas 20 _ rfl))
    g_GREATEST_PATTERN := relI (He.int_ok X G (c.fas 21 _ rfl))
    g_LONGEST_WORD := relI (He.int_ok X G (c.fas 22 _ rfl))
    g_MOST_ROWS := relI (He.int_ok X G (c.fas 23 _ rfl))
    g_MOST_ENDS := relI (He.int_ok X G (c.fas 24 _ rfl))
    g_GREATEST := relI (He.int_ok X G (c.fas 25 _ rfl))
    g_GREATEST_DOUBT := relI (He.int_ok X G (c.fas 26 _ rfl))
    g_MOST_LOOKS := relI (He.int_ok X G (c.fas 27 _ rfl))
    g_LETTERS := relS (He.str_ok X G (c.fas 28 _ rfl))
    c_Pattern := ⟨_, He.glo_ok X G (c.fas 29 _ rfl), rfl⟩
    cl_Pattern := He.cls_ok (c.fas 30 _ rfl)
    sf_Pattern := sf.1
    k_Pattern := makAt_of X G c 77 31 29 rfl rfl rfl
    c_Program := ⟨_, He.glo_ok X G (c.fas 32 _ rfl), rfl⟩
    cl_Program := He.cls_ok (c.fas 33 _ rfl)
    sf_Program := sf.2.1
    k_Program := makAt_of X G c 78 34 32 rfl rfl rfl
    c_Watch := ⟨_, He.glo_ok X G (c.fas 35 _ rfl), rfl⟩
    cl_Watch := He.cls_ok (c.fas 36 _ rfl)
    sf_Watch := sf.2.2.1
    k_Watch := makW X G c 37 35 rfl rfl
    c_Moment := ⟨_, He.glo_ok X G (c.fas 38 _ rfl), rfl⟩
    cl_Moment := He.cls_ok (c.fas 39 _ rfl)
    sf_Moment := sf.2.2.2
    k_Moment := makAt_of X G c 79 40 38 rfl rfl rfl
    ins_Pattern := insC_of c 30 rfl
    parts := by
      obtain ⟨es, n, kd⟩ := c.dic
      obtain ⟨u, p1, p2⟩ := par_of c
      exact ⟨es, n, u, He.glo_ok X G (c.fas 41 _ rfl), kd, p1, p2⟩
    na_p_half := He.noat_ok (x := "Pattern") (c.fas 42 _ rfl)
    na_p_pieces := He.noat_ok (x := "Pattern") (c.fas 43 _ rfl)
    na_p_rows := He.noat_ok (x := "Program") (c.fas 44 _ rfl)
    na_p_halves := He.noat_ok (x := "Program") (c.fas 45 _ rfl)
    na_v_now := He.noat_ok (x := "Watch") (c.fas 46 _ rfl)
    na_v_mark := He.noat_ok (x := "Watch") (c.fas 47 _ rfl)
    na_q_doubt := He.noat_ok (x := "Moment") (c.fas 48 _ rfl)
    na_q_looks := He.noat_ok (x := "Moment") (c.fas 49 _ rfl)
    na_q_deed := He.noat_ok (x := "Moment") (c.fas 50 _ rfl)
    na_q_before := He.noat_ok (x := "Moment") (c.fas 51 _ rfl)
    d_is_integer := defAt_of X G c 0 59 rfl rfl rfl
    d_is_between := defAt_of X G c 1 60 rfl rfl rfl
    d_divisor := defAt_of X G c 2 61 rfl rfl rfl
    d_multiple := defAt_of X G c 3 62 rfl rfl rfl
    d_is_speed := defAt_of X G c 4 63 rfl rfl rfl
    d_need_speed := defAt_of X G c 5 64 rfl rfl rfl
    d_lowest := defAt_of X G c 6 65 rfl rfl rfl
    d_is_half := defAt_of X G c 7 66 rfl rfl rfl
    d_folded := defAt_of X G c 8 67 rfl rfl rfl
    d_is_piece := defAt_of X G c 9 68 rfl rfl rfl
    d_need_pieces := defAt_of X G c 10 69 rfl rfl rfl
    d_spot_of := defAt_of X G c 11 70 rfl rfl rfl
    d_folded_spot := defAt_of X G c 12 71 rfl rfl rfl
    d_spots_of := defAt_of X G c 13 72 rfl rfl rfl
    d_marks_of := defAt_of X G c 14 73 rfl rfl rfl
    d_pieces_in := defAt_of X G c 15 74 rfl rfl rfl
    d_lifted := defAt_of X G c 16 75 rfl rfl rfl
    d_primes_in := defAt_of X G c 17 76 rfl rfl rfl
    d_least_half := defAt_of X G c 18 77 rfl rfl rfl
    d_common_half := defAt_of X G c 19 78 rfl rfl rfl
    d_pairs_at := defAt_of X G c 20 79 rfl rfl rfl
    d_is_word := defAt_of X G c 21 80 rfl rfl rfl
    d_are_ends := defAt_of X G c 22 81 rfl rfl rfl
    d_is_row := defAt_of X G c 23 82 rfl rfl rfl
    d_cell_of := defAt_of X G c 24 83 rfl rfl rfl
    d_goal_of := defAt_of X G c 25 84 rfl rfl rfl
    d_path_of := defAt_of X G c 26 85 rfl rfl rfl
    d_word_of := defAt_of X G c 27 86 rfl rfl rfl
    d_need_small := defAt_of X G c 28 87 rfl rfl rfl
    d_speed_in := defAt_of X G c 29 88 rfl rfl rfl
    d_pieces_of := defAt_of X G c 30 89 rfl rfl rfl
    d_regions_by_path := defAt_of X G c 31 90 rfl rfl rfl
    d_outcomes := defAt_of X G c 32 91 rfl rfl rfl
    d_need_sayings := defAt_of X G c 33 92 rfl rfl rfl
    d_is_look := defAt_of X G c 34 93 rfl rfl rfl
    d_need_doubt := defAt_of X G c 35 94 rfl rfl rfl
    d_need_multiple := defAt_of X G c 36 95 rfl rfl rfl
    d_near := defAt_of X G c 37 96 rfl rfl rfl
    d_left_by := defAt_of X G c 38 97 rfl rfl rfl
    d_cells_of := defAt_of X G c 39 98 rfl rfl rfl
    d_ways_at := defAt_of X G c 40 99 rfl rfl rfl
    d_targets_at := defAt_of X G c 41 100 rfl rfl rfl
    d_reached := defAt_of X G c 42 101 rfl rfl rfl
    d_lasting := defAt_of X G c 43 102 rfl rfl rfl
    d_kinds_of := defAt_of X G c 44 103 rfl rfl rfl
    d_led := defAt_of X G c 45 104 rfl rfl rfl
    d_number_at := defAt_of X G c 46 105 rfl rfl rfl
    d_way_to := defAt_of X G c 47 106 rfl rfl rfl
    d_ring_from := defAt_of X G c 48 107 rfl rfl rfl
    d_misled := defAt_of X G c 49 108 rfl rfl rfl
    d_is_deed := defAt_of X G c 50 109 rfl rfl rfl
    d_with_look := defAt_of X G c 51 110 rfl rfl rfl
    d_later_moment := defAt_of X G c 52 111 rfl rfl rfl
    d_law_begin := defAt_of X G c 53 112 rfl rfl rfl
    d_law_take := defAt_of X G c 54 113 rfl rfl rfl
    d_law_pick := defAt_of X G c 55 114 rfl rfl rfl
    d_law_fraction := defAt_of X G c 56 115 rfl rfl rfl
    d_law_lcm := defAt_of X G c 57 116 rfl rfl rfl
    d_law_half := defAt_of X G c 58 117 rfl rfl rfl
    d_law_halves := defAt_of X G c 59 118 rfl rfl rfl
    d_law_seen := defAt_of X G c 60 119 rfl rfl rfl
    d_law_speed := defAt_of X G c 61 120 rfl rfl rfl
    d_law_term := defAt_of X G c 62 121 rfl rfl rfl
    d_law_ends := defAt_of X G c 63 122 rfl rfl rfl
    d_law_rows := defAt_of X G c 64 123 rfl rfl rfl
    d_law_can_be := defAt_of X G c 65 124 rfl rfl rfl
    d_law_left_right := defAt_of X G c 66 125 rfl rfl rfl
    d_law_watch_right := defAt_of X G c 67 126 rfl rfl rfl
    d_law_led_right := defAt_of X G c 68 127 rfl rfl rfl
    d_law := defAt_of X G c 69 128 rfl rfl rfl
    m_Pattern_contains := metAt_of c 70 52 30 rfl rfl rfl
    m_Pattern_and := metAt_of c 71 53 30 rfl rfl rfl
    m_Pattern_sub := metAt_of c 72 54 30 rfl rfl rfl
    m_Pattern_within := metAt_of c 73 55 30 rfl rfl rfl
    m_Watch_do := metAt_of c 74 56 36 rfl rfl rfl
    m_Watch_iadd := metAt_of c 75 57 36 rfl rfl rfl
    m_Watch_contains := metAt_of c 76 58 36 rfl rfl rfl
    p_Pattern_half := proAt_of c 80 30 rfl rfl pr.1
    p_Pattern_pieces := proAt_of c 81 30 rfl rfl pr.2.1
    p_Program_rows := proAt_of c 82 33 rfl rfl pr.2.2.1
    p_Program_halves := proAt_of c 83 33 rfl rfl pr.2.2.2.1
    p_Watch_left := proAt_of c 84 36 rfl rfl pr.2.2.2.2
  }
end Ff
end
section
set_option maxRecDepth 100000
/-! Plain facts: folding, spots, spans. -/
namespace Ff
def fold (h k : Int) : Int := min (k % (4 * h)) (4 * h - k % (4 * h))
def fold2 (h t b : Int) : Int := min (t % (2 * h * b)) (2 * h * b - t % (2 * h * b))
def spotR (t b : Int) : Int := 2 * (t / b) + (if t % b = 0 then 0 else 1)
theorem fold_rng {h : Int} (k : Int) (hh : 1 ≤ h) : 0 ≤ fold h k ∧ fold h k ≤ 2 * h := by
  have h1 := Int.emod_nonneg k (show 4 * h ≠ 0 by omega)
  have h2 := Int.emod_lt_of_pos k (show 0 < 4 * h by omega)
  unfold fold
  omega
theorem fold_id {h k : Int} (h0 : 0 ≤ k) (h1 : k ≤ 2 * h) (hh : 1 ≤ h) : fold h k = k := by
  unfold fold
  rw [Int.emod_eq_of_lt h0 (by omega)]
  omega
theorem neg_emod {r m : Int} (hm : 0 < m) : (-r) % m = if r % m = 0 then 0 else m - r % m := by
  have h1 := Int.emod_nonneg r (Int.ne_of_gt hm)
  have h2 := Int.emod_lt_of_pos r hm
  have e : -r = -(r % m) + m * (-(r / m)) := by
    have := Int.emod_add_mul_ediv r m
    rw [Int.mul_neg]
    omega
  rw [e, Int.add_mul_emod_self_left]
  split
  · rename_i q
    rw [q]
    rfl
  · have e2 : -(r % m) = (m - r % m) + m * (-1) := by rw [Int.mul_neg, Int.mul_one]; omega
    rw [e2, Int.add_mul_emod_self_left, Int.emod_eq_of_lt (by omega) (by omega)]
theorem fold_neg {h : Int} (k : Int) (hh : 1 ≤ h) : fold h (-k) = fold h k := by
  have h1 := Int.emod_nonneg k (show 4 * h ≠ 0 by omega)
  have h2 := Int.emod_lt_of_pos k (show 0 < 4 * h by omega)
  unfold fold
  rw [neg_emod (show 0 < 4 * h by omega)]
  split <;> omega
theorem fold_add {h : Int} (k q : Int) : fold h (k + 4 * h * q) = fold h k := by
  unfold fold
  rw [Int.add_mul_emod_self_left]
theorem fold_fold {a b : Int} (k : Int) (ha : 1 ≤ a) (d : a ∣ b) : fold a (fold b k) = fold a k := by
  obtain ⟨c, rfl⟩ := d
  have e : fold a (k % (4 * (a * c))) = fold a k := by
    have h := Int.emod_add_mul_ediv k (4 * (a * c))
    have h2 : k % (4 * (a * c)) = k + 4 * a * (-(c * (k / (4 * (a * c))))) := by
      have : 4 * (a * c) * (k / (4 * (a * c))) = 4 * a * (c * (k / (4 * (a * c)))) := by simp only [Int.mul_assoc]
      rw [Int.mul_neg]
      omega
    rw [h2, fold_add]
  unfold fold
  rcases Int.le_total (k % (4 * (a * c))) (4 * (a * c) - k % (4 * (a * c))) with q | q
  · rw [Int.min_eq_left q]
    exact e
  · rw [Int.min_eq_right q]
    have e2 : 4 * (a * c) - k % (4 * (a * c)) = -(k % (4 * (a * c))) + 4 * a * c := by
      have : 4 * (a * c) = 4 * a * c := by simp only [Int.mul_assoc]
      omega
    have e3 := fold_add (h := a) (-(k % (4 * (a * c)))) c
    rw [← e2, fold_neg _ ha, e] at e3
    exact e3
theorem spotR_nonneg {t b : Int} (ht : 0 ≤ t) (hb : 1 ≤ b) : 0 ≤ spotR t b := by
  have := Int.ediv_nonneg ht (show 0 ≤ b by omega)
  unfold spotR
  split <;> omega
theorem spot_fold {h t b : Int} (hh : 1 ≤ h) (hb : 1 ≤ b) (ht : 0 ≤ t) : spotR (fold2 h t b) b = fold h (spotR t b) := by
  have hb0 : b ≠ 0 := by omega
  have m0 : 0 < 2 * h * b := Int.mul_pos (by omega) (by omega)
  have r1 := Int.emod_nonneg t (Int.ne_of_gt m0)
  have r2 := Int.emod_lt_of_pos t m0
  obtain ⟨r, hr⟩ : ∃ r, t % (2 * h * b) = r := ⟨_, rfl⟩
  obtain ⟨q, hq⟩ : ∃ q, t / (2 * h * b) = q := ⟨_, rfl⟩
  have ht2 := Int.emod_add_mul_ediv t (2 * h * b)
  rw [hr] at r1 r2 ht2
  rw [hq] at ht2
  -- the quotient by b
  obtain ⟨d, hd⟩ : ∃ d, r / b = d := ⟨_, rfl⟩
  obtain ⟨e, he⟩ : ∃ e, r % b = e := ⟨_, rfl⟩
  have hr2 := Int.emod_add_mul_ediv r b
  rw [hd, he] at hr2
  have e1 : 0 ≤ e := by rw [← he]; exact Int.emod_nonneg r hb0
  have e2 : e < b := by rw [← he]; exact Int.emod_lt_of_pos r (by omega)
  have d1 : 0 ≤ d := by rw [← hd]; exact Int.ediv_nonneg r1 (by omega)
  have d2 : d < 2 * h := by
    rw [← hd]
    exact Int.ediv_lt_of_lt_mul (by omega) (by omega)
  have tb : t = e + b * (d + 2 * h * q) := by
    rw [← ht2, ← hr2, Int.mul_add, show b * (2 * h * q) = 2 * h * b * q by ac_rfl]
    omega
  have tdiv : t / b = d + 2 * h * q := by
    rw [tb, Int.add_mul_ediv_left _ _ hb0, Int.ediv_eq_zero_of_lt e1 e2]
    omega
  have tmod : t % b = e := by rw [tb, Int.add_mul_emod_self_left, Int.emod_eq_of_lt e1 e2]
  have rs : fold h (spotR t b) = fold h (spotR r b) := by
    unfold spotR
    rw [tdiv, tmod, hd, he]
    have := fold_add (h := h) (2 * d + if e = 0 then 0 else 1) q
    rw [← this]
    congr 1
    rw [Int.mul_add, show 4 * h * q = 2 * (2 * h * q) by rw [show (4 : Int) = 2 * 2 from rfl]; simp only [Int.mul_assoc]]
    omega
  have sm : spotR r b = 2 * d + (if e = 0 then 0 else 1) := by unfold spotR; rw [hd, he]
  have sl : spotR (2 * h * b - r) b = 4 * h - spotR r b := by
    have x1 : 2 * h * b - r = -e + b * (2 * h - d) := by
      rw [Int.mul_sub, Int.mul_comm b (2 * h)]
      omega
    by_cases z : e = 0
    · have x2 : (2 * h * b - r) / b = 2 * h - d := by rw [x1, Int.add_mul_ediv_left _ _ hb0, z]; simp
      have x3 : (2 * h * b - r) % b = 0 := by rw [x1, Int.add_mul_emod_self_left, z]; simp
      rw [sm]
      unfold spotR
      rw [x2, x3, if_pos rfl, if_pos z]
      omega
    · have y1 : 2 * h * b - r = (b - e) + b * (2 * h - d - 1) := by
        rw [Int.mul_sub, Int.mul_one]
        omega
      have x2 : (2 * h * b - r) / b = 2 * h - d - 1 := by rw [y1, Int.add_mul_ediv_left _ _ hb0, Int.ediv_eq_zero_of_lt (by omega) (by omega)]; omega
      have x3 : (2 * h * b - r) % b = b - e := by rw [y1, Int.add_mul_emod_self_left, Int.emod_eq_of_lt (by omega) (by omega)]
      rw [sm]
      unfold spotR
      rw [x2, x3, if_neg (by omega), if_neg z]
      omega
  have fs : fold h (spotR r b) = min (spotR r b) (4 * h - spotR r b) := by
    unfold fold
    rw [Int.emod_eq_of_lt]
    · rw [sm]; split <;> omega
    · rw [sm]; split <;> omega
  have mono : ∀ x y : Int, x ≤ y → spotR x b ≤ spotR y b := by
    intro x y hxy
    have hx := Int.emod_add_mul_ediv x b
    have hy := Int.emod_add_mul_ediv y b
    have x1 := Int.emod_nonneg x hb0
    have y1 := Int.emod_nonneg y hb0
    have x2 := Int.emod_lt_of_pos x (show 0 < b by omega)
    have y2 := Int.emod_lt_of_pos y (show 0 < b by omega)
    have dd : x / b ≤ y / b := Int.ediv_le_ediv (by omega) hxy
    unfold spotR
    by_cases q : x / b = y / b
    · rw [q]
      rw [q] at hx
      by_cases z : x % b = 0
      · rw [if_pos z]; split <;> omega
      · rw [if_neg z, if_neg (by omega)]
        omega
    · split <;> split <;> omega
  unfold fold2
  rw [rs, fs, hr, ← sl]
  rcases Int.le_total r (2 * h * b - r) with z | z
  · rw [Int.min_eq_left z, Int.min_eq_left (mono _ _ z)]
  · rw [Int.min_eq_right z, Int.min_eq_right (mono _ _ z)]
theorem spot_red {m b T B g : Int} (hb : 1 ≤ b) (hm : 0 ≤ m) (hg : 0 < g) (e1 : m = g * T) (e2 : b = g * B) (hB : 1 ≤ B) (hgc : (Int.gcd m b : Int) = g) : 2 * (T / B) + (if B > 1 then 1 else 0) = spotR m b := by
  have q1 : m / b = T / B := by rw [e1, e2, Int.mul_ediv_mul_of_pos _ _ hg]
  have q2 : m % b = 0 ↔ B = 1 := by
    constructor
    · intro z
      have d : b ∣ m := Int.dvd_of_emod_eq_zero z
      have d2 : b ∣ (Int.gcd m b : Int) := Int.dvd_coe_gcd d (Int.dvd_refl b)
      rw [hgc] at d2
      have := Int.le_of_dvd hg d2
      have h2 : g * B ≤ g * 1 := by omega
      have := Int.le_of_mul_le_mul_left h2 hg
      omega
    · intro z
      rw [e1, e2, z, Int.mul_one]
      exact Int.mul_emod_right g T
  unfold spotR
  rw [q1]
  by_cases z : m % b = 0
  · rw [if_pos z, if_neg (by have := q2.mp z; omega)]
  · rw [if_neg z, if_pos (by have : B ≠ 1 := fun e => z (q2.mpr e); omega)]
/-! ### spans -/
abbrev Pc := Int × Bool × Int × Bool
def spL (x : Pc) : Int := 2 * x.1 + (if x.2.1 then 0 else 1)
def spR (x : Pc) : Int := 2 * x.2.2.1 - (if x.2.2.2 then 0 else 1)
def Span (ps : List Pc) (k : Int) : Prop := ∃ x ∈ ps, spL x ≤ k ∧ k ≤ spR x
structure PcOk (h : Int) (x : Pc) : Prop where
  lo : 0 ≤ x.1
  lh : x.1 ≤ h
  hi : x.1 ≤ x.2.2.1
  hh : x.2.2.1 ≤ h
  ne : x.1 < x.2.2.1 ∨ (x.2.1 = true ∧ x.2.2.2 = true)
theorem PcOk.rng {h : Int} {x : Pc} (k : PcOk h x) : 0 ≤ spL x ∧ spL x ≤ spR x ∧ spR x ≤ 2 * h := by
  obtain ⟨a, b, c, d⟩ := x
  obtain ⟨h1, h2, h3, h4, h5⟩ := k
  dsimp only at h1 h2 h3 h4 h5
  unfold spL spR
  dsimp only
  cases b <;> cases d <;> simp at h5 ⊢ <;> omega
/-- the piece of the spots a .. z -/
def pcOf (a z : Int) : Pc := (a / 2, decide (a % 2 = 0), (z + 1) / 2, decide (z % 2 = 0))
theorem pcOf_L {a z : Int} : spL (pcOf a z) = a := by
  unfold spL pcOf
  by_cases q : a % 2 = 0
  · simp [q]; omega
  · simp [q]; omega
theorem pcOf_R {a z : Int} : spR (pcOf a z) = z := by
  unfold spR pcOf
  by_cases q : z % 2 = 0
  · simp [q]; omega
  · simp [q]; omega
theorem pcOf_ok {a z h : Int} (h0 : 0 ≤ a) (h1 : a ≤ z) (h2 : z ≤ 2 * h) : PcOk h (pcOf a z) := by
  unfold pcOf
  refine ⟨?_, ?_, ?_, ?_, ?_⟩ <;> dsimp only <;> try omega
  by_cases q : a / 2 < (z + 1) / 2
  · exact .inl q
  · right
    constructor <;> apply decide_eq_true <;> omega
end Ff
namespace Ff
/-- a proposition's truth value -/
noncomputable def tv (p : Prop) : Bool := @decide p (Classical.propDecidable p)
theorem tv_iff {p : Prop} : tv p = true ↔ p := by
  unfold tv
  exact @decide_eq_true_iff p (Classical.propDecidable p)
theorem tv_true {p : Prop} (h : p) : tv p = true := tv_iff.mpr h
theorem tv_false {p : Prop} (h : ¬ p) : tv p = false := by
  cases q : tv p with
  | false => rfl
  | true => exact absurd (tv_iff.mp q) h
theorem tv_eq {p q : Prop} (h : p ↔ q) : tv p = tv q := by
  by_cases z : p
  · rw [tv_true z, tv_true (h.mp z)]
  · rw [tv_false z, tv_false fun y => z (h.mpr y)]
theorem tv_dec {p : Prop} [Decidable p] : decide p = tv p := by
  by_cases z : p
  · rw [tv_true z, decide_eq_true z]
  · rw [tv_false z, decide_eq_false z]
theorem tv_of {p : Prop} {b : Bool} (h : b = true ↔ p) : b = tv p := by
  cases b with
  | true => exact (tv_true (h.mp rfl)).symm
  | false => exact (tv_false fun z => by cases h.mpr z).symm
noncomputable def markL (M : Int → Prop) (n : Nat) : List Bool := (List.range n).map fun (k : Nat) => tv (M (k : Int))
theorem markL_len {M : Int → Prop} {n : Nat} : (markL M n).length = n := by unfold markL; simp
theorem markL_get {M : Int → Prop} {n k : Nat} (h : k < n) : (markL M n)[k]? = some (tv (M k)) := by unfold markL; simp [h]
theorem markL_ext {M : Int → Prop} {n : Nat} {bs : List Bool} (hl : bs.length = n) (h : ∀ (k : Nat) b, bs[k]? = some b → (b = true ↔ M k)) : bs = markL M n := by
  apply List.ext_getElem?
  intro k
  by_cases q : k < n
  · rw [markL_get q]
    cases e : bs[k]? with
    | none => rw [List.getElem?_eq_none_iff] at e; omega
    | some b => exact congrArg some (tv_of (h k b e))
  · rw [List.getElem?_eq_none_iff.mpr (by omega), List.getElem?_eq_none_iff.mpr (by rw [markL_len]; omega)]
theorem markL_congr {M N : Int → Prop} {n : Nat} (h : ∀ k : Nat, k < n → (M k ↔ N k)) : markL M n = markL N n := by
  refine markL_ext markL_len fun k b e => ?_
  have hk : k < n := by
    have := (List.getElem?_eq_some_iff.mp e).1
    rw [markL_len] at this
    exact this
  rw [markL_get hk] at e
  rw [← Option.some.inj e, tv_iff]
  exact h k hk
theorem markL_take {M : Int → Prop} {n k : Nat} (h : k ≤ n) : (markL M n).take k = markL M k := by
  unfold markL
  rw [← List.map_take, List.take_range, Nat.min_eq_left h]
theorem markL_succ {M : Int → Prop} {n : Nat} : markL M (n + 1) = markL M n ++ [tv (M n)] := by
  unfold markL
  rw [List.range_succ, List.map_append]
  rfl
open PySem PySem.Spec PyProof.Rows L2
theorem eqv_bools : ∀ (bs cs : List Bool), PyData.eqv (.list (bs.map .bool)) (.list (cs.map .bool)) = decide (bs = cs)
  | [], [] => by simp [PyData.eqv, PyData.eqvAll]
  | [], c :: cs => by simp [PyData.eqv, PyData.eqvAll]
  | b :: bs, [] => by simp [PyData.eqv, PyData.eqvAll]
  | b :: bs, c :: cs => by
    have h := eqv_bools bs cs
    simp only [PyData.eqv] at h
    simp only [List.map_cons, PyData.eqv, PyData.eqvAll, h]
    by_cases q : b = c <;> by_cases r : bs = cs <;> simp [q, r]
theorem dp_bools {K : PySem.W.Frag} {H : Hp} {a : Addr} {bs : List Bool} (h : H a = some (.lst (bs.map .bl))) : Dp K H (.ref a) (.list (bs.map .bool)) := by
  refine .lst (sqL h) ?_
  clear h
  induction bs with
  | nil => exact .nil
  | cons b bs ih => exact .cons (.bl b) ih
theorem shaped_bools (bs : List Bool) : SeqAt.shaped (.list (bs.map .bool)) = true := by
  have h1 : ∀ bs : List Bool, PyData.canLayAll0 (bs.map .bool) = true := by
    intro bs
    induction bs with
    | nil => simp [PyData.canLayAll0]
    | cons b bs ih => simp [PyData.canLayAll0, PyData.canLay0, ih]
  have h2 : ∀ bs : List Bool, PyData.depthAll (bs.map .bool) ≤ 1 := by
    intro bs
    induction bs with
    | nil => simp [PyData.depthAll]
    | cons b bs ih => simp [PyData.depthAll, PyData.depth]; try omega
  unfold SeqAt.shaped
  simp [PyData.canLay0, h1, PyData.depth]
  have := h2 bs
  omega
theorem cut_to {xs : List V} {j : Int} (h : 0 ≤ j) : cutV xs none (some j) = xs.take j.toNat := by
  unfold cutV
  rw [show HT.sIx xs.length 0 none = 0 from rfl, List.drop_zero]
  show xs.take ((if j < 0 then _ else min j.toNat xs.length) - 0) = _
  rw [if_neg (by omega), Nat.sub_zero]
  by_cases q : j.toNat ≤ xs.length
  · rw [Nat.min_eq_left q]
  · rw [Nat.min_eq_right (by omega), List.take_of_length_le (by omega), List.take_of_length_le (by omega)]
theorem atI_nat' {α : Type} {xs : List α} {i : Int} {v : α} (h0 : 0 ≤ i) (h : xs[i.toNat]? = some v) : atI xs i = some v := by
  have hl := (List.getElem?_eq_some_iff.mp h).1
  have e : i = ((i.toNat : Nat) : Int) := by omega
  rw [e]
  exact atI_nat h
end Ff
namespace Ff
open PySem PySem.Spec PyProof.Rows L2
theorem szL {n : Nat} (h : n ≤ 100000) : n ≤ sizeLine := Nat.le_trans h (by decide)
theorem szlt {n : Nat} (h : n < 100000) : n < sizeLine := Nat.lt_of_lt_of_le h (by decide)
theorem dInt {a b : Int} : decide (V.int a = V.int b) = decide (a = b) := by
  by_cases h : a = b
  · rw [decide_eq_true h, decide_eq_true (congrArg V.int h)]
  · rw [decide_eq_false h, decide_eq_false fun e => h (V.int.inj e)]
/-- pieces_in, by its turns -/
structure PcSt (bs : List Bool) (i : Nat) (ps : List Pc) (fo : Option Int) : Prop where
  sp : ∀ k, Span ps k ↔ ∃ n : Nat, k = n ∧ n < i ∧ bs[n]? = some true ∧ ∀ a, fo = some a → (n : Int) < a
  op : ∀ a, fo = some a → 0 ≤ a ∧ a < i ∧ ∀ n : Nat, a ≤ n → n < i → bs[n]? = some true
  ok : ∀ x ∈ ps, ∃ a z, x = pcOf a z ∧ 0 ≤ a ∧ a ≤ z ∧ z + 1 < i ∧ z + 1 < bs.length
  ln : ps.length ≤ i
theorem PcSt.start {bs : List Bool} : PcSt bs 0 [] none := by
  refine ⟨fun k => ⟨?_, ?_⟩, (fun a e => nomatch e), by simp, by simp⟩
  · rintro ⟨x, hx, _⟩
    simp at hx
  · rintro ⟨n, _, h, _⟩
    omega
theorem PcSt.in_none {bs : List Bool} {i : Nat} {ps : List Pc} (s : PcSt bs i ps none) (h : bs[i]? = some true) : PcSt bs (i + 1) ps (some i) := by
  refine ⟨fun k => (s.sp k).trans ⟨?_, ?_⟩, ?_, fun x hx => ?_, by have := s.ln; omega⟩
  · rintro ⟨n, e, l, b, _⟩
    exact ⟨n, e, by omega, b, fun a ea => by cases ea; omega⟩
  · rintro ⟨n, e, l, b, q⟩
    have := q _ rfl
    exact ⟨n, e, by omega, b, fun a ea => by cases ea⟩
  · intro a e
    cases e
    refine ⟨by omega, by omega, fun n h1 h2 => ?_⟩
    have : n = i := by omega
    rw [this, h]
  · obtain ⟨a, z, e, h1, h2, h3, h4⟩ := s.ok x hx
    exact ⟨a, z, e, h1, h2, by omega, h4⟩
theorem PcSt.in_some {bs : List Bool} {i : Nat} {ps : List Pc} {a : Int} (s : PcSt bs i ps (some a)) (h : bs[i]? = some true) : PcSt bs (i + 1) ps (some a) := by
  obtain ⟨a0, a1, a2⟩ := s.op a rfl
  refine ⟨fun k => (s.sp k).trans ⟨?_, ?_⟩, ?_, fun x hx => ?_, by have := s.ln; omega⟩
  · rintro ⟨n, e, l, b, q⟩
    exact ⟨n, e, by omega, b, q⟩
  · rintro ⟨n, e, l, b, q⟩
    have := q _ rfl
    exact ⟨n, e, by omega, b, q⟩
  · intro c e
    cases e
    refine ⟨a0, by omega, fun n h1 h2 => ?_⟩
    by_cases q : n < i
    · exact a2 n h1 q
    · have : n = i := by omega
      rw [this, h]
  · obtain ⟨c, z, e, h1, h2, h3, h4⟩ := s.ok x hx
    exact ⟨c, z, e, h1, h2, by omega, h4⟩
theorem PcSt.out_none {bs : List Bool} {i : Nat} {ps : List Pc} (s : PcSt bs i ps none) (h : bs[i]? = some false) : PcSt bs (i + 1) ps none := by
  refine ⟨fun k => (s.sp k).trans ⟨?_, ?_⟩, (fun a e => nomatch e), fun x hx => ?_, by have := s.ln; omega⟩
  · rintro ⟨n, e, l, b, q⟩
    exact ⟨n, e, by omega, b, q⟩
  · rintro ⟨n, e, l, b, q⟩
    refine ⟨n, e, ?_, b, q⟩
    by_cases z : n = i
    · subst z
      rw [h] at b
      cases b
    · omega
  · obtain ⟨c, z, e, h1, h2, h3, h4⟩ := s.ok x hx
    exact ⟨c, z, e, h1, h2, by omega, h4⟩
theorem PcSt.out_some {bs : List Bool} {i : Nat} {ps : List Pc} {a : Int} (s : PcSt bs i ps (some a)) (h : bs[i]? = some false) : PcSt bs (i + 1) (ps ++ [pcOf a ((i : Int) - 1)]) none := by
  obtain ⟨a0, a1, a2⟩ := s.op a rfl
  refine ⟨fun k => ⟨?_, ?_⟩, (fun a e => nomatch e), fun x hx => ?_, by have := s.ln; simp; omega⟩
  · rintro ⟨x, hx, l, r⟩
    rw [List.mem_append] at hx
    rcases hx with hx | hx
    · obtain ⟨n, e, l2, b, q⟩ := (s.sp k).mp ⟨x, hx, l, r⟩
      exact ⟨n, e, by omega, b, fun a e => by cases e⟩
    · simp at hx
      subst hx
      rw [pcOf_L] at l
      rw [pcOf_R] at r
      exact ⟨k.toNat, by omega, by omega, a2 _ (by omega) (by omega), fun a e => by cases e⟩
  · rintro ⟨n, e, l, b, _⟩
    have hn : n < i := by
      by_cases z : n = i
      · subst z
        rw [h] at b
        cases b
      · omega
    by_cases z : (n : Int) < a
    · obtain ⟨x, hx, q⟩ := (s.sp k).mpr ⟨n, e, hn, b, fun c ec => by cases ec; exact z⟩
      exact ⟨x, List.mem_append_left _ hx, q⟩
    · exact ⟨pcOf a ((i : Int) - 1), by simp, by rw [pcOf_L]; omega, by rw [pcOf_R]; omega⟩
  · rw [List.mem_append] at hx
    rcases hx with hx | hx
    · obtain ⟨c, z, e, h1, h2, h3, h4⟩ := s.ok x hx
      exact ⟨c, z, e, h1, h2, by omega, h4⟩
    · simp at hx
      have hl := (List.getElem?_eq_some_iff.mp h).1
      exact ⟨a, (i : Int) - 1, hx, a0, by omega, by omega, by omega⟩
theorem PcSt.done {M : Int → Prop} {n : Nat} {ps : List Pc} {fo : Option Int} (s : PcSt (markL M n ++ [false]) (n + 1) ps fo) :
    (∀ k, Span ps k ↔ 0 ≤ k ∧ k < n ∧ M k) ∧ (∀ x ∈ ps, ∃ a z, x = pcOf a z ∧ 0 ≤ a ∧ a ≤ z ∧ z < n) ∧ ps.length ≤ n + 1 := by
  have last : (markL M n ++ [false])[n]? = some false := by
    rw [List.getElem?_append_right (by rw [markL_len]; omega), markL_len]
    simp
  have fn : fo = none := by
    cases fo with
    | none => rfl
    | some a =>
      obtain ⟨a0, a1, a2⟩ := s.op a rfl
      have := a2 n (by omega) (by omega)
      rw [last] at this
      cases this
  subst fn
  refine ⟨fun k => (s.sp k).trans ⟨?_, ?_⟩, fun x hx => ?_, s.ln⟩
  · rintro ⟨m, rfl, l, b, _⟩
    have hm : m < n := by
      by_cases z : m = n
      · subst z
        rw [last] at b
        cases b
      · omega
    rw [List.getElem?_append_left (by rw [markL_len]; exact hm), markL_get hm] at b
    exact ⟨by omega, by omega, tv_iff.mp (Option.some.inj b)⟩
  · rintro ⟨h0, h1, h2⟩
    refine ⟨k.toNat, by omega, by omega, ?_, fun a e => by cases e⟩
    rw [List.getElem?_append_left (by rw [markL_len]; omega), markL_get (by omega)]
    rw [show ((k.toNat : Nat) : Int) = k by omega]
    exact congrArg some (tv_true h2)
  · obtain ⟨a, z, e, h1, h2, h3, h4⟩ := s.ok x hx
    exact ⟨a, z, e, h1, h2, by omega⟩
/-- marks_of, by its turns: L the sorted spans, a how many are passed, last the furthest end -/
structure MkSt (L : List (Int × Int)) (i : Int) (a : Nat) (last : Int) : Prop where
  le : a ≤ L.length
  past : ∀ (j : Nat) l, j < a → L[j]? = some l → l.1 ≤ i
  up : ∀ (j : Nat) l, j < a → L[j]? = some l → l.2 ≤ last
  at_ : last = -1 ∨ ∃ (j : Nat) (l : Int × Int), j < a ∧ L[j]? = some l ∧ l.2 = last
theorem MkSt.start {L : List (Int × Int)} {i : Int} : MkSt L i 0 (-1) := ⟨by omega, fun j l h => by omega, fun j l h => by omega, .inl rfl⟩
theorem MkSt.later {L : List (Int × Int)} {i j : Int} {a : Nat} {last : Int} (s : MkSt L i a last) (h : i ≤ j) : MkSt L j a last := ⟨s.le, fun k l hk e => Int.le_trans (s.past k l hk e) h, s.up, s.at_⟩
theorem MkSt.step {L : List (Int × Int)} {i : Int} {a : Nat} {last : Int} {l : Int × Int} (s : MkSt L i a last) (h : L[a]? = some l) (hl : l.1 ≤ i) : MkSt L i (a + 1) (max last l.2) := by
  have ha := (List.getElem?_eq_some_iff.mp h).1
  refine ⟨by omega, fun j m hj e => ?_, fun j m hj e => ?_, ?_⟩
  · by_cases q : j = a
    · subst q; rw [h] at e; cases e; exact hl
    · exact s.past j m (by omega) e
  · by_cases q : j = a
    · subst q; rw [h] at e; cases e; omega
    · have := s.up j m (by omega) e; omega
  · by_cases q : last ≤ l.2
    · exact .inr ⟨a, l, by omega, h, by omega⟩
    · rcases s.at_ with e | ⟨j, m, hj, e, e2⟩
      · exact .inl (by omega)
      · exact .inr ⟨j, m, by omega, e, by omega⟩
theorem MkSt.tell {L : List (Int × Int)} {i : Int} {a : Nat} {last : Int} (s : MkSt L i a last) (hi : 0 ≤ i) (hs : L.Pairwise fun p q => p.1 ≤ q.1) (h : ∀ l, L[a]? = some l → i < l.1) : i ≤ last ↔ ∃ l ∈ L, l.1 ≤ i ∧ i ≤ l.2 := by
  constructor
  · intro q
    rcases s.at_ with e | ⟨j, l, hj, e, e2⟩
    · omega
    · exact ⟨l, List.mem_of_getElem? e, s.past j l hj e, by omega⟩
  · rintro ⟨l, hl, h1, h2⟩
    obtain ⟨j, hj, e⟩ := List.getElem_of_mem hl
    have e' : L[j]? = some l := by rw [List.getElem?_eq_getElem hj, e]
    by_cases q : j < a
    · have := s.up j l q e'; omega
    · exfalso
      have ha : a < L.length := by omega
      have hb := h L[a] (List.getElem?_eq_getElem ha)
      by_cases z : j = a
      · subst z; rw [e] at hb; omega
      · have := List.pairwise_iff_getElem.mp hs a j ha hj (by omega)
        rw [e] at this
        omega
end Ff
namespace Ff
theorem range_get {n i : Nat} (h : i < n) : (List.range n)[i]? = some i := by
  rw [List.getElem?_range h]
end Ff
namespace Ff
/-- the lcm of these divides; it is a multiple of each -/
def lcm2 (a b : Int) : Int := a / (Int.gcd a b : Int) * b
def lcmL (l : List Int) : Int := l.foldl lcm2 1
theorem lcm2_dvd_l {a b : Int} : a ∣ lcm2 a b := by
  unfold lcm2
  obtain ⟨c, hc⟩ := Int.gcd_dvd_left a b
  obtain ⟨d, hd⟩ := Int.gcd_dvd_right a b
  by_cases z : (Int.gcd a b : Int) = 0
  · rw [z] at hc
    rw [hc]
    simp
  · generalize (Int.gcd a b : Int) = g at hc hd z
    refine ⟨d, ?_⟩
    rw [show a / g = c by rw [hc, Int.mul_ediv_cancel_left _ z], hd, hc]
    ac_rfl
theorem lcm2_dvd_r {a b : Int} : b ∣ lcm2 a b := ⟨a / (Int.gcd a b : Int), by unfold lcm2; ac_rfl⟩
theorem lcmF_dvd : ∀ (l : List Int) (a : Int), a ∣ l.foldl lcm2 a ∧ ∀ x ∈ l, x ∣ l.foldl lcm2 a
  | [], a => ⟨Int.dvd_refl a, fun x h => by simp at h⟩
  | b :: l, a => by
    obtain ⟨h1, h2⟩ := lcmF_dvd l (lcm2 a b)
    refine ⟨Int.dvd_trans lcm2_dvd_l h1, fun x hx => ?_⟩
    rw [List.mem_cons] at hx
    rcases hx with rfl | hx
    · exact Int.dvd_trans lcm2_dvd_r h1
    · exact h2 x hx
theorem lcmL_dvd {l : List Int} {x : Int} (h : x ∈ l) : x ∣ lcmL l := (lcmF_dvd l 1).2 x h
/-- the least: each common multiple is one of the lcm -/
theorem lcm2_least {a b m : Int} (ha : 1 ≤ a) (hb : 1 ≤ b) (h1 : a ∣ m) (h2 : b ∣ m) : lcm2 a b ∣ m := by
  have g0 : (0 : Int) < (Int.gcd a b : Int) := by
    have := Int.gcd_pos_of_ne_zero_left b (show a ≠ 0 by omega)
    omega
  have e : (Int.gcd a b : Int) * lcm2 a b = a * b := by
    unfold lcm2
    rw [← Int.mul_assoc, Int.mul_ediv_cancel' (Int.gcd_dvd_left a b)]
  have l : (Int.lcm a b : Int) = lcm2 a b := by
    have e2 : (Int.gcd a b : Int) * (Int.lcm a b : Int) = a * b := by
      have h := Int.gcd_mul_lcm a b
      have : ((Int.gcd a b * Int.lcm a b : Nat) : Int) = ((a.natAbs * b.natAbs : Nat) : Int) := congrArg _ h
      rw [Int.natCast_mul, Int.natCast_mul] at this
      rw [this, show (a.natAbs : Int) = a by omega, show (b.natAbs : Int) = b by omega]
    exact Int.eq_of_mul_eq_mul_left (by omega) (e2.trans e.symm)
  rw [← l]
  exact Int.coe_lcm_dvd h1 h2
theorem lcmF_least : ∀ (l : List Int) (a m : Int), 1 ≤ a → (∀ x ∈ l, 1 ≤ x) → a ∣ m → (∀ x ∈ l, x ∣ m) → l.foldl lcm2 a ∣ m ∧ 1 ≤ l.foldl lcm2 a
  | [], a, m, ha, _, h, _ => ⟨h, ha⟩
  | b :: l, a, m, ha, hl, h, hm => by
    have hb := hl b (by simp)
    have p : 1 ≤ lcm2 a b := by
      have d := lcm2_dvd_l (a := a) (b := b)
      have g0 : (0 : Int) < (Int.gcd a b : Int) := by
        have := Int.gcd_pos_of_ne_zero_left b (show a ≠ 0 by omega)
        omega
      have e : (Int.gcd a b : Int) * lcm2 a b = a * b := by
        unfold lcm2
        rw [← Int.mul_assoc, Int.mul_ediv_cancel' (Int.gcd_dvd_left a b)]
      have ab : 0 < a * b := Int.mul_pos (by omega) (by omega)
      rcases Int.lt_or_le 0 (lcm2 a b) with q | q
      · omega
      · have := Int.mul_nonpos_of_nonneg_of_nonpos (Int.le_of_lt g0) q
        omega
    exact lcmF_least l (lcm2 a b) m p (fun x hx => hl x (by simp [hx])) (lcm2_least ha hb h (hm b (by simp))) fun x hx => hm x (by simp [hx])
theorem lcmL_least {l : List Int} {m : Int} (h1 : ∀ x ∈ l, 1 ≤ x) (h : ∀ x ∈ l, x ∣ m) : lcmL l ∣ m := (lcmF_least l 1 m (by omega) h1 (Int.one_dvd m) h).1
theorem lcmL_ge {l : List Int} (h1 : ∀ x ∈ l, 1 ≤ x) : 1 ≤ lcmL l := (lcmF_least l 1 0 (by omega) h1 (Int.dvd_zero _) fun x _ => Int.dvd_zero _).2
theorem lcmL_le {l : List Int} {m : Int} (hm : 1 ≤ m) (h1 : ∀ x ∈ l, 1 ≤ x) (h : ∀ x ∈ l, x ∣ m) : lcmL l ≤ m := Int.le_of_dvd (by omega) (lcmL_least h1 h)
end Ff
end
section
set_option maxRecDepth 100000
set_option maxHeartbeats 4000000
/-! Rules of our own: set(list), enumerate(tuple), PARTS.get, list(zip). -/
namespace Ff
open PySem PySem.Spec PyProof.Rows L2
section
variable {P : Program} {w : World} {A : Around} {E : Value → Shared → Prop} {s : Shared}
/-- the new set's object -/
abbrev ns0 (w : World) : Obj := { cls := .type "set", dict := none, data := .set #[] 0 (.fresh 0 0 (!w.params.followText "set-order")) }
theorem set_of_listI {p : Addr} {vs : Array Value} (ns : List Int) {Q : Value → Shared → Prop} (hh : A.handled = none) (hl : s.heap.IsList p vs) (hints : IntsAre vs.toList ns) (hb : ns.length + 1 < scanBound)
    (fin : ∀ (h' : Heap) (tk c : Nat), SetR w h' s.heap.objs.size (fun j => decide (j ∈ ns)) c → c ≤ ns.length → (∀ b o, s.heap.get? b = some o → h'.get? b = some o) → Q (.ref s.heap.objs.size) { s with heap := h', toks := tk }) : wpAny (model P w) A (call (.type "set") [.ref p]) Q E s := by
  have vsz : vs.size = ns.length := by have q := IntsAre.length hints; rw [Array.length_toList] at q; exact q
  obtain ⟨c, tl, mro⟩ := F.called_set.mro
  have made := F.called_set.made
  have sub := F.called_set.sub
  refine wpAny_call (codeAny_of_tree ?_)
  show wpAny _ _ (callAny (.type "set") _) _ _ _
  refine wpAny_pure ⟨Code.quiet_builtin _ (by decide +kernel), codeAny_builtin F.entry_type_call ?_⟩
  rw [Around.under_plain (weight_type_call_type "set" [.ref p] []) rfl]
  have k1 := F.called_set.notType
  have k2 := F.called_set.canCreate
  have k3 := F.typeCall_set_1 (.ref p)
  repeat (any_goals (first | assumption | wp_step))
  refine codeAny_mono (code_set_led1 (.ref p) (E := E) (Q₁ := fun ob s₁ => ob = .ref s.heap.objs.size ∧ s₁ = { s with heap := s.heap.push (ns0 w) }) ⟨rfl, rfl⟩) fun r s₁ hr => ?_
  match r, hr with
  | .error e, hr => exact hr
  | .ok .next, hr => exact hr.elim
  | .ok .brk, hr => exact hr.elim
  | .ok .cont, hr => exact hr.elim
  | .ok (.ret ob), hr =>
    obtain ⟨rfl, rfl⟩ := hr
    have hS : (s.heap.push (ns0 w)).get? s.heap.objs.size = some (ns0 w) := Heap.get?_push_size _ rfl
    have hT : Shared.TypeIs { s with heap := s.heap.push (ns0 w) } (.ref s.heap.objs.size) "set" := ⟨_, hS, rfl⟩
    have k4 := F.called_set.init.lookup
    have k5 := F.called_set.init.bind (.ref s.heap.objs.size)
    repeat (any_goals (first | assumption | wp_step))
    refine codeAny_mono (codeAny_call_builtin (R := wants (fun r s₂ => r = .none ∧ ∃ h' tk c, s₂ = { s with heap := h', toks := tk } ∧ SetR w h' s.heap.objs.size (fun j => decide (j ∈ ns)) c ∧ c ≤ ns.length ∧ (∀ b o, s.heap.get? b = some o → h'.get? b = some o)) E)
      F.called_set.init.plain F.entry_set_init (check_set_init_1 hT ?_)) fun r₂ s₂ hr₂ => ?_
    · obtain ⟨⟨oc, od, dt, os⟩, ho, hc, nl, hd⟩ := hl
      simp only at hc hd
      subst hc; subst hd
      have ho' : (s.heap.push (ns0 w)).get? p = some { cls := .type "list", dict := od, data := .seq vs nl, slots := os } := Heap.get?_push_of_some _ ho
      have k6 := F.sub_list_set
      have k7 := F.sub_list_frozenset
      have k8 : (Value.type "list" == Value.type "dict") = false := by decide
      have hl1 : (s.heap.push (ns0 w)).IsList p vs := ⟨_, ho', rfl, nl, rfl⟩
      unfold Builtin.«set.__init__» noKeywords Builtin.Frozenset.updateFrom
      generalize ePI : pyIter = PI
      wp_walk
      subst ePI
      refine wpAny_pyIter_list hl1 (wpAny_bind (wpAny_runValue ?_))
      have plt : p < s.heap.objs.size := Heap.lt_size ho
      have hd3 : A.in1.in1.in1.handled = none := by simp [hh]
      have pne : p ≠ (s.heap.push (ns0 w)).objs.size := by rw [Heap.size_push]; exact Nat.ne_of_lt (Nat.lt_succ_of_lt plt)
      have sne : s.heap.objs.size ∉ [(s.heap.push (ns0 w)).objs.size, p] := by
        rw [Heap.size_push]
        simp only [List.mem_cons, List.mem_singleton, List.not_mem_nil, or_false, not_or]
        exact ⟨Nat.ne_of_lt (Nat.lt_succ_self _), Nat.ne_of_gt plt⟩
      have vals : ∀ (i : Nat) (v : Value), vs[i]? = some v → ∃ k t, ns[i]? = some k ∧ v = .int k t := fun i v hv => by
        have hi : i < ns.length := by rw [← vsz]; exact (Array.getElem?_eq_some_iff.mp hv).1
        obtain ⟨t, e⟩ := PyProof.Rows.IntsAre.int_at hints i v (by rw [Array.getElem?_toList]; exact hv)
        exact ⟨ns[i], t, List.getElem?_eq_getElem hi, by rw [e, List.getD_eq_getElem?_getD, List.getElem?_eq_getElem hi] <;> rfl⟩
      refine set_update_ints ((Walks.list hd3 _ p pne vs).toS) s.heap.objs.size sne ns vsz hb vals (vs.size - 0) 0 _ (by omega) (Nat.zero_le _) ⟨⟨_, Heap.get?_push_size _ rfl, rfl, rfl⟩, (hl1.push _)⟩ ⟨0, Nat.le_refl 0, setR_new_at (Heap.get?_push_of_some _ hS)⟩ ?_
      rintro ⟨h', g2, d', tk', os'⟩ c' hm hc' hS'
      obtain rfl : g2 = s.gens := hm.gens
      obtain rfl : d' = s.drawn := hm.drawn
      obtain rfl : os' = s.os := hm.os
      show wpAny _ _ _ _ _ _
      refine wpAny_pure ?_
      show wpAny _ _ (ret Value.none) _ _ _
      rw [vsz] at hc'
      refine wpAny_pure ⟨rfl, h', tk', c', rfl, hS', hc', fun b o e => ?_⟩
      have b0 : b < s.heap.objs.size := Heap.lt_size e
      refine hm.heap b o ?_ (Heap.get?_push_of_some _ (Heap.get?_push_of_some _ e))
      rw [Heap.size_push]
      simp only [List.mem_cons, List.mem_singleton, List.not_mem_nil, or_false, not_or]
      exact ⟨Nat.ne_of_lt b0, Nat.ne_of_lt (Nat.lt_succ_of_lt b0)⟩
    · match r₂, hr₂ with
      | .error e, hr₂ => exact hr₂
      | .ok .next, hr₂ => exact hr₂.elim
      | .ok .brk, hr₂ => exact hr₂.elim
      | .ok .cont, hr₂ => exact hr₂.elim
      | .ok (.ret r), hr₂ =>
        obtain ⟨rfl, h', tk, c', rfl, hS', hc', hk'⟩ := hr₂
        repeat (any_goals (first | assumption | wp_step))
        exact fin _ _ _ hS' hc' hk'
end
theorem ints_vals : ∀ {ns : List Int} {us : List Value}, Vals (ns.map V.int) us → IntsAre us ns
  | [], [], _ => .nil
  | n :: ns, u :: us, .cons r t => by
    obtain ⟨tk, rfl⟩ := r
    exact .cons _ _ (ints_vals t)
theorem call_setL {X : Cx} {K : PySem.W.Frag} (hK : X.K = K) (hc : X.calm = true) : CallR X (.type "set") (fun xs H Q => ∃ (p : Addr) (ns : List Int), xs = [.ref p] ∧ SqL K H p (ns.map V.int) ∧ ns.length ≤ 60 ∧ ∀ (d : Addr) (S : Int → Bool) (n : Nat), H d = none → (∀ k, S k = true ↔ k ∈ ns) → n ≤ ns.length → Q (.ref d) (upd H d (SetO X.w d S n))) := by
  subst hK
  intro pins s σ H xs us Q I r h
  obtain ⟨p, ns, rfl, hp, hn, q⟩ := h
  rw [Vals.ref1 r]
  obtain ⟨its, rv, pl, hz⟩ := I.list hp
  refine set_of_listI ns (I.ok.hd hc) pl.isList (by simpa using ints_vals rv) (by unfold scanBound; omega) fun h' tk c hS hcn hk => ?_
  exact ⟨.ref s.heap.objs.size, _, I.laid (t' := tk) hk (Nat.le_refl _) (setO_new hS), rfl, q _ _ _ (I.hok.fresh (Nat.le_refl _)) (fun k => decide_eq_true_iff) hcn⟩
end Ff
namespace Ff
open PySem PySem.Spec PyProof.Rows L2
abbrev tIt (t : Addr) : Obj := { cls := .type "tuple_iterator", data := .fields #[.ref t, .int 0 0] }
abbrev eIt (n : Nat) : Obj := { cls := .type "enumerate", data := .fields #[.none, .bool false, .ref n, rawInt 0, .none, .none] }
theorem enumT_new (t : Addr) (its : Array Value) : Meets (Builtin.«enumerate.__new__» ⟨[.type "enumerate", .ref t], []⟩) (fun _ R s => s.heap.IsTuple t its ∧
    R (.ok (.ret (.ref (s.heap.push (tIt t)).objs.size))) { s with heap := (s.heap.push (tIt t)).push (eIt s.heap.objs.size) }) :=
  .of_wp fun prog w A R s h => by
    obtain ⟨hp, gs, dr, tk, os⟩ := s
    obtain ⟨ht, h⟩ := h
    obtain ⟨⟨oc, od, dt, sl⟩, ho, hc, n, hd⟩ := id ht
    replace hc : oc = .type "tuple" := hc
    replace hd : dt = .seq its n := hd
    subst hc hd
    have k := sub_enumerate
    wp_walk using wpAny_loadPart' ho
    refine wpAny_stack_any fun st => wpAny_pure ?_
    split
    · rename_i c _ _ _ _ _
      cases (c == Value.type "enumerate") <;> (wp_walk using wpAny_loadPart' ho, wpAny_pyIter_tuple ht; exact ⟨_, rfl, h⟩)
    · wp_walk using wpAny_loadPart' ho, wpAny_pyIter_tuple ht
      exact ⟨_, rfl, h⟩
theorem enumT_call {P : Program} {w : World} {A : Around} {E : Value → Shared → Prop} {s : Shared} {t : Addr} {its : Array Value} {Q : Value → Shared → Prop} (ht : s.heap.IsTuple t its)
    (q : ∀ h', IsEnum h' (s.heap.objs.size + 1) s.heap.objs.size 0 .none → h'.IsTupleIter s.heap.objs.size t 0 → (∀ b o, s.heap.get? b = some o → h'.get? b = some o) → Q (.ref (s.heap.objs.size + 1)) { s with heap := h' }) :
    wpAny (model P w) A (call (.type "enumerate") [.ref t]) Q E s := by
  refine callType_new F.called_enumerate (by decide) (F.typeCall_enumerate_1 _) (F.newCall_enumerate_1 _) (fun ob => F.args_object_init_2 ob _) F.entry_enumerate_new (enumT_new t its) ⟨ht, ?_⟩
  have z : (s.heap.push (tIt t)).objs.size = s.heap.objs.size + 1 := Heap.size_push ..
  show _ ∧ _
  rw [z]
  have e : IsEnum ((s.heap.push (tIt t)).push (eIt s.heap.objs.size)) (s.heap.objs.size + 1) s.heap.objs.size 0 .none := by
    have := Heap.get?_push_size (s.heap.push (tIt t)) (o := eIt s.heap.objs.size) rfl
    rw [z] at this
    exact this
  exact ⟨⟨_, e, rfl⟩, q _ e ⟨_, Heap.get?_push_of_some _ (Heap.get?_push_size _ rfl), rfl, rfl⟩ fun b o x => Heap.get?_push_of_some _ (Heap.get?_push_of_some _ x)⟩
def ItEnT (K : PySem.W.Frag) (t : Addr) : It :=
  ⟨fun i H => ∃ xs : List V, SqT K H t xs ∧ i < xs.length,
    fun i H v H' => ∃ T x, v = .ref T ∧ H T = none ∧ H' = upd H T (.tup [.int (i : Nat), x]) ∧ ∀ xs, SqT K H t xs → xs[i]? = some x,
    fun i H => ∃ xs : List V, SqT K H t xs ∧ i = xs.length⟩
theorem turn_enumT {P : Program} {w : World} {K : PySem.W.Frag} {elts : List Expr} {kk : Nat} {tpos : Pos} {t e it : Addr} (he : e ≠ it) (ht : t ≠ it) (het : e ≠ t) :
    Turn P w K (.Tuple elts kk tpos) (ItEnT K t) [e, it] e (fun i h => (∃ old, IsEnum h e it ((i : Nat) : Int) old) ∧ h.IsTupleIter it t i) := by
  refine turn_pairs (by simp) (fun i h st c hc => ?_) (fun i h h' st k => ?_) (fun X hP hw hK hc i pins s σ H I st hg => ?_) fun A i s Q E st h => ?_
  · obtain ⟨⟨old, q1⟩, ⟨o2, e2, _, d2⟩⟩ := st
    simp only [List.mem_cons, List.not_mem_nil, or_false] at hc
    rcases hc with q | q <;> rw [q]
    · exact ⟨_, q1, fun v z => nomatch z⟩
    · exact ⟨o2, e2, fun v z => by rw [d2] at z; cases z⟩
  · obtain ⟨⟨old, q1⟩, q2⟩ := st
    exact ⟨⟨old, k e (by simp) _ q1⟩, q2.at fun o z => k it (by simp) o z⟩
  · subst hP hw hK
    have hh : X.A.in1.handled = none := I.ok.hd hc
    obtain ⟨xs, qx⟩ : ∃ xs, SqT X.K H t xs := by
      rcases hg with ⟨xs, q1, _⟩ | ⟨xs, q1, _⟩ <;> exact ⟨xs, q1⟩
    obtain ⟨its, rv, p, _⟩ := I.tuple qx
    obtain ⟨⟨old, h1⟩, h2⟩ := st
    have l1 := rv.length
    refine ⟨_, _, _, _, _, GoesN.enumFrom 0 (Draws.tuple (prog := X.prog) (w := X.w) hh it t ht its.toArray) e he (by simp; exact ⟨he, het⟩) (by simp), fun b hb => hb, ⟨⟨old, by rw [Int.zero_add]; exact h1⟩, h2, p⟩, fun j h z => ⟨by obtain ⟨⟨old, z⟩, _⟩ := z; rw [Int.zero_add] at z; exact ⟨old, z⟩, z.2.1⟩, fun q => ?_, fun q => ?_⟩
    · obtain ⟨xs', q1, q2⟩ := q
      rw [I.tuple_inj q1 qx] at q2
      refine ⟨by simp only [List.size_toArray]; omega, fun v h hy => ?_⟩
      obtain ⟨T, tk, x, rfl, hT, hx, ht'⟩ := hy
      obtain ⟨u, hu, ru⟩ := rv.get (List.getElem?_eq_getElem q2)
      rw [List.getElem?_toArray] at hx
      rw [hu] at hx
      cases hx
      exact ⟨T, .int (i : Nat), xs[i], .int (0 + (i : Int)) tk, x, rfl, hT, ht', ⟨tk, by rw [Int.zero_add]⟩, ru, T, xs[i], rfl, I.hok.fresh hT, rfl, fun l hl => by rw [I.tuple_inj hl qx]; exact List.getElem?_eq_getElem q2⟩
    · obtain ⟨xs', q1, q2⟩ := q
      rw [I.tuple_inj q1 qx] at q2
      simp only [List.size_toArray]
      omega
  · obtain ⟨⟨old, q1⟩, _⟩ := st
    exact wpAny_pyIter_enum q1 h
def iEnumT (K : PySem.W.Frag) (ta : TA) : TI := fun σ H R => ta σ H fun vs H1 => ∃ a xs, vs = [.ref a] ∧ SqT K H1 a xs ∧ ∀ J, Walk J xs.length (fun H => SqT K H a xs) (YPair (fun i => some (.int (i : Nat))) (fun i => xs[i]?)) → R J H1
theorem pi_enumT {X : Cx} {K : PySem.W.Frag} {e : Expr} {ta : TA} {p pos tpos : Pos} {elts : List Expr} {kk : Nat} (hK : X.K = K) (hg : Gl X "enumerate") (hm : X.mg "enumerate" = none) (ha : PA X [e] ta) (hs : starEach [e] X.env = [(false, eval e X.env)] := by rfl) :
    PI X (.Tuple elts kk tpos) (.Call (.Name "enumerate" p) [e] [] pos) (iEnumT K ta) := by
  subst hK
  refine ⟨fun pins s σ H R I h => ?_⟩
  refine Call_ (ld_blt I hg hm boot_enumerate (PyProof.Rows.callWith_type1 (thn (ha.run pos pins s σ H _ I h) fun us s1 ⟨vs, H1, I1, r1, q1⟩ => ?_) hs rfl))
  obtain ⟨a, xs, rfl, hq, q⟩ := q1
  rw [Vals.ref1 r1]
  obtain ⟨its, rv, pt, hz⟩ := I1.tuple hq
  have la : a < s1.heap.objs.size := pt.lt
  refine enumT_call pt fun h' he hit hk => wpAny_pyIter_enum he ?_
  have I2 : Inv X pins σ H1 { s1 with heap := h' } := I1.kept (t' := s1.toks) hk
  refine ⟨s1.heap.objs.size + 1, [s1.heap.objs.size + 1, s1.heap.objs.size], _, _, H1, rfl, I2, turn_enumT (t := a) (Nat.succ_ne_self _) (Nat.ne_of_lt la) (Nat.ne_of_gt (Nat.lt_succ_of_lt la)), ⟨⟨.none, he⟩, hit⟩, fun c hcm => ?_, q _ ⟨fun i H hi h => ⟨xs, h, hi⟩, fun H h => ⟨xs, h, rfl⟩, fun i H v H' hi h y => ?_⟩⟩
  · have hle : s1.heap.objs.size ≤ c := by
      simp only [List.mem_cons, List.not_mem_nil, or_false] at hcm
      rcases hcm with z | z <;> rw [z]
      · exact Nat.le_add_right _ _
      · exact Nat.le_refl _
    exact I1.fpOk hle (I1.hok.fresh hle)
  · obtain ⟨T, x, h1, h2, h3, h4⟩ := y
    exact ⟨T, .int (i : Nat), x, h1, h2, h3, rfl, h4 xs h⟩
end Ff
namespace Ff
open PySem PySem.Spec PyProof.Rows L2
theorem pe_tabGet {P : Program} {w : World} {K : PySem.W.Frag} {mg : PySem.Str → Option Value} {base : Heap} {Z : Adr} (T : Txt P w K mg base Z) {X : Cx} {e1 e2 : Expr} {p apos cpos : Pos} {t : TA} (hK : X.K = K) (hm : X.mg = mg) (hw : X.w = w) (hg : Gl X "PARTS") (ha : PA X [e1, e2] t)
    (hbase : attributeBase (.Name "PARTS" p) "get" X.env (eval (.Name "PARTS" p) X.env) = eval (.Name "PARTS" p) X.env := by rfl)
    (hfew : ((backTo cpos (starEach [e1, e2] X.env)).all (fun x => !x.1) && (backToKw cpos (keywordEach [] X.env)).all (fun x => x.1.isSome)
      && decide ([e1, e2].length + ([] : List Keyword).length + (if ([] : List Keyword).isEmpty then 0 else 1) < 30)) = true := by rfl)
    (hline : (apos.endLine == cpos.line) = true := by rfl) (hs : starEach [e1, e2] X.env = (false, eval e1 X.env) :: starEach [e2] X.env := by rfl) (hplain : (backTo cpos (starEach [e2] X.env)).any (·.1) = false := by rfl) :
    PE X (.Call (.Attribute (.Name "PARTS" p) "get" apos) [e1, e2] [] cpos) (fun σ H Q => t σ H fun vs H1 => vs = [.str "look", .int 0] ∧ Q (.int 3) H1) := by
  subst hK hm hw
  obtain ⟨es, n, u, mp, kd, hl, ru⟩ := T.parts
  have ho : PE X (.Name "PARTS" p) (tC (.ref Z.parts)) := C8.pe_gc hg ⟨_, mp, rfl⟩
  refine ⟨fun pins s σ H Q I h => ?_⟩
  refine wpAny_Call_method_late hbase hfew hline rfl (thn (ho.run pins s σ H (fun x H1 => x = .ref Z.parts ∧ t σ H1 fun vs H2 => vs = [.str "look", .int 0] ∧ Q (.int 3) H2) I ⟨rfl, h⟩) fun v s1 ⟨x, H1, I1, r1, ex, q1⟩ => ?_)
  subst ex
  obtain rfl : v = Value.ref Z.parts := r1
  have mo1 := PySem.W.mapOf_K (prog := X.prog) (w := X.w) I1.kIn kd.at_ kd.lit
  refine ⟨"dict", "dict.get", PySem.F.plainAttrs_dict, PySem.F.slot_dict_get, PySem.F.type_dict_get, mo1.typeIs, fun b q => ?_, ?_⟩
  · cases q
    exact mo1.noDict _ rfl
  have hA := ha.run cpos pins s1 σ H1 _ I1 q1
  rw [hs] at hA ⊢
  refine Calls.callWith_builtin (by show (false || (backTo cpos (starEach [e2] X.env)).any (·.1)) = false; rw [hplain] <;> rfl) (Calls.evalArgs_plain ?_)
  refine thn hA fun us s2 ⟨vs, H2, I2, r2, ev, q2⟩ => ?_
  subst ev
  obtain ⟨ua, ub, rfl, ra, rb⟩ := vals2 r2
  obtain ⟨ta, rfl⟩ := ra
  have mo2 := PySem.W.mapOf_K (prog := X.prog) (w := X.w) I2.kIn kd.at_ kd.lit
  refine call_meetsIn PySem.F.slot_dict_get mo2.typeIs PySem.F.entry_dict_get (PySem.F.args_dict_get_3 _ _ _) (meets_dict_get_default (PySem.strKind X.prog X.w) Z.parts (PySem.strKind_is X.prog X.w "look" ta) kd.low ub) ⟨_, mo2, ?_⟩
  rw [PySem.W.find_K kd.at_ hl]
  exact ⟨.int 3, H2, I2.tok _, ru, q2⟩
end Ff
namespace Ff
open PySem PySem.Spec PyProof.Rows L2
theorem zip_no_len : typeLookup (.type "zip") "__len__" = pure none := PySem.am_miss_of_fast (by decide +kernel)
theorem zip_no_hint : typeLookup (.type "zip") "__length_hint__" = pure none := PySem.am_miss_of_fast (by decide +kernel)
/-- the cells of a zip, between two draws; S: the list that is filled -/
def ZSt (z TI TO i1 i2 l1 l2 S : Addr) (xs ys : Array Value) (i : Nat) (h : Heap) : Prop :=
  PySem.IsPair h TI (.ref i1) (.ref i2) ∧ h.IsListIter i1 l1 i ∧ h.IsListIter i2 l2 i ∧ h.IsList l1 xs ∧ h.IsList l2 ys ∧
    ((IsZip h z TI TO .none ∧ ∃ a b, PySem.IsPair h TO a b) ∨ ∃ T f oT, PySem.IsZipHeld h z TI TO T f ∧ h.get? T = some oT ∧ T ≠ z ∧ T ≠ i1 ∧ T ≠ i2 ∧ T ≠ S)
theorem ZSt.mv {z TI TO i1 i2 l1 l2 S : Addr} {xs ys : Array Value} {i : Nat} {h h' : Heap} (st : ZSt z TI TO i1 i2 l1 l2 S xs ys i h) (sn : S ∉ [z, TI, TO, i1, i2, l1, l2]) (k : ∀ b o, b ≠ S → h.get? b = some o → h'.get? b = some o) : ZSt z TI TO i1 i2 l1 l2 S xs ys i h' := by
  obtain ⟨a1, a2, a3, a4, a5, a6⟩ := st
  simp only [List.mem_cons, List.not_mem_nil, or_false, not_or] at sn
  obtain ⟨n1, n2, n3, n4, n5, n6, n7⟩ := sn
  refine ⟨k _ _ (Ne.symm n2) a1, a2.at fun o => k _ o (Ne.symm n4), a3.at fun o => k _ o (Ne.symm n5), a4.at fun o => k _ o (Ne.symm n6), a5.at fun o => k _ o (Ne.symm n7), ?_⟩
  rcases a6 with ⟨q, a, b, r⟩ | ⟨T, f, oT, q, r, t1, t2, t3, t4⟩
  · exact .inl ⟨k _ _ (Ne.symm n1) q, a, b, k _ _ (Ne.symm n3) r⟩
  · exact .inr ⟨T, f, oT, k _ _ (Ne.symm n1) q, k _ _ t4 r, t1, t2, t3, t4⟩
section
variable {P : Program} {w : World} {A : Around} {E : Value → Shared → Prop} {s : Shared} {z TI TO i1 i2 l1 l2 S : Addr} {xs ys : Array Value} {i : Nat}
theorem zst_item (D : ZipApart z TI TO i1 i2 l1 l2) (st : ZSt z TI TO i1 i2 l1 l2 S xs ys i s.heap) (hS : S < s.heap.objs.size) {x y : Value} (hx : xs[i]? = some x) (hy : ys[i]? = some y) {Q : Option Value → Shared → Prop}
    (q : ∀ h', ZSt z TI TO i1 i2 l1 l2 S xs ys (i + 1) h' → PySem.IsPair h' s.heap.objs.size x y → (∀ c o, c ∉ [z, TO, i1, i2] → s.heap.get? c = some o → h'.get? c = some o) → Q (some (.ref s.heap.objs.size)) { s with heap := h' }) :
    wpAny (model P w) A (pyNext (.ref z)) Q E s := by
  obtain ⟨a1, a2, a3, a4, a5, a6⟩ := st
  have lt : ∀ {c o}, s.heap.get? c = some o → s.heap.objs.size ≠ c := fun e => Nat.ne_of_gt (Heap.lt_size e)
  have n1 : s.heap.objs.size ≠ i1 := let ⟨_, e, _⟩ := a2; lt e
  have n2 : s.heap.objs.size ≠ i2 := let ⟨_, e, _⟩ := a3; lt e
  rcases a6 with ⟨hz, a, b, hTO⟩ | ⟨T, f, oT, hz, hT, r1, r2, r3, r4⟩
  · refine wpAny_pyNext_zip_item D hz a1 hTO a2 a3 a4 a5 hx hy fun h' b1 b2 b3 b4 b5 b6 k => ?_
    exact q h' ⟨k _ _ D.TIz D.TITO D.TIi1 D.TIi2 a1, b3, b4, a4.at fun o => k _ o D.l1z D.l1TO D.l1i1 D.l1i2, a5.at fun o => k _ o D.l2z D.l2TO D.l2i1 D.l2i2, .inr ⟨s.heap.objs.size, false, _, b1, b5, lt hz, n1, n2, Nat.ne_of_gt hS⟩⟩ b5
      fun c o hc => by
        simp only [List.mem_cons, List.not_mem_nil, or_false, not_or] at hc
        exact k c o hc.1 hc.2.1 hc.2.2.1 hc.2.2.2
  · refine PySem.wpAny_pyNext_zip_item_held D hz hT a1 a2 a3 a4 a5 hx hy fun h' b1 b3 b4 b5 b6 k => ?_
    exact q h' ⟨k _ _ D.TIz D.TIi1 D.TIi2 a1, b3, b4, a4.at fun o => k _ o D.l1z D.l1i1 D.l1i2, a5.at fun o => k _ o D.l2z D.l2i1 D.l2i2, .inr ⟨T, true, oT, b1, k _ _ r1 r2 r3 hT, r1, r2, r3, r4⟩⟩ b5
      fun c o hc => by
        simp only [List.mem_cons, List.not_mem_nil, or_false, not_or] at hc
        exact k c o hc.1 hc.2.2.1 hc.2.2.2
theorem zst_end (hA : A.handled = none) (D : ZipApart z TI TO i1 i2 l1 l2) (st : ZSt z TI TO i1 i2 l1 l2 S xs ys i s.heap) (hx : xs[i]? = none) {Q : Option Value → Shared → Prop}
    (q : ∀ h', (∀ c o, c ∉ [z, TO, i1, i2] → s.heap.get? c = some o → h'.get? c = some o) → Q none { s with heap := h' }) : wpAny (model P w) A (pyNext (.ref z)) Q E s := by
  obtain ⟨a1, a2, a3, a4, a5, a6⟩ := st
  rcases a6 with ⟨hz, a, b, hTO⟩ | ⟨T, f, oT, hz, hT, r1, r2, r3, r4⟩
  · refine wpAny_pyNext_zip_end hA D hz a1 hTO a2 a3 a4 a5 (.inl hx) fun h' k => q h' fun c o hc => ?_
    simp only [List.mem_cons, List.not_mem_nil, or_false, not_or] at hc
    exact k c o hc.1 hc.2.1 hc.2.2.1 hc.2.2.2
  · refine PySem.wpAny_pyNext_zip_end_held hA D hz hT a1 a2 a3 a4 a5 (.inl hx) fun h' k => q h' fun c o hc => ?_
    simp only [List.mem_cons, List.not_mem_nil, or_false, not_or] at hc
    exact k c o hc.1 hc.2.2.1 hc.2.2.2
end
def PrR (H : Hp) (t : V) (p : V × V) : Prop := ∃ q, t = V.ref q ∧ H q = some (.tup [p.1, p.2])
theorem zip_take {α β : Type} {l : List α} {m : List β} {i : Nat} {a : α} {b : β} (h1 : l[i]? = some a) (h2 : m[i]? = some b) : (l.zip m).take (i + 1) = (l.zip m).take i ++ [(a, b)] := by
  have e : (l.zip m)[i]? = some (a, b) := by rw [List.getElem?_zip_eq_some]; exact ⟨h1, h2⟩
  rw [List.take_add_one, e] <;> rfl
section
variable {X : Cx} {pins : List (Addr × Obj)} {σ : L2.St} {A : Around} {z TI TO i1 i2 l1 l2 S : Addr} {xs ys : Array Value} {vx vy : List V}
theorem zip_fill (hA : A.in1.handled = none) (D : ZipApart z TI TO i1 i2 l1 l2) (hl : xs.size = ys.size) (hn : xs.size ≤ 100000) (rx : Vals vx xs.toList) (ry : Vals vy ys.toList) (sn : S ∉ [z, TI, TO, i1, i2, l1, l2]) {R : Result → Shared → Prop} :
    ∀ (k i : Nat) (s : Shared) (H : Hp) (ts : List V), xs.size - i = k → i ≤ xs.size → Inv X pins σ H s → (∀ b ∈ [z, TO, i1, i2], FpOk X pins H b ∧ b < s.heap.objs.size) → ZSt z TI TO i1 i2 l1 l2 S xs ys i s.heap → H S = some (.lst ts) → Paired (PrR H) ts ((vx.zip vy).take i) →
      (∀ s' H' ts', Inv X pins σ H' s' → (∀ a o, a ≠ S → H a = some o → H' a = some o) → H' S = some (.lst ts') → Paired (PrR H') ts' (vx.zip vy) → R (.ok (.ret .none)) s') →
      codeAny (model X.prog X.w) A (.builtin "list.extend.loop" ⟨[.ref S, .ref z, .none], []⟩) R s := by
  have lx : vx.length = xs.size := by have := rx.length; simpa using this
  have ly : vy.length = ys.size := by have := ry.length; simpa using this
  have s4 : S ∉ [z, TO, i1, i2] := fun h => sn (by simp only [List.mem_cons, List.not_mem_nil, or_false] at h ⊢; rcases h with h | h | h | h <;> simp [h])
  intro k
  induction k with
  | zero =>
    intro i s H ts hk hi I hf st hS pr fin
    have e : i = xs.size := by omega
    subst e
    refine codeAny_builtin F.entry_extend_loop ?_
    rw [Around.under_plainId F.plain_extend_loop _]
    show wpAny _ A.in1 (pyNext (.ref z) >>= _) _ _ s
    refine wpAny_bind (zst_end hA D st (by simp) fun h' kp => ?_)
    have I1 : Inv X pins σ H { s with heap := h' } := I.turnedL (t' := s.toks) (ch := [z, TO, i1, i2]) kp fun b hb => (hf b hb).1
    rw [List.take_of_length_le (by rw [List.length_zip]; omega)] at pr
    exact wpAny_pure (fin _ H ts I1 (fun _ _ _ h => h) hS pr)
  | succ k ih =>
    intro i s H ts hk hi I hf st hS pr fin
    obtain ⟨sz, its, n, rts, hg⟩ := I.hok S _ hS
    have tl := paired_len pr
    rw [List.length_take, List.length_zip] at tl
    have il := rts.length
    obtain ⟨x, hx⟩ : ∃ x, xs[i]? = some x := ⟨_, Array.getElem?_eq_getElem (by omega)⟩
    obtain ⟨y, hy⟩ : ∃ y, ys[i]? = some y := ⟨_, Array.getElem?_eq_getElem (by omega)⟩
    obtain ⟨a, ha⟩ : ∃ a, vx[i]? = some a := ⟨_, List.getElem?_eq_getElem (by omega)⟩
    obtain ⟨b, hb⟩ : ∃ b, vy[i]? = some b := ⟨_, List.getElem?_eq_getElem (by omega)⟩
    obtain ⟨u, hu, ru⟩ := rx.get ha
    obtain ⟨u', hu', ru'⟩ := ry.get hb
    rw [Array.getElem?_toList] at hu hu'
    rw [hx] at hu
    rw [hy] at hu'
    cases hu
    cases hu'
    refine codeAny_builtin F.entry_extend_loop ?_
    rw [Around.under_plainId F.plain_extend_loop _]
    show wpAny _ A.in1 (pyNext (.ref z) >>= _) _ _ s
    refine wpAny_bind (zst_item D st (Heap.lt_size hg) hx hy fun h' st' hT kp => ?_)
    have new : ObjOk X.prog X.w (upd H s.heap.objs.size (.tup [a, b])) h' s.heap.objs.size (.tup [a, b]) := ⟨by show 2 ≤ sizeLine; decide, [x, y], .cons ru (.cons ru' .nil), ⟨_, hT, rfl, _, rfl⟩⟩
    have nT := I.hok.fresh (Nat.le_refl s.heap.objs.size)
    have I1 : Inv X pins σ (upd H s.heap.objs.size (.tup [a, b])) { s with heap := h' } := I.turnedNew (t' := s.toks) (ch := [z, TO, i1, i2]) kp (fun b hb => (hf b hb).1) (Nat.le_refl _) new
    have hS1 := upd_old (o' := .tup [a, b]) hS nT
    have hg1 := kp S _ s4 hg
    have hTS : S ≠ s.heap.objs.size := Nat.ne_of_lt (Heap.lt_size hg)
    have hf1 : ∀ c ∈ [z, TO, i1, i2], FpOk X pins (upd H s.heap.objs.size (.tup [a, b])) c := fun c hc => by
      refine ⟨?_, (hf c hc).1.2⟩
      rw [upd_ne (Nat.ne_of_lt (hf c hc).2)]
      exact (hf c hc).1.1
    show wpAny _ A.in1 (updateSeq S (·.push (.ref s.heap.objs.size)) >>= _) _ _ _
    refine wpAny_bind (wpAny_updateSeq hg1 rfl (wpAny_pure ⟨plainId_quiet F.plain_extend_loop _, ?_⟩) (by rw [List.size_toArray, sizeLine_eq]; omega) (by show (its.toArray.push _).size ≤ sizeLine + 1; rw [Array.size_push, List.size_toArray, sizeLine_eq]; omega))
    have gS := Heap.get?_update_self (Obj.mapSeq (·.push (Value.ref s.heap.objs.size))) hg1 rfl
    have gO : ∀ c o, c ≠ S → h'.get? c = some o → (h'.update S (Obj.mapSeq (·.push (Value.ref s.heap.objs.size)))).get? c = some o := fun c o ne e => (Heap.get?_update_other _ _ (Ne.symm ne)).trans e
    obtain ⟨h2, hh2⟩ : ∃ h2, h'.update S (Obj.mapSeq (·.push (Value.ref s.heap.objs.size))) = h2 := ⟨_, rfl⟩
    rw [hh2] at gS gO
    show codeAny _ _ _ _ { s with heap := h'.update S (Obj.mapSeq (·.push (Value.ref s.heap.objs.size))) }
    rw [hh2]
    obtain ⟨n', gS'⟩ : ∃ n', h2.get? S = some { cls := .type "list", data := .seq (its.toArray.push (.ref s.heap.objs.size)) n' } := ⟨_, gS⟩
    have new2 : ObjOk X.prog X.w (upd (upd H s.heap.objs.size (.tup [a, b])) S (.lst (ts ++ [.ref s.heap.objs.size]))) h2 S (.lst (ts ++ [.ref s.heap.objs.size])) := by
      refine ⟨by rw [List.length_append, List.length_singleton, sizeLine_eq]; omega, its ++ [.ref s.heap.objs.size], n', rts.append (show Vals [V.ref s.heap.objs.size] [Value.ref s.heap.objs.size] from .cons rfl .nil), ?_⟩
      have e : (its ++ [Value.ref s.heap.objs.size]).toArray = its.toArray.push (.ref s.heap.objs.size) := by simp
      rw [e]
      exact gS'
    have I2 : Inv X pins σ (upd (upd H s.heap.objs.size (.tup [a, b])) S (.lst (ts ++ [.ref s.heap.objs.size]))) { s with heap := h2 } := I1.write (e := S) (t' := s.toks) (by rw [hS1]; exact True.intro) (.inl rfl) gO ⟨_, gS⟩ new2
    refine ih (i + 1) _ _ (ts ++ [.ref s.heap.objs.size]) (by omega) (by omega) I2 (fun c hc => ⟨⟨?_, (hf1 c hc).2⟩, ?_⟩) (st'.mv sn gO) upd_same ?_ fun s' H' ts' J1 J2 J3 J4 => fin s' H' ts' J1 (fun c o ne e => J2 c o ne ?_) J3 J4
    · rw [upd_ne (fun q => s4 (by rw [← q]; exact hc))]
      exact (hf1 c hc).1
    · exact Nat.lt_trans (hf c hc).2 (Heap.lt_size (gO _ _ (Ne.symm hTS) hT))
    · rw [zip_take ha hb]
      have p1 : PrR (upd (upd H s.heap.objs.size (.tup [a, b])) S (.lst (ts ++ [.ref s.heap.objs.size]))) (.ref s.heap.objs.size) (a, b) := ⟨_, rfl, upd_off upd_same (Ne.symm hTS)⟩
      exact paired_app p1 (paired_map (fun t p ⟨q, e1, e2⟩ => ⟨q, e1, upd_off (upd_old e2 nT) (ne_of e2 hS (fun z => nomatch z))⟩) pr)
    · exact upd_off (upd_old e nT) ne
abbrev lO : Obj := { cls := .type "list", data := .seq #[] }
/-- list(z), z a new zip -/
theorem list_zip {s : Shared} {H : Hp} {Q : VK} (hA : A.in1.in1.handled = none) (D : ZipApart z TI TO i1 i2 l1 l2) (hl : xs.size = ys.size) (hn : xs.size ≤ 100000) (rx : Vals vx xs.toList) (ry : Vals vy ys.toList) (I : Inv X pins σ H s)
    (hf : ∀ b ∈ [z, TO, i1, i2], FpOk X pins H b ∧ b < s.heap.objs.size) (sn : s.heap.objs.size ∉ [z, TI, TO, i1, i2, l1, l2]) (st : ZSt z TI TO i1 i2 l1 l2 s.heap.objs.size xs ys 0 s.heap) (hz : IsZip s.heap z TI TO .none)
    (fin : ∀ p ts H', H p = none → Ex H H' → H' p = some (.lst ts) → Paired (PrR H') ts (vx.zip vy) → Q (.ref p) H') {E : Value → Shared → Prop} : wpAny (model X.prog X.w) A (call (.type "list") [.ref z]) (EP X pins σ Q) E s := by
  have nS : H s.heap.objs.size = none := I.hok.fresh (Nat.le_refl _)
  have tz : s.TypeIs (.ref z) "zip" := ⟨_, hz, rfl⟩
  refine callType_codes (Q₁ := fun ob s₁ => ob = .ref s.heap.objs.size ∧ s₁ = { s with heap := s.heap.push lO }) F.called_list (F.typeCall_list_1 _) F.entry_list_init (code_list_new _ ⟨rfl, rfl⟩) fun ob s₁ h₁ => ?_
  obtain ⟨rfl, rfl⟩ := h₁
  have hS : (s.heap.push lO).get? s.heap.objs.size = some lO := Heap.get?_push_size _ rfl
  refine ⟨⟨_, hS, rfl⟩, F.args_list_init_2 _ _, ?_⟩
  obtain ⟨S, eS⟩ : ∃ S, s.heap.objs.size = S := ⟨_, rfl⟩
  have up : ∀ b o, s.heap.get? b = some o → (s.heap.push lO).get? b = some o := fun b o e => Heap.get?_push_of_some _ e
  rw [eS] at hS sn st nS ⊢
  have zS : S ≠ z := fun q => sn (by simp [q])
  show wpAny _ _ (do let old ← Builtin.List.listItems (.ref S); Builtin.List.listUpdate (.ref S) (fun _ => #[]); letGo old.toList.reverse; Builtin.List.listExtendWith (.ref S) (.ref z) .none) _ _ _
  refine wpAny_bind ?_
  unfold Builtin.List.listItems
  refine wpAny_bind (wpAny_seqItems hS rfl (wpAny_pure ?_))
  show wpAny _ _ (updateSeq S (fun _ => #[]) >>= fun _ => letGo (#[] : Array Value).toList.reverse >>= fun _ => Builtin.List.listExtendWith (.ref S) (.ref z) .none) _ _ _
  refine wpAny_bind (wpAny_updateSeq hS rfl ?_)
  have hS2 := Heap.get?_update_self (Obj.mapSeq (fun _ => (#[] : Array Value))) hS rfl
  have up2 : ∀ b o, b ≠ S → s.heap.get? b = some o → ((s.heap.push lO).update S (Obj.mapSeq (fun _ => (#[] : Array Value)))).get? b = some o := fun b o hb e => (Heap.get?_update_other _ _ (Ne.symm hb)).trans (up b o e)
  refine wpAny_bind (wpAny_letGo ?_)
  unfold Builtin.List.listExtendWith
  obtain ⟨g2, hg2⟩ : ∃ g2, (s.heap.push lO).update S (Obj.mapSeq (fun _ => (#[] : Array Value))) = g2 := ⟨_, rfl⟩
  rw [hg2] at hS2 up2
  show wpAny _ _ _ _ _ { s with heap := (s.heap.push lO).update S (Obj.mapSeq (fun _ => (#[] : Array Value))) }
  rw [hg2]
  have tz2 : Shared.TypeIs { s with heap := g2 } (.ref z) "zip" := by
    obtain ⟨o, ho, hc⟩ := tz
    exact ⟨o, up2 _ _ (Ne.symm zS) ho, hc⟩
  refine wpAny_bind (wpAny_typeOf tz2 ?_)
  have k1 : Builtin.List.listSameRef (.ref S) (.ref z) = false := by simp [Builtin.List.listSameRef, zS]
  have k2 : (Value.type "zip" == Value.type "list") = false := by decide
  have k3 : (Value.type "zip" == Value.type "tuple") = false := by decide
  simp only [k1, k2, k3, Bool.or_false, Bool.false_eq_true, if_false]
  refine wpAny_bind (wpAny_pyIter_zip (s := { s with heap := g2 }) (up2 _ _ (Ne.symm zS) hz) ?_)
  refine wpAny_bind (wpAny_holding ?_)
  unfold Builtin.List.listLengthHint
  refine wpAny_bind (wpAny_specialOf tz2 zip_no_len ?_)
  show wpAny _ _ (specialOf (Value.ref z) (Str.ofString "__length_hint__") >>= _) _ _ _
  refine wpAny_bind (wpAny_specialOf tz2 zip_no_hint ?_)
  refine wpAny_pure ?_
  show wpAny _ _ (rule "list.extend.makes-room" >>= fun _ => Builtin.List.listTouch (.ref S) >>= fun _ => again (.builtin "list.extend.loop" ⟨[.ref S, .ref z, .none], []⟩)) _ _ _
  refine wpAny_bind (wpAny_rule (wpAny_bind ?_))
  show wpAny _ _ (updateSeq S (·.push .none) >>= fun _ => updateSeq S (·.pop)) _ _ _
  refine wpAny_bind (wpAny_updateSeq hS2 rfl ?_)
  have hS3 := Heap.get?_update_self (Obj.mapSeq (·.push Value.none)) hS2 rfl
  refine wpAny_updateSeq (hz := by seq_fits) hS3 rfl ?_
  have hS4 := Heap.get?_update_self (Obj.mapSeq (·.pop)) hS3 rfl
  have up4 : ∀ b o, b ≠ S → s.heap.get? b = some o → ((g2.update S (Obj.mapSeq (·.push Value.none))).update S (Obj.mapSeq (·.pop))).get? b = some o := fun b o hb e => (Heap.get?_update_other _ _ (Ne.symm hb)).trans ((Heap.get?_update_other _ _ (Ne.symm hb)).trans (up2 b o hb e))
  obtain ⟨g4, hg4⟩ : ∃ g4, (g2.update S (Obj.mapSeq (·.push Value.none))).update S (Obj.mapSeq (·.pop)) = g4 := ⟨_, rfl⟩
  rw [hg4] at hS4 up4
  refine wpAny_pure ⟨plainId_quiet F.plain_extend_loop _, ?_⟩
  show codeAny _ _ _ _ { s with heap := (g2.update S (Obj.mapSeq (·.push Value.none))).update S (Obj.mapSeq (·.pop)) }
  rw [hg4]
  obtain ⟨n4, hS5⟩ : ∃ n4, g4.get? S = some { cls := .type "list", data := .seq ([] : List Value).toArray n4 } := ⟨_, hS4⟩
  have I4 : Inv X pins σ (upd H S (.lst [])) { s with heap := g4 } := by
    rw [← eS] at hS5 up4 ⊢
    exact I.laid (t' := s.toks) (fun b o e => up4 b o (Nat.ne_of_lt (Heap.lt_size e)) e) (Nat.le_refl _) ⟨Nat.zero_le _, [], n4, .nil, hS5⟩
  have lt4 : s.heap.objs.size < g4.objs.size := by rw [eS]; exact Heap.lt_size hS5
  refine zip_fill hA D hl hn rx ry sn _ 0 _ _ [] rfl (Nat.zero_le _) I4 (fun b hb => ⟨⟨?_, (hf b hb).1.2⟩, Nat.lt_trans (hf b hb).2 lt4⟩) (st.mv sn up4) upd_same .nil fun s' H' ts' J1 J2 J3 J4 => ⟨rfl, .ref S, H', J1, rfl, fin S ts' H' nS (fun b o e => J2 b o (ne_of_none e nS) (upd_old e nS)) J3 J4⟩
  rw [upd_ne (fun q => sn (by rw [← q]; simp only [List.mem_cons, List.not_mem_nil, or_false] at hb ⊢; rcases hb with h | h | h | h <;> simp [h]))]
  exact (hf b hb).1.1
end
theorem pe_listZip {X : Cx} {K : PySem.W.Frag} {e1 e2 : Expr} {p pz pos posz : Pos} {t : TA} (hK : X.K = K) (hc : X.calm = true) (hg : Gl X "list") (hm : X.mg "list" = none) (hgz : Gl X "zip") (hmz : X.mg "zip" = none) (ha : PA X [e1, e2] t)
    (na : starEach [Expr.Call (.Name "zip" pz) [e1, e2] [] posz] X.env = (false, eval (.Call (.Name "zip" pz) [e1, e2] [] posz) X.env) :: starEach [] X.env := by rfl)
    (hs : starEach [e1, e2] X.env = (false, eval e1 X.env) :: starEach [e2] X.env := by rfl) (hpl : (backTo posz (starEach [e2] X.env)).any (·.1) = false := by rfl) :
    PE X (.Call (.Name "list" p) [.Call (.Name "zip" pz) [e1, e2] [] posz] [] pos) (fun σ H Q => t σ H fun vs H1 => ∃ a b xs ys, vs = [.ref a, .ref b] ∧ SqL K H1 a xs ∧ SqL K H1 b ys ∧ xs.length = ys.length ∧ xs.length ≤ 100000 ∧
      ∀ p ts H', H1 p = none → Ex H1 H' → H' p = some (.lst ts) → Paired (fun t z => ∃ q, t = V.ref q ∧ H' q = some (.tup [z.1, z.2])) ts (xs.zip ys) → Q (.ref p) H') := by
  subst hK
  refine ⟨fun pins s σ H Q I h => ?_⟩
  refine Call_ (ld_blt I hg hm boot_list (PyProof.Rows.callWith_type1 (args_cons ?_ na) na))
  refine Call_ (ld_blt I hgz hmz PyProof.Rows.boot_zip (PyProof.Rows.callWith_type1 (thn (ha.run posz pins s σ H _ I h) fun us s1 ⟨vs, H1, I1, r1, q1⟩ => ?_) hs hpl))
  obtain ⟨a, b, xs, ys, rfl, hqx, hqy, el, en, q⟩ := q1
  obtain ⟨ua, ub, rfl, ra, rb⟩ := vals2 r1
  cases ra; cases rb
  obtain ⟨its, rv, p1, _⟩ := I1.list hqx
  obtain ⟨its2, rv2, p2, _⟩ := I1.list hqy
  have la : a < s1.heap.objs.size := p1.lt
  have lb : b < s1.heap.objs.size := p2.lt
  refine call_zip_2 p1.isList p2.isList fun h' hz hTI hTO h1 h2 hsz hk => args_nil ?_
  have I2 : Inv X pins σ H1 { s1 with heap := h' } := I1.kept (t' := s1.toks) hk
  have l1 : xs.length = its.length := rv.length
  have l2 : ys.length = its2.length := rv2.length
  have D := PySem.W.ktu_apart s1.heap.objs.size a b la lb
  have sn : h'.objs.size ∉ [s1.heap.objs.size + 4, s1.heap.objs.size + 2, s1.heap.objs.size + 3, s1.heap.objs.size, s1.heap.objs.size + 1, a, b] := fun hm => by
    rw [hsz] at hm
    simp only [List.mem_cons, List.not_mem_nil, or_false] at hm
    have la : (a : Nat) < s1.heap.objs.size := la
    have lb : (b : Nat) < s1.heap.objs.size := lb
    rcases hm with h | h | h | h | h | h | h
    · exact absurd (Nat.add_left_cancel h) (by decide)
    · exact absurd (Nat.add_left_cancel h) (by decide)
    · exact absurd (Nat.add_left_cancel h) (by decide)
    · exact absurd h (Nat.ne_of_gt (Nat.lt_add_of_pos_right (by decide)))
    · exact absurd (Nat.add_left_cancel h) (by decide)
    · exact absurd h (Nat.ne_of_gt (Nat.lt_of_lt_of_le la (Nat.le_add_right _ _)))
    · exact absurd h (Nat.ne_of_gt (Nat.lt_of_lt_of_le lb (Nat.le_add_right _ _)))
  refine list_zip (s := { s1 with heap := h' }) (I1.ok.hd hc) D (by simp only [List.size_toArray]; omega) (by simp only [List.size_toArray]; omega) rv rv2 I2 (fun c hcm => ?_) sn ⟨hTI, h1, h2, p1.isList.at fun o e => hk _ o e, p2.isList.at fun o e => hk _ o e, .inl ⟨hz, _, _, hTO⟩⟩ hz q
  have hcm' : s1.heap.objs.size ≤ c ∧ c < h'.objs.size := by
    rw [hsz]
    simp only [List.mem_cons, List.not_mem_nil, or_false] at hcm
    rcases hcm with h | h | h | h <;> rw [h]
    · exact ⟨Nat.le_add_right _ _, Nat.lt_succ_self _⟩
    · exact ⟨Nat.le_add_right _ _, Nat.add_lt_add_left (by decide) _⟩
    · exact ⟨Nat.le_refl _, Nat.lt_add_of_pos_right (by decide)⟩
    · exact ⟨Nat.le_add_right _ _, Nat.add_lt_add_left (by decide) _⟩
  exact ⟨I1.fpOk hcm'.1 (I1.hok.fresh hcm'.1), hcm'.2⟩
end Ff
end
section
set_option maxRecDepth 100000
/-! Plain facts on programs: cells, steps, paths. -/
namespace Ff
open PySem PySem.Spec PyProof.Rows L2
inductive Row where
  | tell (w : PySem.Str)
  | look (h : Int) (es ts : List Int)
def cellS (es : List Int) (s : Int) : Int := (es.map fun e => (if 2 * e ≤ s then 1 else 0) + (if 2 * e < s then 1 else 0)).sum
theorem cellS_rng : ∀ (es : List Int) (s : Int), 0 ≤ cellS es s ∧ cellS es s ≤ 2 * es.length
  | [], s => by simp [cellS]
  | e :: es, s => by
    have h := cellS_rng es s
    unfold cellS at h ⊢
    rw [List.map_cons, List.sum_cons, List.length_cons]
    split <;> split <;> omega
theorem mul_le_spot {m b e : Int} (hb : 1 ≤ b) : (e * b ≤ m ↔ 2 * e ≤ spotR m b) ∧ (e * b < m ↔ 2 * e < spotR m b) := by
  have h1 := Int.emod_nonneg m (show b ≠ 0 by omega)
  have h2 := Int.emod_lt_of_pos m (show 0 < b by omega)
  have h3 := Int.emod_add_mul_ediv m b
  have k1 : e * b ≤ m ↔ e ≤ m / b := (Int.le_ediv_iff_mul_le (by omega)).symm
  have k2 : m % b = 0 → (e * b = m ↔ e = m / b) := fun z => by
    rw [z] at h3
    constructor
    · intro q
      have : m / b = e := by rw [← q]; exact Int.mul_ediv_cancel e (by omega)
      omega
    · intro q
      rw [q, Int.mul_comm]
      omega
  have k3 : m % b ≠ 0 → e * b ≠ m := fun z q => z (by rw [← q]; exact Int.mul_emod_left e b)
  unfold spotR
  by_cases z : m % b = 0
  · have k2 := k2 z
    rw [if_pos z]
    constructor <;> constructor <;> intro q <;> omega
  · have k3 := k3 z
    rw [if_neg z]
    constructor <;> constructor <;> intro q <;> omega
theorem cell_red {m b T B g : Int} (es : List Int) (hb : 1 ≤ b) (hg : 0 < g) (e1 : m = g * T) (e2 : b = g * B) :
    (es.map fun e => (if e * B ≤ T then (1 : Int) else 0) + (if e * B < T then 1 else 0)).sum = cellS es (spotR m b) := by
  unfold cellS
  congr 1
  refine List.map_congr_left fun e _ => ?_
  have h := mul_le_spot (m := m) (e := e) hb
  have q1 : e * B ≤ T ↔ e * b ≤ m := by
    rw [e1, e2, show e * (g * B) = g * (e * B) by ac_rfl]
    exact ⟨fun q => Int.mul_le_mul_of_nonneg_left q (by omega), fun q => Int.le_of_mul_le_mul_left q hg⟩
  have q2 : e * B < T ↔ e * b < m := by
    rw [e1, e2, show e * (g * B) = g * (e * B) by ac_rfl]
    exact ⟨fun q => Int.mul_lt_mul_of_pos_left q hg, fun q => Int.lt_of_mul_lt_mul_left q (by omega)⟩
  simp only [q1, q2, h.1, h.2]
def goalS (h : Int) (es ts : List Int) (s : Int) : Int := (ts[(cellS es (fold h s)).toNat]?).getD 0
theorem goalS_get {h : Int} {es ts : List Int} {s : Int} (l : ts.length = 2 * es.length + 1) : ts[(cellS es (fold h s)).toNat]? = some (goalS h es ts s) ∧ goalS h es ts s ∈ ts := by
  have c := cellS_rng es (fold h s)
  have : (cellS es (fold h s)).toNat < ts.length := by omega
  have q : ts[(cellS es (fold h s)).toNat]? = some (goalS h es ts s) := by
    unfold goalS
    rw [List.getElem?_eq_getElem this]
    rfl
  exact ⟨q, List.mem_of_getElem? q⟩
/-- where a row leads at a spot -/
def stepR (rows : List Row) (s at_ : Int) : Option Int := match rows[at_.toNat]? with
  | some (.look h es ts) => some (goalS h es ts s)
  | _ => none
def pathGo (rows : List Row) (s : Int) : Nat → List Int → Int → List Int
  | 0, path, _ => path
  | n + 1, path, at_ => match stepR rows s at_ with
    | none => path
    | some nx => if nx ∈ path then path ++ [nx] else pathGo rows s n (path ++ [nx]) nx
def pathF (rows : List Row) (s : Int) : List Int := pathGo rows s rows.length [0] 0
theorem nodup_le : ∀ (n : Nat) (l : List Int), l.Nodup → (∀ x ∈ l, 0 ≤ x ∧ x < n) → l.length ≤ n
  | 0, l, _, h => by
    cases l with
    | nil => simp
    | cons a l => have := h a (by simp); omega
  | n + 1, l, hd, h => by
    by_cases q : (n : Int) ∈ l
    · have h1 := nodup_le n (l.erase (n : Int)) (hd.erase _) fun x hx => by
        have := (hd.mem_erase_iff).mp hx
        have := h x this.2
        omega
      rw [List.length_erase_of_mem q] at h1
      omega
    · have := nodup_le n l hd fun x hx => by
        have h1 := h x hx
        have : x ≠ n := fun e => q (e ▸ hx)
        omega
      omega
end Ff
namespace Ff
open PySem PySem.Spec PyProof.Rows L2
theorem stepR_fold {rows : List Row} {L s a : Int} (h : ∀ h es ts, Row.look h es ts ∈ rows → 1 ≤ h ∧ h ∣ L) : stepR rows (fold L s) a = stepR rows s a := by
  unfold stepR
  cases q : rows[a.toNat]? with
  | none => rfl
  | some r =>
    cases r with
    | tell w => rfl
    | look k es ts =>
      have := h k es ts (List.mem_of_getElem? q)
      show some (goalS k es ts (fold L s)) = some (goalS k es ts s)
      unfold goalS
      rw [fold_fold s this.1 this.2]
theorem pathGo_fold {rows : List Row} {L s : Int} (h : ∀ h es ts, Row.look h es ts ∈ rows → 1 ≤ h ∧ h ∣ L) : ∀ (m : Nat) (p : List Int) (a : Int), pathGo rows (fold L s) m p a = pathGo rows s m p a
  | 0, p, a => rfl
  | m + 1, p, a => by
    show (match stepR rows (fold L s) a with
      | none => p
      | some nx => if nx ∈ p then p ++ [nx] else pathGo rows (fold L s) m (p ++ [nx]) nx) = (match stepR rows s a with
      | none => p
      | some nx => if nx ∈ p then p ++ [nx] else pathGo rows s m (p ++ [nx]) nx)
    rw [stepR_fold h]
    cases stepR rows s a with
    | none => rfl
    | some nx =>
      show (if nx ∈ p then _ else _) = (if nx ∈ p then _ else _)
      rw [pathGo_fold h m]
theorem pathF_fold {rows : List Row} {L s : Int} (h : ∀ h es ts, Row.look h es ts ∈ rows → 1 ≤ h ∧ h ∣ L) : pathF rows (fold L s) = pathF rows s := pathGo_fold h _ _ _
/-- a path is not empty, within the rows; each of its rows leads to the next, the last one leads back or tells -/
theorem pathGo_form {rows : List Row} {s : Int} (step : ∀ a b : Int, 0 ≤ a → a < rows.length → stepR rows s a = some b → 0 ≤ b ∧ b < rows.length) : ∀ (m : Nat) (p : List Int) (a : Int), p.getLast? = some a → (∀ x ∈ p, 0 ≤ x ∧ x < (rows.length : Int)) →
    (∃ (q : List Int) (z : Int), pathGo rows s m p a = q ++ [z] ∧ 0 ≤ z ∧ z < rows.length)
  | 0, p, a, hl, hr => by
    obtain ⟨q, e⟩ := List.getLast?_eq_some_iff.mp hl
    refine ⟨q, a, e, ?_⟩
    exact hr a (by rw [e]; simp)
  | m + 1, p, a, hl, hr => by
    obtain ⟨q, e⟩ := List.getLast?_eq_some_iff.mp hl
    have ha := hr a (by rw [e]; simp)
    show ∃ (q : List Int) (z : Int), (match stepR rows s a with
      | none => p
      | some nx => if nx ∈ p then p ++ [nx] else pathGo rows s m (p ++ [nx]) nx) = q ++ [z] ∧ _
    cases st : stepR rows s a with
    | none => exact ⟨q, a, e, ha⟩
    | some nx =>
      have hn := step a nx ha.1 ha.2 st
      show ∃ (q : List Int) (z : Int), (if nx ∈ p then p ++ [nx] else pathGo rows s m (p ++ [nx]) nx) = q ++ [z] ∧ _
      by_cases w : nx ∈ p
      · rw [if_pos w]
        exact ⟨p, nx, rfl, hn⟩
      · rw [if_neg w]
        refine pathGo_form step m (p ++ [nx]) nx (by simp) fun x hx => ?_
        rw [List.mem_append] at hx
        rcases hx with hx | hx
        · exact hr x hx
        · simp at hx
          rw [hx]
          exact hn
end Ff
namespace Ff
open PySem PySem.Spec PyProof.Rows L2
/-! ### numbers under keys, by their turns -/
section
variable {κ : Type} [DecidableEq κ]
def kvR (ks : List (κ × Addr)) : List (κ × V) := ks.map fun p => (p.1, V.ref p.2)
theorem valV_some {ks : List (κ × Addr)} {k : κ} {v : V} (h : valV (kvR ks) k = some v) : ∃ a, v = .ref a ∧ (k, a) ∈ ks := by
  unfold valV at h
  cases q : (kvR ks).find? fun kv => decide (kv.1 = k) with
  | none => rw [q] at h; cases h
  | some p =>
    rw [q] at h
    have h := Option.some.inj h
    have m := List.mem_of_find?_eq_some q
    have e0 := List.find?_some q
    have e : p.1 = k := by simpa using e0
    obtain ⟨x, hx, rfl⟩ := List.mem_map.mp m
    dsimp only at e h
    exact ⟨x.2, h.symm, by rw [← e]; exact hx⟩
theorem valV_none {ks : List (κ × Addr)} {k : κ} (h : valV (kvR ks) k = none) : ∀ a, (k, a) ∉ ks := by
  intro a m
  unfold valV at h
  cases q : (kvR ks).find? fun kv => decide (kv.1 = k) with
  | some p => rw [q] at h; cases h
  | none =>
    have := List.find?_eq_none.mp q (k, V.ref a) (List.mem_map.mpr ⟨(k, a), m, rfl⟩)
    simp at this
theorem putK_new {ks : List (κ × Addr)} {k : κ} {a : Addr} (h : ∀ a, (k, a) ∉ ks) : putK (kvR ks) k (.ref a) = kvR (ks ++ [(k, a)]) := by
  unfold putK
  rw [if_neg]
  · unfold kvR
    rw [List.map_append]
    rfl
  · rw [List.any_eq_true]
    rintro ⟨x, hx, e⟩
    obtain ⟨y, hy, rfl⟩ := List.mem_map.mp hx
    have e := of_decide_eq_true e
    exact h y.2 (by rw [← e]; exact hy)
structure Grp (f : Nat → κ) (i : Nat) (ks : List (κ × Addr)) : Prop where
  nd : (ks.map Prod.fst).Nodup
  na : (ks.map Prod.snd).Nodup
  all : ∀ r, r < i → ∃ a, (f r, a) ∈ ks
  som : ∀ k a, (k, a) ∈ ks → ∃ r, r < i ∧ f r = k
  ln : ks.length ≤ i
def grpL (f : Nat → κ) (i : Nat) (k : κ) : List Int := ((List.range i).filter fun r => decide (f r = k)).map fun (r : Nat) => (r : Int)
theorem grpL_succ {f : Nat → κ} {i : Nat} {k : κ} : grpL f (i + 1) k = if f i = k then grpL f i k ++ [(i : Int)] else grpL f i k := by
  unfold grpL
  rw [List.range_succ, List.filter_append, List.map_append, List.filter_cons]
  by_cases q : f i = k
  · simp [q]
  · simp [q]
theorem grpL_mem {f : Nat → κ} {i : Nat} {k : κ} {x : Int} : x ∈ grpL f i k ↔ ∃ r : Nat, x = r ∧ r < i ∧ f r = k := by
  unfold grpL
  simp only [List.mem_map, List.mem_filter, List.mem_range, decide_eq_true_eq]
  constructor
  · rintro ⟨r, ⟨h1, h2⟩, rfl⟩
    exact ⟨r, rfl, h1, h2⟩
  · rintro ⟨r, rfl, h1, h2⟩
    exact ⟨r, ⟨h1, h2⟩, rfl⟩
theorem grpL_inc {f : Nat → κ} {i : Nat} {k : κ} : (grpL f i k).Pairwise (· < ·) := by
  unfold grpL
  rw [List.pairwise_map]
  refine List.Pairwise.imp ?_ (List.Pairwise.filter _ List.pairwise_lt_range)
  intro a b h
  omega
theorem grpL_len {f : Nat → κ} {i : Nat} {k : κ} : (grpL f i k).length ≤ i := by
  unfold grpL
  rw [List.length_map]
  have := List.length_filter_le (fun r => decide (f r = k)) (List.range i)
  rw [List.length_range] at this
  exact this
theorem Grp.start {f : Nat → κ} : Grp f 0 ([] : List (κ × Addr)) := ⟨by simp, by simp, fun r h => by omega, fun k a h => by simp at h, by simp⟩
theorem Grp.old {f : Nat → κ} {i : Nat} {ks : List (κ × Addr)} (g : Grp f i ks) {a : Addr} (h : (f i, a) ∈ ks) : Grp f (i + 1) ks :=
  ⟨g.nd, g.na, fun r hr => if q : r < i then g.all r q else ⟨a, by rw [show r = i by omega]; exact h⟩, fun k b hb => by obtain ⟨r, h1, h2⟩ := g.som k b hb; exact ⟨r, by omega, h2⟩, by have := g.ln; omega⟩
theorem Grp.new {f : Nat → κ} {i : Nat} {ks : List (κ × Addr)} (g : Grp f i ks) {a : Addr} (h : ∀ b, (f i, b) ∉ ks) (ha : ∀ k, (k, a) ∉ ks) : Grp f (i + 1) (ks ++ [(f i, a)]) := by
  refine ⟨?_, ?_, fun r hr => ?_, fun k b hb => ?_, by have := g.ln; simp; omega⟩
  · rw [List.map_append, List.nodup_append]
    refine ⟨g.nd, by simp, fun x hx y hy => ?_⟩
    obtain ⟨p, hp, rfl⟩ := List.mem_map.mp hx
    simp at hy
    subst hy
    intro e
    exact h p.2 (by rw [← e]; exact hp)
  · rw [List.map_append, List.nodup_append]
    refine ⟨g.na, by simp, fun x hx y hy => ?_⟩
    obtain ⟨p, hp, rfl⟩ := List.mem_map.mp hx
    simp at hy
    subst hy
    intro e
    exact ha p.1 (by rw [← e]; exact hp)
  · by_cases q : r < i
    · obtain ⟨b, hb⟩ := g.all r q
      exact ⟨b, List.mem_append_left _ hb⟩
    · exact ⟨a, by rw [show r = i by omega]; simp⟩
  · rw [List.mem_append] at hb
    rcases hb with hb | hb
    · obtain ⟨r, h1, h2⟩ := g.som k b hb
      exact ⟨r, by omega, h2⟩
    · simp at hb
      exact ⟨i, by omega, hb.1.symm⟩
end
theorem nodup_snd {κ : Type} {ks : List (κ × Addr)} (h : (ks.map Prod.snd).Nodup) {k k' : κ} {a : Addr} (h1 : (k, a) ∈ ks) (h2 : (k', a) ∈ ks) : k = k' := by
  induction ks with
  | nil => simp at h1
  | cons p l ih =>
    rw [List.map_cons, List.nodup_cons] at h
    rw [List.mem_cons] at h1 h2
    rcases h1 with rfl | h1 <;> rcases h2 with h2 | h2
    · cases h2; rfl
    · exact absurd (List.mem_map.mpr ⟨_, h2, rfl⟩) h.1
    · subst h2; exact absurd (List.mem_map.mpr ⟨_, h1, rfl⟩) h.1
    · exact ih h.2 h1 h2
theorem nodup_fst {κ : Type} {ks : List (κ × Addr)} (h : (ks.map Prod.fst).Nodup) {k : κ} {a a' : Addr} (h1 : (k, a) ∈ ks) (h2 : (k, a') ∈ ks) : a = a' := by
  induction ks with
  | nil => simp at h1
  | cons p l ih =>
    rw [List.map_cons, List.nodup_cons] at h
    rw [List.mem_cons] at h1 h2
    rcases h1 with rfl | h1 <;> rcases h2 with h2 | h2
    · cases h2; rfl
    · exact absurd (List.mem_map.mpr ⟨_, h2, rfl⟩) h.1
    · subst h2; exact absurd (List.mem_map.mpr ⟨_, h1, rfl⟩) h.1
    · exact ih h.2 h1 h2
end Ff
namespace Ff
open PySem PySem.Spec PyProof.Rows L2
theorem nodup_sub {α : Type} [DecidableEq α] : ∀ (l m : List α), l.Nodup → (∀ x ∈ l, x ∈ m) → l.length ≤ m.length
  | [], m, _, _ => Nat.zero_le _
  | x :: l, m, hd, h => by
    rw [List.nodup_cons] at hd
    have hx := h x (by simp)
    have h1 := nodup_sub l (m.erase x) hd.2 fun y hy => by
      have hm := h y (by simp [hy])
      have ne : y ≠ x := fun e => hd.1 (e ▸ hy)
      exact (List.mem_erase_of_ne ne).mpr hm
    rw [List.length_erase_of_mem hx] at h1
    have := List.length_pos_of_mem hx
    rw [List.length_cons]
    omega
/-- the word at the end of a path -/
def wordAt (rows : List Row) (path : List Int) : Option PySem.Str := match rows[(path.getLast?.getD 0).toNat]? with
  | some (.tell w) => some w
  | _ => none
def outW (rows : List Row) (s : Int) : Option PySem.Str := wordAt rows (pathF rows s)
def wordsOf (rows : List Row) : List (Option PySem.Str) := none :: rows.filterMap fun r => match r with
  | .tell w => some (some w)
  | _ => none
theorem wordsOf_len (rows : List Row) : (wordsOf rows).length ≤ rows.length + 1 := by
  unfold wordsOf
  rw [List.length_cons]
  have := List.length_filterMap_le (fun r : Row => match r with | .tell w => some (some w) | _ => none) rows
  omega
theorem wordAt_mem (rows : List Row) (p : List Int) : wordAt rows p ∈ wordsOf rows := by
  unfold wordAt wordsOf
  cases q : rows[(p.getLast?.getD 0).toNat]? with
  | none => simp
  | some r =>
    cases r with
    | look h es ts => simp
    | tell w =>
      rw [List.mem_cons]
      right
      exact List.mem_filterMap.mpr ⟨.tell w, List.mem_of_getElem? q, rfl⟩
/-! ### what is told, as the groups are put together -/
structure Tol (N : Nat) (F : Nat → Option PySem.Str) (Dn : Nat → Prop) (tk : List (Option PySem.Str × Addr)) : Prop where
  nd : (tk.map Prod.fst).Nodup
  na : (tk.map Prod.snd).Nodup
  all : ∀ r, Dn r → ∃ a, (F r, a) ∈ tk
  som : ∀ k a, (k, a) ∈ tk → ∃ r, Dn r ∧ F r = k
  lt : ∀ r, Dn r → r < N
def TolL (F : Nat → Option PySem.Str) (Dn : Nat → Prop) (k : Option PySem.Str) (xs : List Int) : Prop := xs.Nodup ∧ ∀ y, y ∈ xs ↔ ∃ r : Nat, y = r ∧ Dn r ∧ F r = k
theorem TolL.len {N : Nat} {F : Nat → Option PySem.Str} {Dn : Nat → Prop} {k : Option PySem.Str} {xs : List Int} (h : TolL F Dn k xs) (lt : ∀ r, Dn r → r < N) : xs.length ≤ N := nodup_le N xs h.1 fun x hx => by
  obtain ⟨r, rfl, hr, _⟩ := (h.2 x).mp hx
  have := lt r hr
  omega
theorem paired_split {α β : Type} {F : α → β → Prop} : ∀ {a b : List α} {ys : List β}, Paired F (a ++ b) ys → ∃ ys1 ys2, ys = ys1 ++ ys2 ∧ Paired F a ys1 ∧ Paired F b ys2
  | [], b, ys, h => ⟨[], ys, rfl, .nil, h⟩
  | x :: a, b, _, .cons r t => by
    obtain ⟨y1, y2, e, h1, h2⟩ := paired_split t
    exact ⟨_ :: y1, y2, by rw [e]; rfl, .cons r h1, h2⟩
theorem got_filterMap {α β : Type} {l : List α} {g : α → Option β} {h : β → V} : ∀ (n : Nat) (ys : List V), n ≤ l.length → Paired (fun i y => ∃ x b, l[i]? = some x ∧ g x = some b ∧ y = h b) ((List.range n).filter fun i => ((l[i]?).bind g).isSome) ys → ys = ((l.take n).filterMap g).map h
  | 0, ys, _, p => by cases p; rfl
  | n + 1, ys, hn, p => by
    rw [List.range_succ, List.filter_append] at p
    obtain ⟨y1, y2, rfl, p1, p2⟩ := paired_split p
    have ih := got_filterMap n y1 (by omega) p1
    have hx : l[n]? = some l[n] := List.getElem?_eq_getElem (by omega)
    rw [take_more hx, List.filterMap_append, List.map_append, ← ih]
    congr 1
    cases q : g l[n] with
    | none =>
      have : ([n].filter fun i => ((l[i]?).bind g).isSome) = [] := by simp [hx, q]
      rw [this] at p2
      cases p2
      simp [q]
    | some b =>
      have : ([n].filter fun i => ((l[i]?).bind g).isSome) = [n] := by simp [hx, q]
      rw [this] at p2
      cases p2 with
      | cons r t =>
        cases t
        obtain ⟨x, b', e1, e2, rfl⟩ := r
        rw [hx] at e1
        cases e1
        rw [q] at e2
        cases e2
        simp [q]
end Ff
namespace Ff
open PySem PySem.Spec PyProof.Rows L2
/-! ### cells -/
def cst (s : List (Int × Int) × Int) (e : Int) : List (Int × Int) × Int := (s.1 ++ [(s.2, 2 * e - 1), (2 * e, 2 * e)], 2 * e + 1)
def cellsF (h : Int) (es : List Int) : List (Int × Int) := (es.foldl cst ([], 0)).1 ++ [((es.foldl cst ([], 0)).2, 2 * h)]
structure CellSt (es : List Int) (acc : List (Int × Int)) (f : Int) : Prop where
  ln : acc.length = 2 * es.length
  f0 : 0 ≤ f
  fe : f = 0 ∨ ∃ e ∈ es, f = 2 * e + 1
  top : ∀ s, 0 ≤ s → (f ≤ s ↔ cellS es s = 2 * es.length)
  at_ : ∀ (j : Nat) a b, acc[j]? = some (a, b) → ∀ s, 0 ≤ s → (a ≤ s ∧ s ≤ b ↔ cellS es s = j)
theorem cellS_snoc (es : List Int) (e s : Int) : cellS (es ++ [e]) s = cellS es s + ((if 2 * e ≤ s then 1 else 0) + (if 2 * e < s then 1 else 0)) := by
  unfold cellS
  rw [List.map_append, List.sum_append]
  simp
theorem cellSt_step {es : List Int} {acc : List (Int × Int)} {f e : Int} (c : CellSt es acc f) (he : ∀ x ∈ es, x < e) (e0 : 0 ≤ e) : CellSt (es ++ [e]) (acc ++ [(f, 2 * e - 1), (2 * e, 2 * e)]) (2 * e + 1) := by
  have fl : f ≤ 2 * e := by
    rcases c.fe with h | ⟨x, hx, h⟩
    · omega
    · have := he x hx
      omega
  have ln := c.ln
  have sn := cellS_snoc es e
  refine ⟨by simp; omega, by omega, .inr ⟨e, by simp, rfl⟩, fun s s0 => ?_, fun j a b hj s s0 => ?_⟩
  · have r := cellS_rng es s
    have t := c.top s s0
    rw [sn s, List.length_append, List.length_singleton]
    constructor
    · intro h
      have := t.mp (by omega)
      rw [if_pos (by omega), if_pos (by omega)]
      omega
    · intro h
      split at h <;> split at h <;> omega
  · have r := cellS_rng es s
    have t := c.top s s0
    rw [sn s]
    by_cases q : j < acc.length
    · rw [List.getElem?_append_left q] at hj
      have k := c.at_ j a b hj s s0
      rw [k]
      constructor
      · intro h
        have nf : ¬ f ≤ s := fun z => by have := t.mp z; omega
        rw [if_neg (by omega), if_neg (by omega)]
        omega
      · intro h
        split at h <;> split at h
        · have := t.mp (by omega); omega
        · have := t.mp (by omega); omega
        · omega
        · omega
    · rw [List.getElem?_append_right (by omega)] at hj
      obtain ⟨i, hi⟩ : ∃ i, j - acc.length = i := ⟨_, rfl⟩
      rw [hi] at hj
      match i, hj with
      | 0, hj =>
        simp at hj
        obtain ⟨rfl, rfl⟩ := hj
        constructor
        · rintro ⟨h1, h2⟩
          have := t.mp h1
          rw [if_neg (by omega), if_neg (by omega)]
          omega
        · intro h
          split at h <;> split at h
          · omega
          · omega
          · omega
          · have := t.mpr (by omega); omega
      | 1, hj =>
        simp at hj
        obtain ⟨rfl, rfl⟩ := hj
        constructor
        · rintro ⟨h1, h2⟩
          have := t.mp (by omega)
          rw [if_pos (by omega), if_neg (by omega)]
          omega
        · intro h
          split at h <;> split at h <;> omega
theorem cellSt_of : ∀ (es : List Int), es.Pairwise (· < ·) → (∀ e ∈ es, 0 ≤ e) → ∀ (pre : List Int) (acc : List (Int × Int)) (f : Int), CellSt pre acc f → (∀ x ∈ pre, ∀ y ∈ es, x < y) → CellSt (pre ++ es) (es.foldl cst (acc, f)).1 (es.foldl cst (acc, f)).2
  | [], _, _, pre, acc, f, c, _ => by simpa using c
  | e :: es, hp, h0, pre, acc, f, c, hx => by
    rw [List.pairwise_cons] at hp
    have c2 := cellSt_step c (fun x h => hx x h e (by simp)) (h0 e (by simp))
    have := cellSt_of es hp.2 (fun y hy => h0 y (by simp [hy])) (pre ++ [e]) _ _ c2 fun x h y hy => by
      rw [List.mem_append] at h
      rcases h with h | h
      · exact hx x h y (by simp [hy])
      · simp at h
        subst h
        exact hp.1 y hy
    rw [List.append_assoc] at this
    exact this
theorem cellsF_len {h : Int} {es : List Int} (hp : es.Pairwise (· < ·)) (h0 : ∀ e ∈ es, 0 ≤ e ∧ e ≤ h) : (cellsF h es).length = 2 * es.length + 1 := by
  have c := cellSt_of es hp (fun e he => (h0 e he).1) [] [] 0 ⟨rfl, by omega, .inl rfl, fun s s0 => ⟨fun _ => rfl, fun _ => s0⟩, fun j a b hj => by simp at hj⟩ (fun x hx => by simp at hx)
  unfold cellsF
  rw [List.length_append, c.ln]
  rfl
theorem cellsF_at {h : Int} {es : List Int} (hp : es.Pairwise (· < ·)) (h0 : ∀ e ∈ es, 0 ≤ e ∧ e ≤ h) {j : Nat} {a b : Int} (hj : (cellsF h es)[j]? = some (a, b)) {s : Int} (s0 : 0 ≤ s) (s1 : s ≤ 2 * h) : a ≤ s ∧ s ≤ b ↔ cellS es s = j := by
  have c := cellSt_of es hp (fun e he => (h0 e he).1) [] [] 0 ⟨rfl, by omega, .inl rfl, fun s s0 => ⟨fun _ => rfl, fun _ => s0⟩, fun j a b hj => by simp at hj⟩ (fun x hx => by simp at hx)
  rw [List.nil_append] at c
  unfold cellsF at hj
  by_cases q : j < (es.foldl cst ([], 0)).1.length
  · rw [List.getElem?_append_left q] at hj
    exact c.at_ j a b hj s s0
  · rw [List.getElem?_append_right (by omega)] at hj
    have r := cellS_rng es s
    obtain ⟨i, hi⟩ : ∃ i, j - (es.foldl cst ([], 0)).1.length = i := ⟨_, rfl⟩
    rw [hi] at hj
    have ln := c.ln
    match i, hj with
    | 0, hj =>
      simp at hj
      obtain ⟨rfl, rfl⟩ := hj
      have t := c.top s s0
      constructor
      · rintro ⟨h1, _⟩
        have := t.mp h1
        omega
      · intro h
        exact ⟨t.mpr (by omega), s1⟩
/-- where a row can lead at a spot, its reading off by 2d half units -/
def Tg (r : Row) (s d t : Int) : Prop := match r with
  | .tell _ => False
  | .look h es ts => ∃ x, 0 ≤ x ∧ x ≤ 2 * h ∧ fold h s - 2 * d ≤ x ∧ x ≤ fold h s + 2 * d ∧ ts[(cellS es x).toNat]? = some t
def TOk (rows : List Row) (s d : Int) (T : List (List Int)) : Prop := T.length = rows.length ∧ (∀ (i : Nat) l r, T[i]? = some l → rows[i]? = some r → ∀ t, t ∈ l ↔ Tg r s d t) ∧ ∀ l ∈ T, l.length ≤ 100
inductive Reach (T : List (List Int)) : Int → Prop
  | zero : Reach T 0
  | step {a t : Int} {l : List Int} : Reach T a → 0 ≤ a → T[a.toNat]? = some l → t ∈ l → Reach T t
end Ff
end
section
set_option maxRecDepth 100000
set_option maxHeartbeats 4000000
/-! Numbers. -/
namespace Ff
open PySem PySem.Spec PyProof.Rows L2
local macro_rules | `(tactic| walk_at "ex") => `(tactic| first
  | exact Ex.refl _
  | with_reducible assumption
  | (refine Ex.new ?_ (by with_reducible assumption); walk_at "ex")
  | (refine Ex.mut ?_ (by walk_at "hn"); walk_at "ex")
  | (refine Ex.trans ?_ (by with_reducible assumption); walk_at "ex"))
local macro_rules | `(tactic| walk_at "hn") => `(tactic| first
  | with_reducible assumption
  | exact Ex.back (by with_reducible assumption) (by with_reducible assumption)
  | exact upd_none (by with_reducible assumption)
  | exact upd_none (upd_none (by with_reducible assumption))
  | exact Ex.back (by with_reducible assumption) (upd_none (by with_reducible assumption))
  | exact Ex.back (by with_reducible assumption) (Ex.back (by with_reducible assumption) (by with_reducible assumption)))
local macro_rules | `(tactic| walk_at "hp") => `(tactic| first
  | with_reducible assumption
  | with_reducible exact upd_same
  | (refine Ex.at (by with_reducible assumption) ?_; walk_at "ex")
  | (refine upd_old ?_ (by with_reducible assumption); walk_at "hp")
  | (refine upd_off ?_ (by with_reducible assumption); walk_at "hp"))
local macro_rules | `(tactic| walk_at "sd") => `(tactic| ((try dsimp only [CMul, CDiv, CPow]); first | exact True.intro | omega | (with_reducible assumption)))
local macro_rules | `(tactic| walk_at "sz") => `(tactic| exact Nat.le_of_ble_eq_true rfl)
local macro_rules | `(tactic| walk_at "is") => `(tactic| first
  | refine ⟨_, _, _, _, _, rfl, .ty _, .base (.int _), kt_int, ?_⟩
  | refine ⟨_, _, _, _, _, rfl, .ty _, .base (.int _), kt_intb, ?_⟩
  | refine ⟨_, _, _, _, _, rfl, .ty _, .base (.bl _), kt_bool, ?_⟩
  | refine ⟨_, _, _, _, _, rfl, .ty _, .base (.str _), kt_str, ?_⟩
  | refine ⟨_, _, _, _, _, rfl, .ty _, .base (.tup (by walk_at "hp")), kt_tup, ?_⟩
  | refine ⟨_, _, _, _, _, rfl, .ty _, .base (.dK (by walk_at "hp")), kt_dict, ?_⟩)
local macro_rules | `(tactic| walk_at "rd1") => `(tactic| first
  | refine ⟨_, rfl, ?_⟩
  | refine ⟨_, _, rfl, rfl, And.intro (by walk_at "sd") ?_⟩
  | refine ⟨_, _, rfl, rfl, ?_⟩
  | refine ⟨rfl, ?_⟩
  | refine ⟨_, _, _, _, rfl, rfl, sqT (by walk_at "hp"), rfl, ?_⟩
  | refine ⟨_, _, _, _, rfl, rfl, sqL (by walk_at "hp"), rfl, ?_⟩
  | refine ⟨_, _, rfl, sqT (by walk_at "hp"), rfl, ?_⟩
  | refine ⟨_, _, _, _, _, rfl, by walk_at "hp", by assumption, by assumption, rfl, ?_⟩
  | refine ⟨.inl ⟨rfl, _, sqL (by walk_at "hp")⟩, ?_⟩
  | refine ⟨_, _, rfl, .inl (sqL (by walk_at "hp")), ?_⟩
  | refine ⟨_, _, rfl, .inr (sqT (by walk_at "hp")), ?_⟩
  | refine ⟨(_, _), rfl, ?_⟩
  | refine ⟨(_, _, _), rfl, ?_⟩
  | refine ⟨(_, _, _, _), rfl, ?_⟩
  | refine ⟨_, _, rfl, ?_⟩
  | refine ⟨_, _, _, rfl, ?_⟩
  | walk_at "is")
local macro_rules | `(tactic| walk_at "rd") => `(tactic| repeat walk_at "rd1")

local macro_rules | `(tactic| walk_at "ib") => `(tactic| refine .inr ⟨_, rfl, ?_⟩)
local macro_rules | `(tactic| walk_at "ii") => `(tactic| refine .inl ⟨_, rfl, ?_⟩)
/-! ### plain facts -/
theorem gcd_step {a b : Int} (hb : 0 < b) : Int.gcd b (a % b) = Int.gcd a b := by
  have h := Int.gcd_add_mul_right_right b (a % b) (a / b)
  rw [show a % b + a / b * b = a from by rw [Int.mul_comm]; exact Int.emod_add_mul_ediv a b] at h
  rw [← h, Int.gcd_comm]
theorem gcd_zero {a : Int} (h : 0 ≤ a) : (Int.gcd a 0 : Int) = a := by
  rw [Int.gcd_zero_right]
  omega
def redT (t b : Int) : Int := t / (Int.gcd t b : Int)
def redB (t b : Int) : Int := b / (Int.gcd t b : Int)
section
variable {P : Program} {w : World} {K : PySem.W.Frag} {mg : PySem.Str → Option Value} {base : Heap} {Z : Adr}
def sp_is_integer : Sp := mkSp (fun i : Int => [.int i]) (fun _ _ => True) (fun _ H v H' => v = .bl true ∧ H' = H)
abbrev s_is_integer : Stmt := top 16
theorem sc_is_integer : FnScope ["thing"] ["thing"] (C8.fnScope s_is_integer) := C8.fnScope_by (by decide +kernel)
theorem c_is_integer (T : Txt P w K mg base Z) : C8.Cal P w K mg base 1 "is_integer" sp_is_integer [] :=
  calD (k := 0) T.d_is_integer sc_is_integer (fun _ _ _ _ _ _ us h => by obtain ⟨_, rfl⟩ := us1 (by exact h); rfl) (fun _ => rfl) (fun cdv f A outer s H0 H Q E a hr pre hq => by
    have S := sc_is_integer
    refine ⟨_, (pss_one (ps_ret (pe_and (pe_callB (isI (K := K) rfl) (by rfl) T.n_isinstance (by decide +kernel) (pa_cons (pv 0) (pa_cons (pe_bltn (by rfl) T.n_int (by decide +kernel) (v := .ty "int") (u := .type "int") rfl) pa_nil))) (pe_one (pe_not (pe_callB (isI (K := K) rfl) (by rfl) T.n_isinstance (by decide +kernel) (pa_cons (pv 0) (pa_cons (pe_bltn (by rfl) T.n_bool (by decide +kernel) (v := .ty "bool") (u := .type "bool") rfl) pa_nil)))))))), ?_⟩
    walk_at "rd"
    exact hq _ _ ⟨rfl, rfl⟩)
def sp_is_between : Sp := mkSp (fun ((a, b, c) : Int × Int × Int) => [.int a, .int b, .int c]) (fun _ _ => True) (fun (a, b, c) H v H' => v = .bl (decide (b ≤ a ∧ a ≤ c)) ∧ H' = H)
abbrev s_is_between : Stmt := top 17
theorem sc_is_between : FnScope ["thing", "low", "high"] ["thing", "low", "high"] (C8.fnScope s_is_between) := C8.fnScope_by (by decide +kernel)
theorem c_is_between (T : Txt P w K mg base Z) : C8.Cal P w K mg base 2 "is_between" sp_is_between [] :=
  calD (k := 1) T.d_is_between sc_is_between (fun _ _ _ _ _ _ us h => by obtain ⟨_, _, _, rfl⟩ := us3 (by exact h); rfl) (fun _ => rfl) (fun cdv f A outer s H0 H Q E a hr pre hq => by
    have S := sc_is_between
    obtain ⟨a, b, c⟩ := a
    refine ⟨_, (pss_one (ps_ret (pe_and (C8.pe_c (c_is_integer T) hr (by decide) rfl (pa_cons (pv 0) pa_nil)) (pe_one (pe_chain op_le op_le (pv 1) (pv 0) (pv 2)))))), ?_⟩
    walk_at "rd"
    refine ⟨trivial, ?_⟩
    rintro v H' ⟨rfl, rfl⟩
    walk_at "rd"
    refine iteD (fun h => ?_) (fun h => ?_)
    · walk_at "rd"
      refine hq _ _ ⟨?_, rfl⟩
      simp [h]
    · refine hq _ _ ⟨?_, rfl⟩
      simp [h])
def sp_divisor : Sp := mkSp (fun ((a, b) : Int × Int) => [.int a, .int b]) (fun (a, b) _ => 0 ≤ a ∧ 0 ≤ b) (fun (a, b) H v H' => v = .int (Int.gcd a b) ∧ H' = H)
abbrev s_divisor : Stmt := top 18
theorem sc_divisor : FnScope ["one", "other"] ["one", "other"] (C8.fnScope s_divisor) := C8.fnScope_by (by decide +kernel)
theorem c_divisor (T : Txt P w K mg base Z) : C8.Cal P w K mg base 1 "divisor" sp_divisor [] :=
  calD (k := 0) T.d_divisor sc_divisor (fun _ _ _ _ _ _ us h => by obtain ⟨_, _, rfl⟩ := us2 (by exact h); rfl) (fun _ => rfl) (fun cdv f A outer s H0 H Q E a hr pre hq => by
    have S := sc_divisor
    obtain ⟨a, b⟩ := a
    obtain ⟨ha, hb⟩ := pre
    refine ⟨_, (pss_cons (ps_while PassesOwn.never (pt_cmpR op_gt (pv 1) pe_int (nomark _)) (pss_one (ps_par (i := 0) (j := 1) rfl S.nd rfl rfl (by decide) rfl rfl (pa_cons (pv 1) (pa_cons (pe_op op_mod (pv 0) (pv 1)) pa_nil)) (by rfl))))
  (pss_one (ps_ret (pv 0)))), ?_⟩
    refine ⟨fun m σ H' => ∃ x y : Int, σ = [some (.int x), some (.int y)] ∧ H' = H ∧ 0 ≤ x ∧ 0 ≤ y ∧ m = y.toNat ∧ Int.gcd x y = Int.gcd a b, ⟨_, a, b, rfl, rfl, ha, hb, rfl, rfl⟩, ?_⟩
    rintro m σ H' ⟨x, y, rfl, rfl, hx, hy, rfl, hg⟩
    walk_at "rd"
    refine iteD (fun h => ?_) (fun h => ?_)
    · have h1 := Int.emod_nonneg x (Int.ne_of_gt h)
      have h2 := Int.emod_lt_of_pos x h
      refine ⟨fun σ H1 => Hold (σ = [some (.int y), some (.int (x % y))] ∧ H1 = H'), ?_, ?_⟩
      · rintro σ' H1 hP
        obtain ⟨rfl, rfl⟩ := hP.out
        exact ⟨_, by show (x % y).toNat < y.toNat; omega, y, x % y, rfl, rfl, hy, h1, rfl, (gcd_step h).trans hg⟩
      · walk_at "rd"
        exact .of ⟨rfl, rfl⟩
    · walk_at "rd"
      have : y = 0 := by omega
      subst this
      refine hq _ _ ⟨?_, rfl⟩
      rw [← hg, gcd_zero hx])
def sp_multiple : Sp := mkSp (fun ((p, _) : Addr × List Int) => [.ref p]) (fun (p, ns) H => SeqOf (ns.map .int) H p ∧ ∀ n ∈ ns, 1 ≤ n ∧ n ≤ 10000) (fun (_, ns) H v H' => v = .int (lcmL ns) ∧ H' = H)
theorem lcm2_pos {a b : Int} (ha : 1 ≤ a) (hb : 1 ≤ b) : 1 ≤ lcm2 a b := by
  have g0 : (0 : Int) < (Int.gcd a b : Int) := by
    have := Int.gcd_pos_of_ne_zero_left b (show a ≠ 0 by omega)
    omega
  have d := Int.gcd_dvd_left a b
  have h1 : 0 < a / (Int.gcd a b : Int) := by
    obtain ⟨c, hc⟩ := d
    have : a / (Int.gcd a b : Int) = c := by
      generalize (Int.gcd a b : Int) = g at hc g0
      rw [hc, Int.mul_ediv_cancel_left _ (by omega)]
    rw [this]
    rcases Int.lt_or_le 0 c with h | h
    · exact h
    · have := Int.mul_nonpos_of_nonneg_of_nonpos (Int.le_of_lt g0) h
      omega
  have := Int.mul_pos h1 (show (0 : Int) < b by omega)
  unfold lcm2
  omega
theorem lcmL_pos : ∀ {l : List Int} {a : Int}, 1 ≤ a → (∀ n ∈ l, 1 ≤ n ∧ n ≤ 10000) → 1 ≤ l.foldl lcm2 a
  | [], a, h, _ => h
  | b :: l, a, h, hl => lcmL_pos (l := l) (lcm2_pos h (hl b (by simp)).1) fun n hn => hl n (by simp [hn])
theorem gcd_le_right {a b : Int} (hb : 1 ≤ b) : 0 < (Int.gcd a b : Int) ∧ (Int.gcd a b : Int) ≤ b := by
  have g0 := Int.gcd_pos_of_ne_zero_right a (show b ≠ 0 by omega)
  exact ⟨by omega, Int.le_of_dvd (by omega) (Int.gcd_dvd_right a b)⟩
abbrev s_multiple : Stmt := top 19
theorem sc_multiple : FnScope ["numbers", "found", "number"] ["numbers"] (C8.fnScope s_multiple) := C8.fnScope_by (by decide +kernel)
theorem multiple_turn {ns : List Int} (hn : ∀ n ∈ ns, 1 ≤ n ∧ n ≤ 10000) {i : Nat} {n : Int} (h : ns[i]? = some n) : 1 ≤ lcmL (ns.take i) ∧ 1 ≤ n ∧ n ≤ 10000 ∧ lcmL (ns.take (i + 1)) = lcm2 (lcmL (ns.take i)) n := by
  have m := hn n (List.mem_of_getElem? h)
  refine ⟨lcmL_pos (by omega) fun k hk => hn k (List.mem_of_mem_take hk), m.1, m.2, ?_⟩
  rw [take_more h]
  unfold lcmL
  rw [List.foldl_append]
  rfl
theorem c_multiple (T : Txt P w K mg base Z) : C8.Cal P w K mg base 2 "multiple" sp_multiple [] :=
  calD (k := 1) T.d_multiple sc_multiple (fun _ _ _ _ _ _ us h => by obtain ⟨_, rfl⟩ := us1 (by exact h); rfl) (fun _ => rfl) (fun cdv f A outer s H0 H Q E a hr pre hq => by
    have S := sc_multiple
    obtain ⟨p, ns⟩ := a
    obtain ⟨hp, hn⟩ := pre
    refine ⟨_, (pss_cons (ps_set (i := 1) S.nd rfl (Or.inl rfl) pe_int)
  (pss_cons (ps_for PassesOwn.never rfl (pi_or (piL (K := K) rfl (pv 0)) (piT (K := K) rfl (pv 0))) (pg_name (i := 2) S.nd rfl (Or.inl rfl)) (pss_one (ps_set (i := 1) S.nd rfl (Or.inl rfl) (pe_op op_mul (pe_op op_fdiv (pv 1) (C8.pe_c (c_divisor T) hr (by decide) rfl (pa_cons (pv 1) (pa_cons (pv 2) pa_nil)))) (pv 2)))))
  (pss_one (ps_ret (pv 1))))), ?_⟩
    walk_at "rd"
    refine iseq rfl hp fun J G w hG => ?_
    refine for_it w (fun i σ H' => Hold (H' = H ∧ ∃ o, σ = [some (.ref p), some (.int (lcmL (ns.take i))), o])) (.of ⟨rfl, _, rfl⟩) (fun i σ H' _ h => hG _ (by rw [h.out.1]; exact Ex.refl _)) ?_ ?_
    · rintro i x σ H1 H2 hi hP ⟨rfl, hx⟩
      obtain ⟨rfl, o, rfl⟩ := hP.out
      obtain ⟨n, hx', rfl⟩ := map_get hx
      obtain ⟨h1, h2, h3, h4⟩ := multiple_turn hn hx'
      have g := gcd_le_right (a := lcmL (ns.take i)) h2
      walk_at "rd"
      refine ⟨⟨by omega, by omega⟩, ?_⟩
      rintro v H' ⟨rfl, rfl⟩
      dsimp only
      walk_at "rd"
      exact .of ⟨rfl, some (.int n), by rw [h4]; rfl⟩
    · rintro σ H' hP
      obtain ⟨rfl, o, rfl⟩ := hP.out
      walk_at "rd"
      refine hq _ _ ⟨?_, rfl⟩
      rw [List.length_map, List.take_length])
theorem red_dvd {t b : Int} (hb : 1 ≤ b) : ∃ g : Int, 0 < g ∧ t = g * redT t b ∧ b = g * redB t b ∧ 1 ≤ redB t b ∧ (Int.gcd t b : Int) = g := by
  have g := gcd_le_right (a := t) hb
  have d1 := Int.gcd_dvd_left t b
  have d2 := Int.gcd_dvd_right t b
  refine ⟨(Int.gcd t b : Int), g.1, (Int.mul_ediv_cancel' d1).symm, (Int.mul_ediv_cancel' d2).symm, ?_, rfl⟩
  have h := (Int.mul_ediv_cancel' d2)
  rcases Int.lt_or_le 0 (redB t b) with q | q
  · omega
  · have := Int.mul_nonpos_of_nonneg_of_nonpos (Int.le_of_lt g.1) q
    have h' : (Int.gcd t b : Int) * redB t b = b := h
    omega
def sp_is_speed : Sp := mkSp (fun ((p, _) : Addr × Int × Int) => [.ref p]) (fun (p, t, b) H => H p = some (.tup [.int t, .int b]) ∧ 0 ≤ t ∧ 1 ≤ b ∧ Int.gcd t b = 1) (fun _ H v H' => v = .bl true ∧ Ex H H')
abbrev s_is_speed : Stmt := top 20
theorem sc_is_speed : FnScope ["thing", "part"] ["thing"] (C8.fnScope s_is_speed) := C8.fnScope_by (by decide +kernel)
theorem c_is_speed (T : Txt P w K mg base Z) : C8.Cal P w K mg base 2 "is_speed" sp_is_speed [] :=
  calD (k := 1) T.d_is_speed sc_is_speed (fun _ _ _ _ _ _ us h => by obtain ⟨_, rfl⟩ := us1 (by exact h); rfl) (fun _ => rfl) (fun cdv f A outer s H0 H Q E a hr pre hq => by
    have S := sc_is_speed
    obtain ⟨p, t, b⟩ := a
    obtain ⟨hp, ht, hb, hg⟩ := pre
    refine ⟨_, (pss_cons (ps_if (PW.pt (pw_or (pt_not (pt_val (pe_callB (isI (K := K) rfl) (by rfl) T.n_isinstance (by decide +kernel) (pa_cons (pv 0) (pa_cons (pe_bltn (by rfl) T.n_tuple (by decide +kernel) (v := .ty "tuple") (u := .type "tuple") rfl) pa_nil))))) (pw_or (pt_cmpR op_ne (pe_callB (lenS (K := K) rfl) (by rfl) T.n_len (by decide +kernel) (pa_cons (pv 0) pa_nil)) pe_int (nomark _)) (pw_or1 (pt_not (pt_val (pe_callB (crAll (K := K) rfl rfl) (by rfl) T.n_all (by decide +kernel) (pa_cons (pe_lc (own := [("part", 1)]) rfl S.nd (piT (K := K) rfl (pv 0)) (blkOk_by (by kernel_rfl)) (fun _ _ _ _ _ => (pg_name (i := 1) S.nd rfl (by first | exact Or.inl rfl | exact Or.inr rfl))) (fun _ _ _ _ _ => pts_nil) (fun _ _ _ _ _ => (C8.pe_c (c_is_integer T) hr (by decide) rfl (pa_cons (pv 1) pa_nil)))) pa_nil)))))))) (pss_one (ps_ret pe_bl)) pss_nil)
  (pss_one (ps_ret (pe_and (pe_cmpR op_ge (pe_ix (ixT (K := K) rfl) (pv 0) pe_int (fun _ _ => rfl)) pe_int (nomark _)) (pe_and (pe_cmpR op_ge (pe_ix (ixT (K := K) rfl) (pv 0) pe_int (fun _ _ => rfl)) pe_int (nomark _)) (pe_one (pe_cmpR op_eq (C8.pe_c (c_divisor T) hr (by decide) rfl (pa_cons (pe_ix (ixT (K := K) rfl) (pv 0) pe_int (fun _ _ => rfl)) (pa_cons (pe_ix (ixT (K := K) rfl) (pv 0) pe_int (fun _ _ => rfl)) pa_nil))) pe_int (nomark _)))))))), ?_⟩
    walk_at "rd"
    refine ⟨⟨_, sqT hp⟩, fun D nD => ?_⟩
    refine lcE walk_tup nD (by walk_at "sz") (fun _ => true) (fun i y _ => y = .bl true) (fun _ r => r) (fun _ r => r) (fun H e => sqT (e _ _ hp)) ?_ ?_
    · rintro i x H1 H2 hi e ⟨rfl, hx⟩ S Z hS hZ
      have hx2 : ∃ n : Int, x = .int n := by
        match i, hx with
        | 0, hx => exact ⟨_, (Option.some.inj hx).symm⟩
        | 1, hx => exact ⟨_, (Option.some.inj hx).symm⟩
      obtain ⟨n, rfl⟩ := hx2
      refine ⟨rfl, ?_⟩
      walk_at "rd"
      refine ⟨trivial, ?_⟩
      rintro v H' ⟨rfl, rfl⟩
      exact hS _ _ (Ex.refl _) rfl rfl
    · intro H1 ys e hD got
      have hy := got_fn (v := fun _ => .bl true) got
      subst hy
      walk_at "rd"
      refine ⟨_, [true, true], rfl, sqL hD, ?_⟩
      walk_at "rd"
      rw [decide_eq_true ht]
      walk_at "rd"
      rw [decide_eq_true hb]
      walk_at "rd"
      refine ⟨⟨ht, by omega⟩, ?_⟩
      rintro v H' ⟨rfl, rfl⟩
      walk_at "rd"
      refine hq _ _ ⟨?_, e⟩
      rw [hg]
      rfl)
def sp_lowest : Sp := mkSp (fun ((t, b) : Int × Int) => [.int t, .int b]) (fun (t, b) _ => 0 ≤ t ∧ 1 ≤ b ∧ b < 2 ^ 29) (fun (t, b) H v H' => NewT [.int (redT t b), .int (redB t b)] H v H')
abbrev s_lowest : Stmt := top 22
theorem sc_lowest : FnScope ["top", "bottom", "shared"] ["top", "bottom"] (C8.fnScope s_lowest) := C8.fnScope_by (by decide +kernel)
theorem c_lowest (T : Txt P w K mg base Z) : C8.Cal P w K mg base 2 "lowest" sp_lowest [] :=
  calD (k := 1) T.d_lowest sc_lowest (fun _ _ _ _ _ _ us h => by obtain ⟨_, _, rfl⟩ := us2 (by exact h); rfl) (fun _ => rfl) (fun cdv f A outer s H0 H Q E a hr pre hq => by
    have S := sc_lowest
    obtain ⟨t, b⟩ := a
    obtain ⟨ht, hb, hg⟩ := pre
    have g := gcd_le_right (a := t) hb
    refine ⟨_, (pss_cons (ps_set (i := 2) S.nd rfl (Or.inl rfl) (C8.pe_c (c_divisor T) hr (by decide) rfl (pa_cons (pv 0) (pa_cons (pv 1) pa_nil))))
  (pss_one (ps_ret (pe_tup (pa_cons (pe_op op_fdiv (pv 0) (pv 2)) (pa_cons (pe_op op_fdiv (pv 1) (pv 2)) pa_nil)))))), ?_⟩
    walk_at "rd"
    refine ⟨⟨ht, by omega⟩, ?_⟩
    rintro v H' ⟨rfl, rfl⟩
    dsimp only
    walk_at "rd"
    refine ⟨by walk_at "sz", fun q nq => ?_⟩
    exact hq _ _ ⟨q, rfl, nq, by walk_at "ex", upd_same⟩)
def sp_is_half : Sp := mkSp (fun x : Int => [.int x]) (fun _ _ => True) (fun x H v H' => v = .bl (decide (1 ≤ x ∧ x ≤ 1000)) ∧ H' = H)
abbrev s_is_half : Stmt := top 23
theorem sc_is_half : FnScope ["thing"] ["thing"] (C8.fnScope s_is_half) := C8.fnScope_by (by decide +kernel)
theorem c_is_half (T : Txt P w K mg base Z) : C8.Cal P w K mg base 3 "is_half" sp_is_half [] :=
  calD (k := 2) T.d_is_half sc_is_half (fun _ _ _ _ _ _ us h => by obtain ⟨_, rfl⟩ := us1 (by exact h); rfl) (fun _ => rfl) (fun cdv f A outer s H0 H Q E a hr pre hq => by
    have S := sc_is_half
    refine ⟨_, (pss_one (ps_ret (C8.pe_c (c_is_between T) hr (by decide) rfl (pa_cons (pv 0) (pa_cons pe_int (pa_cons (C8.pe_gc rfl T.g_GREATEST_HALF) pa_nil)))))), ?_⟩
    walk_at "rd"
    refine ⟨trivial, ?_⟩
    rintro v H' ⟨rfl, rfl⟩
    exact hq _ _ ⟨rfl, rfl⟩)
def sp_folded : Sp := mkSp (fun ((h, t, b) : Int × Int × Int) => [.int h, .int t, .int b]) (fun (h, t, b) _ => 1 ≤ h ∧ h ≤ 10000 ∧ 0 ≤ t ∧ 1 ≤ b ∧ b < 2 ^ 29) (fun (h, t, b) H v H' => NewT [.int (redT (fold2 h t b) b), .int (redB (fold2 h t b) b)] H v H')
abbrev s_folded : Stmt := top 24
theorem sc_folded : FnScope ["half", "top", "bottom", "rest"] ["half", "top", "bottom"] (C8.fnScope s_folded) := C8.fnScope_by (by decide +kernel)
theorem c_folded (T : Txt P w K mg base Z) : C8.Cal P w K mg base 3 "folded" sp_folded [] :=
  calD (k := 2) T.d_folded sc_folded (fun _ _ _ _ _ _ us h => by obtain ⟨_, _, _, rfl⟩ := us3 (by exact h); rfl) (fun _ => rfl) (fun cdv f A outer s H0 H Q E a hr pre hq => by
    have S := sc_folded
    obtain ⟨h, t, b⟩ := a
    obtain ⟨h1, h2, ht, hb, hb2⟩ := pre
    have hm : 0 < 2 * h * b := Int.mul_pos (by omega) (by omega)
    have r1 := Int.emod_nonneg t (Int.ne_of_gt hm)
    have r2 := Int.emod_lt_of_pos t hm
    refine ⟨_, (pss_cons (ps_set (i := 3) S.nd rfl (Or.inl rfl) (pe_op op_mod (pv 1) (pe_op op_mul (pe_op op_mul pe_int (pv 0)) (pv 2))))
  (pss_one (ps_ret (C8.pe_c (c_lowest T) hr (by decide) rfl (pa_cons (pe_callB (crMin (K := K) rfl rfl) (by rfl) T.n_min (by decide +kernel) (pa_cons (pe_lst (pa_cons (pv 3) (pa_cons (pe_op op_sub (pe_op op_mul (pe_op op_mul pe_int (pv 0)) (pv 2)) (pv 3)) pa_nil))) pa_nil)) (pa_cons (pv 2) pa_nil)))))), ?_⟩
    walk_at "rd"
    refine ⟨by walk_at "sz", fun q nq => ?_⟩
    refine ⟨_, [_, _], rfl, sqL upd_same, Nat.zero_lt_succ _, fun m m1 m2 => ?_⟩
    have hm := min2_of m1 m2
    subst hm
    walk_at "rd"
    refine ⟨⟨by omega, hb, hb2⟩, ?_⟩
    rintro v H' ⟨p, rfl, np, e, hp⟩
    exact hq _ _ ⟨p, rfl, by walk_at "hn", by walk_at "ex", hp⟩)
end
end Ff
end
section
set_option maxRecDepth 100000
set_option maxHeartbeats 4000000
/-! Patterns, first part. -/
namespace Ff
open PySem PySem.Spec PyProof.Rows L2
local macro_rules | `(tactic| walk_at "ex") => `(tactic| first
  | exact Ex.refl _
  | with_reducible assumption
  | (refine Ex.new ?_ (by with_reducible assumption); walk_at "ex")
  | (refine Ex.mut ?_ (by walk_at "hn"); walk_at "ex")
  | (refine Ex.trans ?_ (by with_reducible assumption); walk_at "ex"))
local macro_rules | `(tactic| walk_at "hn") => `(tactic| first
  | with_reducible assumption
  | exact Ex.back (by with_reducible assumption) (by with_reducible assumption)
  | exact upd_none (by with_reducible assumption)
  | exact upd_none (upd_none (by with_reducible assumption))
  | exact Ex.back (by with_reducible assumption) (upd_none (by with_reducible assumption))
  | exact Ex.back (by with_reducible assumption) (Ex.back (by with_reducible assumption) (by with_reducible assumption)))
local macro_rules | `(tactic| walk_at "hp") => `(tactic| first
  | with_reducible assumption
  | with_reducible exact upd_same
  | (refine Ex.at (by with_reducible assumption) ?_; walk_at "ex")
  | (refine upd_old ?_ (by with_reducible assumption); walk_at "hp")
  | (refine upd_off ?_ (by with_reducible assumption); walk_at "hp"))
local macro_rules | `(tactic| walk_at "sd") => `(tactic| ((try dsimp only [CMul, CDiv, CPow]); first | exact True.intro | omega | (with_reducible assumption)))
local macro_rules | `(tactic| walk_at "sz") => `(tactic| exact Nat.le_of_ble_eq_true rfl)
local macro_rules | `(tactic| walk_at "is") => `(tactic| first
  | refine ⟨_, _, _, _, _, rfl, .ty _, .base (.int _), kt_int, ?_⟩
  | refine ⟨_, _, _, _, _, rfl, .ty _, .base (.int _), kt_intb, ?_⟩
  | refine ⟨_, _, _, _, _, rfl, .ty _, .base (.bl _), kt_bool, ?_⟩
  | refine ⟨_, _, _, _, _, rfl, .ty _, .base (.str _), kt_str, ?_⟩
  | refine ⟨_, _, _, _, _, rfl, .ty _, .base (.tup (by walk_at "hp")), kt_tup, ?_⟩
  | refine ⟨_, _, _, _, _, rfl, .ty _, .base (.dK (by walk_at "hp")), kt_dict, ?_⟩)
local macro_rules | `(tactic| walk_at "rd1") => `(tactic| first
  | refine ⟨_, rfl, ?_⟩
  | refine ⟨_, _, rfl, rfl, And.intro (by walk_at "sd") ?_⟩
  | refine ⟨_, _, rfl, rfl, ?_⟩
  | refine ⟨rfl, ?_⟩
  | refine ⟨_, _, _, _, rfl, rfl, sqT (by walk_at "hp"), rfl, ?_⟩
  | refine ⟨_, _, _, _, rfl, rfl, sqL (by walk_at "hp"), rfl, ?_⟩
  | refine ⟨_, _, rfl, sqT (by walk_at "hp"), rfl, ?_⟩
  | refine ⟨_, _, _, _, _, rfl, by walk_at "hp", by assumption, by assumption, rfl, ?_⟩
  | refine ⟨.inl ⟨rfl, _, sqL (by walk_at "hp")⟩, ?_⟩
  | refine ⟨_, _, rfl, .inl (sqL (by walk_at "hp")), ?_⟩
  | refine ⟨_, _, rfl, .inr (sqT (by walk_at "hp")), ?_⟩
  | refine ⟨(_, _), rfl, ?_⟩
  | refine ⟨(_, _, _), rfl, ?_⟩
  | refine ⟨(_, _, _, _), rfl, ?_⟩
  | refine ⟨_, _, rfl, ?_⟩
  | refine ⟨_, _, _, rfl, ?_⟩
  | walk_at "is")
local macro_rules | `(tactic| walk_at "rd") => `(tactic| repeat walk_at "rd1")

local macro_rules | `(tactic| walk_at "ib") => `(tactic| refine .inr ⟨_, rfl, ?_⟩)
local macro_rules | `(tactic| walk_at "ii") => `(tactic| refine .inl ⟨_, rfl, ?_⟩)
def pcV (x : Pc) : List V := [.int x.1, .bl x.2.1, .int x.2.2.1, .bl x.2.2.2]
def PcAt (H : Hp) (v : V) (x : Pc) : Prop := ∃ p, v = .ref p ∧ H p = some (.tup (pcV x))
def PcsAt (H : Hp) (vs : List V) (ps : List Pc) : Prop := Paired (PcAt H) vs ps
theorem PcAt.ex {H H' : Hp} {v : V} {x : Pc} (h : PcAt H v x) (e : Ex H H') : PcAt H' v x := by
  obtain ⟨p, r, q⟩ := h
  exact ⟨p, r, e _ _ q⟩
theorem PcsAt.ex {H H' : Hp} {vs : List V} {ps : List Pc} (h : PcsAt H vs ps) (e : Ex H H') : PcsAt H' vs ps := paired_map (fun _ _ q => q.ex e) h
theorem PcsAt.mut {H : Hp} {vs xs : List V} {ps : List Pc} {f : Addr} {o : HO} (h : PcsAt H vs ps) (hf : H f = some (.lst xs)) : PcsAt (upd H f o) vs ps := paired_map (fun _ _ q => by
  obtain ⟨p, r, q⟩ := q
  exact ⟨p, r, upd_off q (ne_of q hf (fun z => nomatch z))⟩) h
section
variable {P : Program} {w : World} {K : PySem.W.Frag} {mg : PySem.Str → Option Value} {base : Heap} {Z : Adr}
def sp_folded_spot : Sp := mkSp (fun ((h, k) : Int × Int) => [.int h, .int k]) (fun (h, k) _ => 1 ≤ h ∧ h ≤ 10000) (fun (h, k) H v H' => v = .int (fold h k) ∧ Ex H H')
abbrev s_folded_spot : Stmt := top 30
theorem sc_folded_spot : FnScope ["half", "spot", "rest"] ["half", "spot"] (C8.fnScope s_folded_spot) := C8.fnScope_by (by decide +kernel)
theorem c_folded_spot (T : Txt P w K mg base Z) : C8.Cal P w K mg base 1 "folded_spot" sp_folded_spot [] :=
  calD (k := 0) T.d_folded_spot sc_folded_spot (fun _ _ _ _ _ _ us h => by obtain ⟨_, _, rfl⟩ := us2 (by exact h); rfl) (fun _ => rfl) (fun cdv f A outer s H0 H Q E a hr pre hq => by
    have S := sc_folded_spot
    obtain ⟨h, k⟩ := a
    obtain ⟨h1, h2⟩ := pre
    refine ⟨_, (pss_cons (ps_set (i := 2) S.nd rfl (Or.inl rfl) (pe_op op_mod (pv 1) (pe_op op_mul pe_int (pv 0))))
  (pss_one (ps_ret (pe_callB (crMin (K := K) rfl rfl) (by rfl) T.n_min (by decide +kernel) (pa_cons (pe_lst (pa_cons (pv 2) (pa_cons (pe_op op_sub (pe_op op_mul pe_int (pv 0)) (pv 2)) pa_nil))) pa_nil))))), ?_⟩
    walk_at "rd"
    refine ⟨by walk_at "sz", fun q nq => ?_⟩
    refine ⟨_, [_, _], rfl, sqL upd_same, Nat.zero_lt_succ _, fun m m1 m2 => ?_⟩
    have hm := min2_of m1 m2
    subst hm
    exact hq _ _ ⟨rfl, by walk_at "ex"⟩)
def sp_spot_of : Sp := mkSp (fun ((h, q, _) : Int × Addr × Int × Int) => [.int h, .ref q]) (fun (h, q, t, b) H => 1 ≤ h ∧ h ≤ 10000 ∧ H q = some (.tup [.int t, .int b]) ∧ 0 ≤ t ∧ 1 ≤ b ∧ b < 2 ^ 29) (fun (h, _, t, b) H v H' => v = .int (fold h (spotR t b)) ∧ Ex H H')
abbrev s_spot_of : Stmt := top 29
theorem sc_spot_of : FnScope ["half", "speed", "top", "bottom"] ["half", "speed"] (C8.fnScope s_spot_of) := C8.fnScope_by (by decide +kernel)
theorem c_spot_of (T : Txt P w K mg base Z) : C8.Cal P w K mg base 4 "spot_of" sp_spot_of [] :=
  calD (k := 3) T.d_spot_of sc_spot_of (fun _ _ _ _ _ _ us h => by obtain ⟨_, _, rfl⟩ := us2 (by exact h); rfl) (fun _ => rfl) (fun cdv f A outer s H0 H Q E a hr pre hq => by
    have S := sc_spot_of
    obtain ⟨h, q, t, b⟩ := a
    obtain ⟨h1, h2, hp, ht, hb, hb2⟩ := pre
    have m0 : 0 < 2 * h * b := Int.mul_pos (by omega) (by omega)
    have r1 := Int.emod_nonneg t (Int.ne_of_gt m0)
    have r2 := Int.emod_lt_of_pos t m0
    have f0 : 0 ≤ fold2 h t b := by unfold fold2; omega
    obtain ⟨g, g0, e1, e2, hB, hg⟩ := red_dvd (t := fold2 h t b) hb
    have hBb : redB (fold2 h t b) b ≤ b := by
      have := Int.mul_le_mul_of_nonneg_right (show 1 ≤ g by omega) (show 0 ≤ redB (fold2 h t b) b by omega)
      omega
    refine ⟨_, (pss_cons (ps_asg (C8.pe_c (c_folded T) hr (by decide) rfl (pa_cons (pv 0) (pa_cons (pe_ix (ixT (K := K) rfl) (pv 1) pe_int (fun _ _ => rfl)) (pa_cons (pe_ix (ixT (K := K) rfl) (pv 1) pe_int (fun _ _ => rfl)) pa_nil)))) (pgT (K := K) (n := 2) rfl (by rfl) (pgs_cons (pg_name (i := 2) S.nd rfl (Or.inl rfl)) (pgs_cons (pg_name (i := 3) S.nd rfl (Or.inl rfl)) pgs_nil))))
  (pss_one (ps_ret (pe_op op_add (pe_op op_mul pe_int (pe_op op_fdiv (pv 2) (pv 3))) (pe_callTy call_int1 (by rfl) T.n_int (by decide +kernel) (pa_cons (pe_cmpR op_gt (pv 3) pe_int (nomark _)) pa_nil)))))), ?_⟩
    walk_at "rd"
    refine ⟨⟨h1, h2, ht, hb, hb2⟩, ?_⟩
    rintro v H1 ⟨p, rfl, np, e, hr⟩
    walk_at "rd"
    walk_at "ib"
    walk_at "rd"
    refine hq _ _ ⟨?_, e⟩
    rw [← spot_fold h1 hb ht, ← spot_red hb f0 g0 e1 e2 hB hg]
    by_cases z : redB (fold2 h t b) b > 1
    · simp [z]
    · simp [z])
def sp_spots_of : Sp := mkSp (fun ((p, _) : Addr × Pc) => [.ref p]) (fun (p, x) H => H p = some (.tup (pcV x))) (fun (_, x) H v H' => NewT [.int (spL x), .int (spR x)] H v H')
abbrev s_spots_of : Stmt := top 31
theorem sc_spots_of : FnScope ["piece", "low", "has_low", "high", "has_high"] ["piece"] (C8.fnScope s_spots_of) := C8.fnScope_by (by decide +kernel)
theorem c_spots_of (T : Txt P w K mg base Z) : C8.Cal P w K mg base 1 "spots_of" sp_spots_of [] :=
  calD (k := 0) T.d_spots_of sc_spots_of (fun _ _ _ _ _ _ us h => by obtain ⟨_, rfl⟩ := us1 (by exact h); rfl) (fun _ => rfl) (fun cdv f A outer s H0 H Q E a hr pre hq => by
    have S := sc_spots_of
    obtain ⟨p, lo, hl, hi, hh⟩ := a
    have pre : H p = some (.tup [.int lo, .bl hl, .int hi, .bl hh]) := pre
    refine ⟨_, (pss_cons (ps_asg (pv 0) (pgT (K := K) (n := 4) rfl (by rfl) (pgs_cons (pg_name (i := 1) S.nd rfl (Or.inl rfl)) (pgs_cons (pg_name (i := 2) S.nd rfl (Or.inl rfl)) (pgs_cons (pg_name (i := 3) S.nd rfl (Or.inl rfl)) (pgs_cons (pg_name (i := 4) S.nd rfl (Or.inl rfl)) pgs_nil))))))
  (pss_one (ps_ret (pe_tup (pa_cons (pe_op op_add (pe_op op_mul pe_int (pv 1)) (pe_callTy call_int1 (by rfl) T.n_int (by decide +kernel) (pa_cons (pe_not (pv 2)) pa_nil))) (pa_cons (pe_op op_sub (pe_op op_mul pe_int (pv 3)) (pe_callTy call_int1 (by rfl) T.n_int (by decide +kernel) (pa_cons (pe_not (pv 4)) pa_nil))) pa_nil)))))), ?_⟩
    walk_at "rd"
    walk_at "ib"
    walk_at "rd"
    walk_at "ib"
    walk_at "rd"
    refine ⟨by walk_at "sz", fun q nq => ?_⟩
    refine hq _ _ ⟨q, rfl, nq, by walk_at "ex", ?_⟩
    rw [upd_same]
    unfold spL spR
    cases hl <;> cases hh <;> rfl)
theorem map_markL {M : Int → Prop} {n : Nat} : (markL M n).map V.bl = (List.range n).map fun (k : Nat) => V.bl (tv (M (k : Int))) := by
  unfold markL
  rw [List.map_map]
  rfl
theorem markL_at {M : Int → Prop} {n : Nat} {i : Int} (h0 : 0 ≤ i) (h1 : i < n) : atI ((markL M n).map V.bl) i = some (V.bl (tv (M i))) := by
  refine atI_nat' h0 ?_
  rw [List.getElem?_map, markL_get (by omega)]
  rw [show ((i.toNat : Nat) : Int) = i by omega]
  rfl
def sp_lifted : Sp := mkSp (fun ((h, p, g, _) : Int × Addr × Int × (Int → Prop) × Nat) => [.int h, .ref p, .int g]) (fun (h, p, g, M, n) H => 1 ≤ h ∧ h ≤ 10000 ∧ 0 ≤ g ∧ g ≤ 10000 ∧ 2 * h + 1 ≤ n ∧ H p = some (.lst ((markL M n).map .bl)))
  (fun (h, _, g, M, _) H v H' => NewL ((markL (fun k => M (fold h k)) (2 * g + 1).toNat).map .bl) H v H')
abbrev s_lifted : Stmt := top 34
theorem sc_lifted : FnScope ["half", "marks", "great", "spot"] ["half", "marks", "great"] (C8.fnScope s_lifted) := C8.fnScope_by (by decide +kernel)
theorem c_lifted (T : Txt P w K mg base Z) : C8.Cal P w K mg base 2 "lifted" sp_lifted [] :=
  calD (k := 1) T.d_lifted sc_lifted (fun _ _ _ _ _ _ us h => by obtain ⟨_, _, _, rfl⟩ := us3 (by exact h); rfl) (fun _ => rfl) (fun cdv f A outer s H0 H Q E a hr pre hq => by
    have S := sc_lifted
    obtain ⟨h, p, g, M, n⟩ := a
    obtain ⟨h1, h2, g1, g2, hn, hp⟩ := pre
    refine ⟨_, (pss_one (ps_ret (pe_lc (own := [("spot", 3)]) rfl S.nd (pi_range1 (by rfl) T.n_range (pa_cons (pe_op op_add (pe_op op_mul pe_int (pv 2)) pe_int) pa_nil)) (blkOk_by (by kernel_rfl)) (fun _ _ _ _ _ => (pg_name (i := 3) S.nd rfl (by first | exact Or.inl rfl | exact Or.inr rfl))) (fun _ _ _ _ _ => pts_nil) (fun _ _ _ _ _ => (pe_ix (ixL (K := K) rfl) (pv 1) (C8.pe_c (c_folded_spot T) hr (by decide) rfl (pa_cons (pv 0) (pa_cons (pv 3) pa_nil))) (fun _ _ => rfl)))))), ?_⟩
    walk_at "rd"
    refine ⟨by omega, by omega, fun D nD => ?_⟩
    refine lcE walk_range nD (by omega) (fun _ => true) (fun i y _ => y = .bl (tv (M (fold h i)))) (fun _ r => r) (fun _ r => r) (fun H e => trivial) ?_ ?_
    · rintro i x H1 H2 hi e ⟨rfl, rfl⟩ S Z hS hZ
      refine ⟨rfl, ?_⟩
      walk_at "rd"
      refine ⟨⟨h1, h2⟩, ?_⟩
      rintro v H' ⟨rfl, e2⟩
      have f := fold_rng (0 + (i : Int)) h1
      refine ⟨_, _, _, _, rfl, rfl, sqL (by walk_at "hp"), markL_at f.1 (by omega), ?_⟩
      refine hS _ _ e2 rfl ?_
      rw [Int.zero_add]
    · intro H1 ys e hD got
      have hy := got_fn (v := fun (i : Nat) => .bl (tv (M (fold h i)))) got
      subst hy
      exact hq _ _ ⟨D, rfl, nD, by walk_at "ex", by rw [map_markL]; exact hD⟩)
def sp_is_piece : Sp := mkSp (fun ((h, p, _) : Int × Addr × Pc) => [.int h, .ref p]) (fun (h, p, x) H => H p = some (.tup (pcV x)) ∧ PcOk h x) (fun _ H v H' => v = .bl true ∧ H' = H)
abbrev s_is_piece : Stmt := top 27
theorem sc_is_piece : FnScope ["half", "thing", "low", "has_low", "high", "has_high"] ["half", "thing"] (C8.fnScope s_is_piece) := C8.fnScope_by (by decide +kernel)
theorem c_is_piece (T : Txt P w K mg base Z) : C8.Cal P w K mg base 3 "is_piece" sp_is_piece [] :=
  calD (k := 2) T.d_is_piece sc_is_piece (fun _ _ _ _ _ _ us h => by obtain ⟨_, _, rfl⟩ := us2 (by exact h); rfl) (fun _ => rfl) (fun cdv f A outer s H0 H Q E a hr pre hq => by
    have S := sc_is_piece
    obtain ⟨h, p, lo, hl, hi, hh⟩ := a
    obtain ⟨hp, ok⟩ := pre
    have hp : H p = some (.tup [.int lo, .bl hl, .int hi, .bl hh]) := hp
    obtain ⟨k1, k2, k3, k4, k5⟩ := ok
    dsimp only at k1 k2 k3 k4 k5
    refine ⟨_, (pss_cons (ps_if (PW.pt (pw_or (pt_not (pt_val (pe_callB (isI (K := K) rfl) (by rfl) T.n_isinstance (by decide +kernel) (pa_cons (pv 1) (pa_cons (pe_bltn (by rfl) T.n_tuple (by decide +kernel) (v := .ty "tuple") (u := .type "tuple") rfl) pa_nil))))) (pw_or (pt_cmpR op_ne (pe_callB (lenS (K := K) rfl) (by rfl) T.n_len (by decide +kernel) (pa_cons (pv 1) pa_nil)) pe_int (nomark _)) (pw_or1 (pt_not (pt_val (C8.pe_c (c_is_between T) hr (by decide) rfl (pa_cons (pe_ix (ixT (K := K) rfl) (pv 1) pe_int (fun _ _ => rfl)) (pa_cons pe_int (pa_cons (pv 0) pa_nil)))))))))) (pss_one (ps_ret pe_bl)) pss_nil)
  (pss_cons (ps_asg (pv 1) (pgT (K := K) (n := 4) rfl (by rfl) (pgs_cons (pg_name (i := 2) S.nd rfl (Or.inl rfl)) (pgs_cons (pg_name (i := 3) S.nd rfl (Or.inl rfl)) (pgs_cons (pg_name (i := 4) S.nd rfl (Or.inl rfl)) (pgs_cons (pg_name (i := 5) S.nd rfl (Or.inl rfl)) pgs_nil))))))
  (pss_cons (ps_if (PW.pt (pw_or (pt_not (pt_val (pe_callB (isI (K := K) rfl) (by rfl) T.n_isinstance (by decide +kernel) (pa_cons (pv 3) (pa_cons (pe_bltn (by rfl) T.n_bool (by decide +kernel) (v := .ty "bool") (u := .type "bool") rfl) pa_nil))))) (pw_or (pt_not (pt_val (pe_callB (isI (K := K) rfl) (by rfl) T.n_isinstance (by decide +kernel) (pa_cons (pv 5) (pa_cons (pe_bltn (by rfl) T.n_bool (by decide +kernel) (v := .ty "bool") (u := .type "bool") rfl) pa_nil))))) (pw_or1 (pt_not (pt_val (C8.pe_c (c_is_between T) hr (by decide) rfl (pa_cons (pv 4) (pa_cons (pv 2) (pa_cons (pv 0) pa_nil)))))))))) (pss_one (ps_ret pe_bl)) pss_nil)
  (pss_one (ps_ret (pe_or (pe_cmpR op_lt (pv 2) (pv 4) (nomark _)) (pe_one (pe_and (pv 3) (pe_one (pv 5)))))))))), ?_⟩
    walk_at "rd"
    refine ⟨trivial, ?_⟩
    rintro v H' ⟨rfl, rfl⟩
    rw [decide_eq_true (show 0 ≤ lo ∧ lo ≤ h from ⟨k1, k2⟩)]
    walk_at "rd"
    refine ⟨trivial, ?_⟩
    rintro v H' ⟨rfl, rfl⟩
    rw [decide_eq_true (show lo ≤ hi ∧ hi ≤ h from ⟨k3, k4⟩)]
    walk_at "rd"
    refine iteD (fun z => ?_) (fun z => ?_)
    · exact hq _ _ ⟨rfl, rfl⟩
    · obtain ⟨rfl, rfl⟩ := k5.resolve_left z
      walk_at "rd"
      exact hq _ _ ⟨rfl, rfl⟩)
def sp_need_pieces : Sp := mkSp (fun ((h, p, _) : Int × Addr × List V × List Pc) => [.int h, .ref p]) (fun (h, p, vs, ps) H => H p = some (.lst vs) ∧ PcsAt H vs ps ∧ ∀ x ∈ ps, PcOk h x) (fun _ H v H' => v = .non ∧ Ex H H')
abbrev s_need_pieces : Stmt := top 28
theorem sc_need_pieces : FnScope ["half", "pieces", "at", "piece"] ["half", "pieces"] (C8.fnScope s_need_pieces) := C8.fnScope_by (by decide +kernel)
theorem c_need_pieces (T : Txt P w K mg base Z) : C8.Cal P w K mg base 4 "need_pieces" sp_need_pieces [] :=
  calD (k := 3) T.d_need_pieces sc_need_pieces (fun _ _ _ _ _ _ us h => by obtain ⟨_, _, rfl⟩ := us2 (by exact h); rfl) (fun _ => rfl) (fun cdv f A outer s H0 H Q E a hr pre hq => by
    have S := sc_need_pieces
    obtain ⟨h, p, vs, ps⟩ := a
    obtain ⟨hp, hv, ok⟩ := pre
    refine ⟨_, (pss_cons (ps_if (pt_not (pt_val (pe_callB (isIT (K := K) rfl) (by rfl) T.n_isinstance (by decide +kernel) (pa_cons (pv 1) (pa_cons (pe_tup (pa_cons (pe_bltn (by rfl) T.n_list (by decide +kernel) (v := .ty "list") (u := .type "list") rfl) (pa_cons (pe_bltn (by rfl) T.n_tuple (by decide +kernel) (v := .ty "tuple") (u := .type "tuple") rfl) pa_nil))) pa_nil))))) (pss_one ps_never) pss_nil)
  (pss_one (ps_for PassesOwn.never rfl (pi_enum (by rfl) T.n_enumerate (pa_cons (pv 1) pa_nil)) (pgT (K := K) (n := 2) rfl (by rfl) (pgs_cons (pg_name (i := 2) S.nd rfl (Or.inl rfl)) (pgs_cons (pg_name (i := 3) S.nd rfl (Or.inl rfl)) pgs_nil))) (pss_one (ps_if (pt_not (pt_val (C8.pe_c (c_is_piece T) hr (by decide) rfl (pa_cons (pv 0) (pa_cons (pv 3) pa_nil))))) (pss_one ps_never) pss_nil))))), ?_⟩
    walk_at "rd"
    refine ⟨by walk_at "sz", fun q nq => ?_⟩
    refine ⟨_, _, _, _, _, true, rfl, upd_same, .cons (.ty _) (.cons (.ty _) .nil), .base (.lst (by walk_at "hp")), kitAny_cons kt_list (fun q => nomatch q) (fun _ => rfl), ?_⟩
    walk_at "rd"
    refine ⟨_, _, rfl, sqL (by walk_at "hp"), ?_⟩
    refine for_it (walk_enum (xs := vs)) (fun i σ H' => Hold (Ex H H' ∧ ∃ o1 o2, σ = [some (.int h), some (.ref p), o1, o2])) (.of ⟨by walk_at "ex", _, _, rfl⟩) (fun i σ H' _ h => sqL (h.out.1 _ _ hp)) ?_ ?_
    · rintro i x σ H1 H2 hi hP ⟨t, a, b, rfl, nt, rfl, ha, hb⟩
      obtain ⟨e, o1, o2, rfl⟩ := hP.out
      cases ha
      have hl := paired_len hv
      obtain ⟨y, hy⟩ : ∃ y, ps[i]? = some y := ⟨_, List.getElem?_eq_getElem (by omega)⟩
      obtain ⟨q, rfl, hq2⟩ := paired_get hv hb hy
      walk_at "rd"
      refine ⟨(h, q, y), rfl, ⟨upd_old (e _ _ hq2) nt, ok y (List.mem_of_getElem? hy)⟩, ?_⟩
      rintro v H' ⟨rfl, rfl⟩
      walk_at "rd"
      exact .of ⟨by walk_at "ex", _, _, rfl⟩
    · rintro σ H' hP
      obtain ⟨e, o1, o2, rfl⟩ := hP.out
      exact hq _ _ ⟨rfl, e⟩)
def sp_pieces_in : Sp := mkSp (fun ((p, _) : Addr × (Int → Prop) × Nat) => [.ref p]) (fun (p, M, n) H => H p = some (.lst ((markL M n).map .bl)) ∧ n ≤ 40000)
  (fun (_, M, n) H v H' => ∃ p vs ps, v = .ref p ∧ H p = none ∧ Ex H H' ∧ H' p = some (.lst vs) ∧ PcsAt H' vs ps ∧ (∀ k, Span ps k ↔ 0 ≤ k ∧ k < n ∧ M k) ∧ (∀ x ∈ ps, ∃ a z, x = pcOf a z ∧ 0 ≤ a ∧ a ≤ z ∧ z < n) ∧ ps.length ≤ n + 1)
abbrev s_pieces_in : Stmt := top 33
theorem sc_pieces_in : FnScope ["marks", "found", "first", "spot", "is_in", "last"] ["marks"] (C8.fnScope s_pieces_in) := C8.fnScope_by (by decide +kernel)
theorem c_pieces_in (T : Txt P w K mg base Z) : C8.Cal P w K mg base 1 "pieces_in" sp_pieces_in [] :=
  calD (k := 0) T.d_pieces_in sc_pieces_in (fun _ _ _ _ _ _ us h => by obtain ⟨_, rfl⟩ := us1 (by exact h); rfl) (fun _ => rfl) (fun cdv f A outer s H0 H Q E a hr pre hq => by
    have S := sc_pieces_in
    obtain ⟨p, M, n⟩ := a
    obtain ⟨hp, hn⟩ := pre
    refine ⟨_, (pss_cons (ps_set (i := 1) S.nd rfl (Or.inl rfl) (pe_lst pa_nil))
  (pss_cons (ps_set (i := 2) S.nd rfl (Or.inl rfl) pe_non)
  (pss_cons (ps_for PassesOwn.never rfl (pi_enum (by rfl) T.n_enumerate (pa_cons (pe_op op_cat (pe_callTy (lstO (K := K) rfl) (by rfl) T.n_list (by decide +kernel) (pa_cons (pv 0) pa_nil)) (pe_lst (pa_cons pe_bl pa_nil))) pa_nil)) (pgT (K := K) (n := 2) rfl (by rfl) (pgs_cons (pg_name (i := 3) S.nd rfl (Or.inl rfl)) (pgs_cons (pg_name (i := 4) S.nd rfl (Or.inl rfl)) pgs_nil))) (pss_cons (ps_if (PW.pt (pw_and (pt_val (pv 4)) (pw_and1 (pt_cmpR op_isN (pv 2) pe_non (nomark _))))) (pss_one (ps_set (i := 2) S.nd rfl (Or.inl rfl) (pv 3))) pss_nil)
  (pss_one (ps_if (PW.pt (pw_and (pt_not (pt_val (pv 4))) (pw_and1 (pt_cmpR op_notN (pv 2) pe_non (nomark _))))) (pss_cons (ps_set (i := 5) S.nd rfl (Or.inl rfl) (pe_op op_sub (pv 3) pe_int))
  (pss_cons (ps_expr (pe_bm PySem.F.plainAttrs_list PySem.F.slot_list_append PySem.F.type_list_append mt_append (pv 1) (pa_cons (pe_tup (pa_cons (pe_op op_fdiv (pv 2) pe_int) (pa_cons (pe_cmpR op_eq (pe_op op_mod (pv 2) pe_int) pe_int (nomark _)) (pa_cons (pe_op op_fdiv (pe_op op_add (pv 5) pe_int) pe_int) (pa_cons (pe_cmpR op_eq (pe_op op_mod (pv 5) pe_int) pe_int (nomark _)) pa_nil))))) pa_nil)))
  (pss_one (ps_set (i := 2) S.nd rfl (Or.inl rfl) pe_non)))) pss_nil))))
  (pss_one (ps_ret (pv 1)))))), ?_⟩
    walk_at "rd"
    refine ⟨by walk_at "sz", fun f nf => ?_⟩
    walk_at "rd"
    refine fun c nc => ?_
    walk_at "rd"
    refine ⟨by walk_at "sz", fun d nd => ?_⟩
    refine ⟨_, _, _, _, rfl, rfl, by walk_at "hp", by walk_at "hp", szL (by rw [List.length_map, markL_len]; show n + 1 ≤ _; omega), fun b nb => ?_⟩
    walk_at "rd"
    have xs : (markL M n).map V.bl ++ [V.bl false] = (markL M n ++ [false]).map V.bl := by rw [List.map_append]; rfl
    rw [xs]
    obtain ⟨bs, hbs⟩ : ∃ bs, markL M n ++ [false] = bs := ⟨_, rfl⟩
    have bl : bs.length = n + 1 := by rw [← hbs, List.length_append, markL_len]; rfl
    rw [hbs]
    refine ⟨_, _, rfl, sqL upd_same, ?_⟩
    obtain ⟨H1, hH1⟩ : ∃ H1, upd (upd (upd (upd H f (.lst [])) c (.lst ((markL M n).map V.bl))) d (.lst [V.bl false])) b (.lst (bs.map V.bl)) = H1 := ⟨_, rfl⟩
    have hb1 : H1 b = some (.lst (bs.map V.bl)) := by rw [← hH1]; exact upd_same
    have hf1 : H1 f = some (.lst []) := by rw [← hH1]; walk_at "hp"
    have e1 : Ex H H1 := by rw [← hH1]; walk_at "ex"
    have bf : b ≠ f := by
      rintro rfl
      have : upd (upd (upd H b (.lst [])) c (.lst ((markL M n).map V.bl))) d (.lst [V.bl false]) b = some (.lst []) := by walk_at "hp"
      rw [this] at nb
      cases nb
    rw [hH1]
    refine for_it (walk_enum (xs := bs.map V.bl)) (fun i σ H' => Hold (Ex H H' ∧ H' b = some (.lst (bs.map V.bl)) ∧ ∃ vs ps fo o1 o2 o3, σ = [some (.ref p), some (.ref f), some (match fo with | some a => .int a | none => .non), o1, o2, o3] ∧ H' f = some (.lst vs) ∧ PcsAt H' vs ps ∧ PcSt bs i ps fo))
      (.of ⟨e1, hb1, [], [], none, _, _, _, rfl, hf1, .nil, PcSt.start⟩) (fun i σ H' _ h => sqL h.out.2.1) ?_ ?_
    · rintro i x σ H2 H3 hi hP ⟨t, a, y, rfl, nt, rfl, ha, hy⟩
      obtain ⟨e, hb, vs, ps, fo, o1, o2, o3, rfl, hf, hv, st⟩ := hP.out
      cases ha
      obtain ⟨m, hm, rfl⟩ := map_get hy
      have hb' : upd H2 t (.tup [V.int i, V.bl m]) b = some (.lst (bs.map V.bl)) := by walk_at "hp"
      have hf' : upd H2 t (.tup [V.int i, V.bl m]) f = some (.lst vs) := by walk_at "hp"
      have hv' : PcsAt (upd H2 t (.tup [V.int i, V.bl m])) vs ps := hv.ex (Ex.new (Ex.refl _) nt)
      have e' : Ex H (upd H2 t (.tup [V.int i, V.bl m])) := by walk_at "ex"
      cases m <;> cases fo
      · walk_at "rd"
        exact .of ⟨e', hb', vs, ps, none, _, _, _, rfl, hf', hv', st.out_none hm⟩
      · rename_i a
        walk_at "rd"
        refine ⟨by walk_at "sz", fun u nu => ?_⟩
        have ln := st.ln
        have lv := paired_len hv'
        have hi2 : i < n + 1 := by
          rw [List.length_map] at hi
          omega
        refine ⟨_, _, _, rfl, rfl, by walk_at "hp", szlt (by omega), ?_⟩
        walk_at "rd"
        have q : HO.tup [V.int (a / 2), .bl (decide (V.int (a % 2) = V.int 0)), .int (((i : Int) - 1 + 1) / 2), .bl (decide (V.int (((i : Int) - 1) % 2) = V.int 0))] = .tup (pcV (pcOf a ((i : Int) - 1))) := by
          simp only [dInt]
          rfl
        have uf : u ≠ f := fun z => by
          rw [z, hf'] at nu
          cases nu
        refine .of ⟨by walk_at "ex", by walk_at "hp", vs ++ [.ref u], ps ++ [pcOf a ((i : Int) - 1)], none, _, _, _, rfl, upd_same, ?_, st.out_some hm⟩
        exact paired_app ⟨u, rfl, (upd_off upd_same uf).trans (congrArg some q)⟩ ((hv'.ex (Ex.new (Ex.refl _) nu)).mut (upd_old hf' nu))
      · walk_at "rd"
        exact .of ⟨e', hb', vs, ps, some i, _, _, _, rfl, hf', hv', st.in_none hm⟩
      · rename_i a
        walk_at "rd"
        exact .of ⟨e', hb', vs, ps, some a, _, _, _, rfl, hf', hv', st.in_some hm⟩
    · rintro σ H' hP
      obtain ⟨e, hb, vs, ps, fo, o1, o2, o3, rfl, hf, hv, st⟩ := hP.out
      rw [List.length_map, bl, ← hbs] at st
      walk_at "rd"
      exact hq _ _ ⟨f, vs, ps, rfl, nf, e, hf, hv, st.done⟩)
end
end Ff
end
section
set_option maxRecDepth 100000
set_option maxHeartbeats 4000000
/-! Patterns, second part: marks_of. -/
namespace Ff
open PySem PySem.Spec PyProof.Rows L2
local macro_rules | `(tactic| walk_at "ex") => `(tactic| first
  | exact Ex.refl _
  | with_reducible assumption
  | (refine Ex.new ?_ (by with_reducible assumption); walk_at "ex")
  | (refine Ex.mut ?_ (by walk_at "hn"); walk_at "ex")
  | (refine Ex.trans ?_ (by with_reducible assumption); walk_at "ex"))
local macro_rules | `(tactic| walk_at "hn") => `(tactic| first
  | with_reducible assumption
  | exact Ex.back (by with_reducible assumption) (by with_reducible assumption)
  | exact upd_none (by with_reducible assumption)
  | exact upd_none (upd_none (by with_reducible assumption))
  | exact Ex.back (by with_reducible assumption) (upd_none (by with_reducible assumption))
  | exact Ex.back (by with_reducible assumption) (Ex.back (by with_reducible assumption) (by with_reducible assumption)))
local macro_rules | `(tactic| walk_at "hp") => `(tactic| first
  | with_reducible assumption
  | with_reducible exact upd_same
  | (refine Ex.at (by with_reducible assumption) ?_; walk_at "ex")
  | (refine upd_old ?_ (by with_reducible assumption); walk_at "hp")
  | (refine upd_off ?_ (by with_reducible assumption); walk_at "hp"))
local macro_rules | `(tactic| walk_at "sd") => `(tactic| ((try dsimp only [CMul, CDiv, CPow]); first | exact True.intro | omega | (with_reducible assumption)))
local macro_rules | `(tactic| walk_at "sz") => `(tactic| exact Nat.le_of_ble_eq_true rfl)
local macro_rules | `(tactic| walk_at "is") => `(tactic| first
  | refine ⟨_, _, _, _, _, rfl, .ty _, .base (.int _), kt_int, ?_⟩
  | refine ⟨_, _, _, _, _, rfl, .ty _, .base (.int _), kt_intb, ?_⟩
  | refine ⟨_, _, _, _, _, rfl, .ty _, .base (.bl _), kt_bool, ?_⟩
  | refine ⟨_, _, _, _, _, rfl, .ty _, .base (.str _), kt_str, ?_⟩
  | refine ⟨_, _, _, _, _, rfl, .ty _, .base (.tup (by walk_at "hp")), kt_tup, ?_⟩
  | refine ⟨_, _, _, _, _, rfl, .ty _, .base (.dK (by walk_at "hp")), kt_dict, ?_⟩)
local macro_rules | `(tactic| walk_at "rd1") => `(tactic| first
  | refine ⟨_, rfl, ?_⟩
  | refine ⟨_, _, rfl, rfl, And.intro (by walk_at "sd") ?_⟩
  | refine ⟨_, _, rfl, rfl, ?_⟩
  | refine ⟨rfl, ?_⟩
  | refine ⟨_, _, _, _, rfl, rfl, sqT (by walk_at "hp"), rfl, ?_⟩
  | refine ⟨_, _, _, _, rfl, rfl, sqL (by walk_at "hp"), rfl, ?_⟩
  | refine ⟨_, _, rfl, sqT (by walk_at "hp"), rfl, ?_⟩
  | refine ⟨_, _, _, _, _, rfl, by walk_at "hp", by assumption, by assumption, rfl, ?_⟩
  | refine ⟨.inl ⟨rfl, _, sqL (by walk_at "hp")⟩, ?_⟩
  | refine ⟨_, _, rfl, .inl (sqL (by walk_at "hp")), ?_⟩
  | refine ⟨_, _, rfl, .inr (sqT (by walk_at "hp")), ?_⟩
  | refine ⟨(_, _), rfl, ?_⟩
  | refine ⟨(_, _, _), rfl, ?_⟩
  | refine ⟨(_, _, _, _), rfl, ?_⟩
  | refine ⟨_, _, rfl, ?_⟩
  | refine ⟨_, _, _, rfl, ?_⟩
  | walk_at "is")
local macro_rules | `(tactic| walk_at "rd") => `(tactic| repeat walk_at "rd1")

local macro_rules | `(tactic| walk_at "ib") => `(tactic| refine .inr ⟨_, rfl, ?_⟩)
local macro_rules | `(tactic| walk_at "ii") => `(tactic| refine .inl ⟨_, rfl, ?_⟩)
def kf (H : Hp) (v : V) : Int × Int := match v with
  | .ref t => match H t with
    | some (.tup [.int a, .int b]) => (a, b)
    | _ => (0, 0)
  | _ => (0, 0)
theorem kf_of {H : Hp} {t : Addr} {a b : Int} (h : H t = some (.tup [.int a, .int b])) : kf H (.ref t) = (a, b) := by
  unfold kf
  simp only [h]
def SpR (ps : List Pc) : Nat → V → Hp → Prop := fun i y H => ∃ x t, ps[i]? = some x ∧ y = .ref t ∧ H t = some (.tup [.int (spL x), .int (spR x)])
theorem spans_fact {H : Hp} {ps : List Pc} {ys ys' : List V} (got : Paired (fun i y => SpR ps i y H) (List.range ps.length) ys) (perm : ys'.Perm ys) (srt : SrtO.Srtd (ltP (kf H)) ys') :
    ∃ L : List (Int × Int), Paired (fun l y => ∃ t, y = .ref t ∧ H t = some (.tup [.int l.1, .int l.2])) L ys' ∧ L.Pairwise (fun p q => p.1 ≤ q.1) ∧ ∀ k, (∃ l ∈ L, l.1 ≤ k ∧ k ≤ l.2) ↔ Span ps k := by
  have hl := paired_len got
  rw [List.length_range] at hl
  have all : ∀ y ∈ ys, ∃ x ∈ ps, ∃ t, y = .ref t ∧ H t = some (.tup [.int (spL x), .int (spR x)]) := by
    intro y hy
    obtain ⟨i, hi, e⟩ := List.getElem_of_mem hy
    obtain ⟨x, t, h1, h2, h3⟩ := paired_get got (i := i) (a := i) (b := y) (range_get (by omega)) (by rw [List.getElem?_eq_getElem hi, e])
    exact ⟨x, List.mem_of_getElem? h1, t, h2, h3⟩
  have back : ∀ x ∈ ps, ∃ y ∈ ys, ∃ t, y = .ref t ∧ H t = some (.tup [.int (spL x), .int (spR x)]) := by
    intro x hx
    obtain ⟨i, hi, e⟩ := List.getElem_of_mem hx
    obtain ⟨y, hy⟩ : ∃ y, ys[i]? = some y := ⟨_, List.getElem?_eq_getElem (by omega)⟩
    obtain ⟨x', t, h1, h2, h3⟩ := paired_get got (i := i) (a := i) (b := y) (range_get (by omega)) hy
    rw [List.getElem?_eq_getElem hi, e] at h1
    cases h1
    exact ⟨y, List.mem_of_getElem? hy, t, h2, h3⟩
  refine ⟨ys'.map (kf H), ?_, ?_, fun k => ⟨?_, ?_⟩⟩
  · have go : ∀ l : List V, (∀ y ∈ l, y ∈ ys) → Paired (fun (l : Int × Int) y => ∃ t, y = V.ref t ∧ H t = some (.tup [.int l.1, .int l.2])) (l.map (kf H)) l := by
      intro l
      induction l with
      | nil => intro _; exact .nil
      | cons y l ih =>
        intro h
        obtain ⟨x, hx, t, e, ht⟩ := all y (h y (by simp))
        refine .cons ⟨t, e, ?_⟩ (ih fun z hz => h z (by simp [hz]))
        rw [e, kf_of ht]
        exact ht
    exact go ys' fun y hy => perm.mem_iff.mp hy
  · rw [List.pairwise_map]
    refine List.Pairwise.imp ?_ srt
    intro a b h
    have h : SrtO.lexB (kf H b) (kf H a) = false := h
    rw [SrtO.lexB_no] at h
    omega
  · rintro ⟨l, hl, h1, h2⟩
    obtain ⟨y, hy, rfl⟩ := List.mem_map.mp hl
    obtain ⟨x, hx, t, e, ht⟩ := all y (perm.mem_iff.mp hy)
    rw [e, kf_of ht] at h1 h2
    exact ⟨x, hx, h1, h2⟩
  · rintro ⟨x, hx, h1, h2⟩
    obtain ⟨y, hy, t, e, ht⟩ := back x hx
    refine ⟨kf H y, List.mem_map.mpr ⟨y, perm.mem_iff.mpr hy, rfl⟩, ?_⟩
    rw [e, kf_of ht]
    exact ⟨h1, h2⟩
section
variable {P : Program} {w : World} {K : PySem.W.Frag} {mg : PySem.Str → Option Value} {base : Heap} {Z : Adr}
def sp_marks_of : Sp := mkSp (fun ((h, p, _) : Int × Addr × List V × List Pc) => [.int h, .ref p]) (fun (h, p, vs, ps) H => 1 ≤ h ∧ h ≤ 10000 ∧ SeqOf vs H p ∧ PcsAt H vs ps ∧ ps.length ≤ 50000)
  (fun (h, _, _, ps) H v H' => NewL ((markL (Span ps) (2 * h + 1).toNat).map .bl) H v H')
abbrev s_marks_of : Stmt := top 32
theorem sc_marks_of : FnScope ["half", "pieces", "spans", "found", "at", "last", "spot", "piece"] ["half", "pieces"] (C8.fnScope s_marks_of) := C8.fnScope_by (by decide +kernel)
theorem c_marks_of (T : Txt P w K mg base Z) : C8.Cal P w K mg base 2 "marks_of" sp_marks_of [] :=
  calD (k := 1) T.d_marks_of sc_marks_of (fun _ _ _ _ _ _ us h => by obtain ⟨_, _, rfl⟩ := us2 (by exact h); rfl) (fun _ => rfl) (fun cdv f A outer s H0 H Q E a hr pre hq => by
    have S := sc_marks_of
    obtain ⟨h, p, vs, ps⟩ := a
    obtain ⟨h1, h2, hp, hv, hl⟩ := pre
    have vl := paired_len hv
    refine ⟨_, (pss_cons (ps_set (i := 2) S.nd rfl (Or.inl rfl) (pe_callB (srtP (K := K) rfl) (by rfl) T.n_sorted (by decide +kernel) (pa_cons (pe_lc (own := [("piece", 7)]) rfl S.nd (pi_or (piL (K := K) rfl (pv 1)) (piT (K := K) rfl (pv 1))) (blkOk_by (by kernel_rfl)) (fun _ _ _ _ _ => (pg_name (i := 7) S.nd rfl (by first | exact Or.inl rfl | exact Or.inr rfl))) (fun _ _ _ _ _ => pts_nil) (fun _ _ _ _ _ => (C8.pe_c (c_spots_of T) hr (by decide) rfl (pa_cons (pv 7) pa_nil)))) pa_nil)))
  (pss_cons (ps_set (i := 3) S.nd rfl (Or.inl rfl) (pe_lst pa_nil))
  (pss_cons (ps_asg (pe_tup (pa_cons pe_int (pa_cons (pe_un un_neg pe_int) pa_nil))) (pgT (K := K) (n := 2) rfl (by rfl) (pgs_cons (pg_name (i := 4) S.nd rfl (Or.inl rfl)) (pgs_cons (pg_name (i := 5) S.nd rfl (Or.inl rfl)) pgs_nil))))
  (pss_cons (ps_for PassesOwn.never rfl (pi_range1 (by rfl) T.n_range (pa_cons (pe_op op_add (pe_op op_mul pe_int (pv 0)) pe_int) pa_nil)) (pg_name (i := 6) S.nd rfl (Or.inl rfl)) (pss_cons (ps_while PassesOwn.never (PW.pt (pw_and (pt_cmpR op_lt (pv 4) (pe_callB (lenS (K := K) rfl) (by rfl) T.n_len (by decide +kernel) (pa_cons (pv 2) pa_nil)) (nomark _)) (pw_and1 (pt_cmpR op_le (pe_ix (ixT (K := K) rfl) (pe_ix (ixL (K := K) rfl) (pv 2) (pv 4) (fun _ _ => rfl)) pe_int (fun _ _ => rfl)) (pv 6) (nomark _))))) (pss_cons (ps_set (i := 5) S.nd rfl (Or.inl rfl) (pe_callB (crMax (K := K) rfl rfl) (by rfl) T.n_max (by decide +kernel) (pa_cons (pe_lst (pa_cons (pv 5) (pa_cons (pe_ix (ixT (K := K) rfl) (pe_ix (ixL (K := K) rfl) (pv 2) (pv 4) (fun _ _ => rfl)) pe_int (fun _ _ => rfl)) pa_nil))) pa_nil)))
  (pss_one (ps_set (i := 4) S.nd rfl (Or.inl rfl) (pe_op op_add (pv 4) pe_int)))))
  (pss_one (ps_expr (pe_bm PySem.F.plainAttrs_list PySem.F.slot_list_append PySem.F.type_list_append mt_append (pv 3) (pa_cons (pe_cmpR op_le (pv 6) (pv 5) (nomark _)) pa_nil))))))
  (pss_one (ps_ret (pv 3))))))), ?_⟩
    refine iseq rfl hp fun J G wk hG => ?_
    intro D nD
    refine lcE wk nD (by omega) (fun _ => true) (SpR ps) (fun e ⟨x, t, a, b, c⟩ => ⟨x, t, a, b, e _ _ c⟩) (fun hD ⟨x, t, a, b, c⟩ => ⟨x, t, a, b, upd_off c (ne_of c hD (fun z => nomatch z))⟩) hG ?_ ?_
    · rintro i y H1 H2 hi e ⟨rfl, hy⟩ S Z hS hZ
      obtain ⟨x, hx⟩ : ∃ x, ps[i]? = some x := ⟨_, List.getElem?_eq_getElem (by omega)⟩
      obtain ⟨t, rfl, ht⟩ := paired_get hv hy hx
      refine ⟨rfl, ?_⟩
      walk_at "rd"
      refine ⟨(t, x), rfl, e _ _ ht, ?_⟩
      rintro v H' ⟨u, rfl, nu, e2, hu⟩
      exact hS _ _ e2 rfl ⟨x, u, hx, rfl, hu⟩
    · intro H1 ys e hD got
      have got : Paired (fun i y => SpR ps i y H1) (List.range ps.length) ys := by
        unfold Got at got
        rw [range_all, vl] at got
        exact got
      have al : ∀ y ∈ ys, ∃ t, y = V.ref t ∧ H1 t = some (.tup [.int (kf H1 y).1, .int (kf H1 y).2]) := by
        intro y hy
        obtain ⟨i, hi, ey⟩ := List.getElem_of_mem hy
        have := paired_len got
        obtain ⟨x, t, k1, k2, k3⟩ := paired_get got (i := i) (a := i) (b := y) (range_get (by rw [List.length_range] at this; omega)) (by rw [List.getElem?_eq_getElem hi, ey])
        exact ⟨t, k2, by rw [k2, kf_of k3]; exact k3⟩
      refine ⟨D, ys, kf H1, rfl, sqL hD, al, fun ys' q srt stb nq => ?_⟩
      obtain ⟨L, hL, hs, hspan⟩ := spans_fact got stb.perm srt
      have Ll := paired_len hL
      obtain ⟨B, hB⟩ : ∃ B, upd H1 q (.lst ys') = B := ⟨_, rfl⟩
      have hLB : Paired (fun (l : Int × Int) y => ∃ t, y = V.ref t ∧ B t = some (.tup [.int l.1, .int l.2])) L ys' := paired_map (fun _ _ ⟨t, a, b⟩ => ⟨t, a, by rw [← hB]; exact upd_old b nq⟩) hL
      have hqB : B q = some (.lst ys') := by rw [← hB]; exact upd_same
      have eB : Ex H B := by rw [← hB]; walk_at "ex"
      rw [hB]
      walk_at "rd"
      refine ⟨by walk_at "sz", fun f nf => ?_⟩
      walk_at "rd"
      refine ⟨by walk_at "sz", fun tt nt => ?_⟩
      walk_at "rd"
      refine ⟨by omega, by omega, ?_⟩
      refine for_it walk_r0 (fun i σ H' => Hold (Ex B H' ∧ H' f = some (.lst ((markL (Span ps) i).map .bl)) ∧ ∃ (a : Nat) (last : Int) (o1 o2 : Option V), σ = [some (.int h), some (.ref p), some (.ref q), some (.ref f), some (.int (a : Int)), some (.int last), o1, o2] ∧ MkSt L ((i : Int) - 1) a last))
        (.of ⟨by walk_at "ex", upd_old upd_same nt, 0, -1, _, _, rfl, MkSt.start⟩) (fun _ _ _ _ _ => trivial) ?_ ?_
      · rintro i x σ H2 H3 hi hP ⟨rfl, rfl⟩
        obtain ⟨e2, hf, a, last, o1, o2, rfl, st⟩ := hP.out
        clear hP
        refine ⟨fun m σ H' => Ex B H' ∧ H' f = some (.lst ((markL (Span ps) i).map .bl)) ∧ ∃ (a : Nat) (last : Int), σ = [some (.int h), some (.ref p), some (.ref q), some (.ref f), some (.int (a : Int)), some (.int last), some (.int i), o2] ∧ MkSt L i a last ∧ m = L.length - a,
          ⟨_, e2, hf, a, last, rfl, st.later (by omega), rfl⟩, ?_⟩
        clear e2 hf st a last
        rintro m σ H' ⟨e2, hf, a, last, rfl, st, rfl⟩
        have fin : ∀ H4, Ex B H4 → H4 f = some (.lst ((markL (Span ps) i).map .bl)) → (∀ l, L[a]? = some l → (i : Int) < l.1) → Hold (Ex B (upd H4 f (.lst ((markL (Span ps) i).map .bl ++ [.bl (decide ((i : Int) ≤ last))]))) ∧ upd H4 f (.lst ((markL (Span ps) i).map .bl ++ [.bl (decide ((i : Int) ≤ last))])) f = some (.lst ((markL (Span ps) (i + 1)).map .bl)) ∧
            ∃ (a' : Nat) (last' : Int) (o1 o2' : Option V), [some (.int h), some (.ref p), some (.ref q), some (.ref f), some (.int (a : Int)), some (.int last), some (.int i), o2] = [some (.int h), some (.ref p), some (.ref q), some (.ref f), some (.int (a' : Int)), some (.int last'), o1, o2'] ∧ MkSt L (((i + 1 : Nat) : Int) - 1) a' last') := by
          intro H4 e4 hf4 hn
          refine .of ⟨e4.mut nf, ?_, a, last, _, _, rfl, st.later (by omega)⟩
          rw [upd_same, markL_succ, List.map_append, tv_dec, tv_eq ((st.tell (by omega) hs hn).trans (hspan i))]
          rfl
        walk_at "rd"
        refine iteD (fun z => ?_) (fun z => ?_)
        · have za : a < ys'.length := by omega
          obtain ⟨y, hy⟩ : ∃ y, ys'[a]? = some y := ⟨_, List.getElem?_eq_getElem za⟩
          obtain ⟨l, hl2⟩ : ∃ l, L[a]? = some l := ⟨_, List.getElem?_eq_getElem (by omega)⟩
          obtain ⟨t, rfl, ht⟩ := paired_get hLB hl2 hy
          have ay : atI ys' (a : Int) = some (.ref t) := atI_nat hy
          walk_at "rd"
          refine ⟨_, _, _, _, rfl, rfl, sqL (by walk_at "hp"), ay, ?_⟩
          walk_at "rd"
          refine iteD (fun z2 => ?_) (fun z2 => ?_)
          · refine ⟨fun σ4 H4 => Hold (Ex B H4 ∧ H4 f = some (.lst ((markL (Span ps) i).map .bl)) ∧ σ4 = [some (.int h), some (.ref p), some (.ref q), some (.ref f), some (.int ((a : Int) + 1)), some (.int (max last l.2)), some (.int i), o2]), ?_, ?_⟩
            · intro σ4 H4 hP
              obtain ⟨e4, hf4, rfl⟩ := hP.out
              exact ⟨L.length - (a + 1), by omega, e4, hf4, a + 1, _, rfl, st.step hl2 z2, rfl⟩
            · walk_at "rd"
              refine ⟨_, _, _, _, rfl, rfl, sqL (by walk_at "hp"), ay, ?_⟩
              walk_at "rd"
              refine ⟨by walk_at "sz", fun u nu => ?_⟩
              refine ⟨_, [_, _], rfl, sqL upd_same, Nat.zero_lt_succ _, fun m m1 m2 => ?_⟩
              have hm := max2_of m1 m2
              subst hm
              walk_at "rd"
              exact .of ⟨by walk_at "ex", by walk_at "hp", rfl⟩
          · walk_at "rd"
            refine ⟨_, _, _, rfl, rfl, by walk_at "hp", szlt (by rw [List.length_map, markL_len]; omega), ?_⟩
            exact fin H' e2 hf (fun l' hl' => by rw [hl2] at hl'; cases hl'; omega)
        · walk_at "rd"
          refine ⟨_, _, _, rfl, rfl, by walk_at "hp", szlt (by rw [List.length_map, markL_len]; omega), ?_⟩
          exact fin H' e2 hf (fun l' hl' => by have := (List.getElem?_eq_some_iff.mp hl').1; omega)
      · rintro σ H' hP
        obtain ⟨e2, hf, a, last, o1, o2, rfl, st⟩ := hP.out
        walk_at "rd"
        exact hq _ _ ⟨f, rfl, by walk_at "hn", by walk_at "ex", hf⟩)
end
end Ff
end
section
set_option maxRecDepth 100000
set_option maxHeartbeats 4000000
/-! Patterns, third part: the least half. -/
namespace Ff
open PySem PySem.Spec PyProof.Rows L2
local macro_rules | `(tactic| walk_at "ex") => `(tactic| first
  | exact Ex.refl _
  | with_reducible assumption
  | (refine Ex.new ?_ (by with_reducible assumption); walk_at "ex")
  | (refine Ex.mut ?_ (by walk_at "hn"); walk_at "ex")
  | (refine Ex.trans ?_ (by with_reducible assumption); walk_at "ex"))
local macro_rules | `(tactic| walk_at "hn") => `(tactic| first
  | with_reducible assumption
  | exact Ex.back (by with_reducible assumption) (by with_reducible assumption)
  | exact upd_none (by with_reducible assumption)
  | exact upd_none (upd_none (by with_reducible assumption))
  | exact Ex.back (by with_reducible assumption) (upd_none (by with_reducible assumption))
  | exact Ex.back (by with_reducible assumption) (Ex.back (by with_reducible assumption) (by with_reducible assumption)))
local macro_rules | `(tactic| walk_at "hp") => `(tactic| first
  | with_reducible assumption
  | with_reducible exact upd_same
  | (refine Ex.at (by with_reducible assumption) ?_; walk_at "ex")
  | (refine upd_old ?_ (by with_reducible assumption); walk_at "hp")
  | (refine upd_off ?_ (by with_reducible assumption); walk_at "hp"))
local macro_rules | `(tactic| walk_at "sd") => `(tactic| ((try dsimp only [CMul, CDiv, CPow]); first | exact True.intro | omega | (with_reducible assumption)))
local macro_rules | `(tactic| walk_at "sz") => `(tactic| exact Nat.le_of_ble_eq_true rfl)
local macro_rules | `(tactic| walk_at "is") => `(tactic| first
  | refine ⟨_, _, _, _, _, rfl, .ty _, .base (.int _), kt_int, ?_⟩
  | refine ⟨_, _, _, _, _, rfl, .ty _, .base (.int _), kt_intb, ?_⟩
  | refine ⟨_, _, _, _, _, rfl, .ty _, .base (.bl _), kt_bool, ?_⟩
  | refine ⟨_, _, _, _, _, rfl, .ty _, .base (.str _), kt_str, ?_⟩
  | refine ⟨_, _, _, _, _, rfl, .ty _, .base (.tup (by walk_at "hp")), kt_tup, ?_⟩
  | refine ⟨_, _, _, _, _, rfl, .ty _, .base (.dK (by walk_at "hp")), kt_dict, ?_⟩)
local macro_rules | `(tactic| walk_at "rd1") => `(tactic| first
  | refine ⟨_, rfl, ?_⟩
  | refine ⟨_, _, rfl, rfl, And.intro (by walk_at "sd") ?_⟩
  | refine ⟨_, _, rfl, rfl, ?_⟩
  | refine ⟨rfl, ?_⟩
  | refine ⟨_, _, _, _, rfl, rfl, sqT (by walk_at "hp"), rfl, ?_⟩
  | refine ⟨_, _, _, _, rfl, rfl, sqL (by walk_at "hp"), rfl, ?_⟩
  | refine ⟨_, _, rfl, sqT (by walk_at "hp"), rfl, ?_⟩
  | refine ⟨_, _, _, _, _, rfl, by walk_at "hp", by assumption, by assumption, rfl, ?_⟩
  | refine ⟨.inl ⟨rfl, _, sqL (by walk_at "hp")⟩, ?_⟩
  | refine ⟨_, _, rfl, .inl (sqL (by walk_at "hp")), ?_⟩
  | refine ⟨_, _, rfl, .inr (sqT (by walk_at "hp")), ?_⟩
  | refine ⟨(_, _), rfl, ?_⟩
  | refine ⟨(_, _, _), rfl, ?_⟩
  | refine ⟨(_, _, _, _), rfl, ?_⟩
  | refine ⟨_, _, rfl, ?_⟩
  | refine ⟨_, _, _, rfl, ?_⟩
  | walk_at "is")
local macro_rules | `(tactic| walk_at "rd") => `(tactic| repeat walk_at "rd1")

local macro_rules | `(tactic| walk_at "ib") => `(tactic| refine .inr ⟨_, rfl, ?_⟩)
local macro_rules | `(tactic| walk_at "ii") => `(tactic| refine .inl ⟨_, rfl, ?_⟩)
section
variable {P : Program} {w : World} {K : PySem.W.Frag} {mg : PySem.Str → Option Value} {base : Heap} {Z : Adr}
def sp_primes_in : Sp := mkSp (fun (n : Int) => [.int n]) (fun n _ => 1 ≤ n ∧ n ≤ 10000) (fun _ H v H' => ∃ l : List Int, NewL (l.map .int) H v H' ∧ ∀ x ∈ l, 2 ≤ x ∧ x ≤ 10000)
abbrev s_primes_in : Stmt := top 35
theorem sc_primes_in : FnScope ["number", "found", "left", "prime"] ["number"] (C8.fnScope s_primes_in) := C8.fnScope_by (by decide +kernel)
theorem c_primes_in (T : Txt P w K mg base Z) : C8.Cal P w K mg base 1 "primes_in" sp_primes_in [] :=
  calD (k := 0) T.d_primes_in sc_primes_in (fun _ _ _ _ _ _ us h => by obtain ⟨_, rfl⟩ := us1 (by exact h); rfl) (fun _ => rfl) (fun cdv f A outer s H0 H Q E a hr pre hq => by
    have S := sc_primes_in
    obtain ⟨h1, h2⟩ := pre
    refine ⟨_, (pss_cons (ps_set (i := 1) S.nd rfl (Or.inl rfl) (pe_lst pa_nil))
  (pss_cons (ps_par (i := 2) (j := 3) rfl S.nd rfl rfl (by decide) rfl rfl (pa_cons (pv 0) (pa_cons pe_int pa_nil)) (by rfl))
  (pss_cons (ps_while PassesOwn.never (pt_cmpR op_le (pv 3) (pv 2) (nomark _)) (C8.pss_cut (ps_if (pt_cmpR op_eq (pe_op op_mod (pv 2) (pv 3)) pe_int (nomark _)) (pss_one (ps_expr (pe_bm PySem.F.plainAttrs_list PySem.F.slot_list_append PySem.F.type_list_append mt_append (pv 1) (pa_cons (pv 3) pa_nil)))) pss_nil)
  (pss_cons (ps_while PassesOwn.never (pt_cmpR op_eq (pe_op op_mod (pv 2) (pv 3)) pe_int (nomark _)) (pss_one (ps_set (i := 2) S.nd rfl (Or.inl rfl) (pe_op op_fdiv (pv 2) (pv 3)))))
  (pss_one (ps_set (i := 3) S.nd rfl (Or.inl rfl) (pe_op op_add (pv 3) pe_int))))))
  (pss_one (ps_ret (pv 1)))))), ?_⟩
    walk_at "rd"
    refine ⟨by walk_at "sz", fun f nf => ?_⟩
    walk_at "rd"
    refine ⟨fun m σ H' => ∃ (l : List Int) (left pr : Int), σ = [some (.int a), some (.ref f), some (.int left), some (.int pr)] ∧ Ex H H' ∧ H' f = some (.lst (l.map .int)) ∧ 1 ≤ left ∧ left ≤ a ∧ 2 ≤ pr ∧ (∀ x ∈ l, 2 ≤ x ∧ x ≤ 10000) ∧ (l.length : Int) ≤ pr - 2 ∧ m = (left + 1 - pr).toNat,
      ⟨_, [], a, 2, rfl, by walk_at "ex", upd_same, h1, by omega, by omega, by simp, by simp, rfl⟩, ?_⟩
    rintro m σ H' ⟨l, left, pr, rfl, e, hf, k1, k2, k3, k4, k5, rfl⟩
    walk_at "rd"
    refine iteD (fun z => ?_) (fun z => ?_)
    · refine ⟨fun σ4 H4 => Hold (∃ (l : List Int) (left' : Int), σ4 = [some (.int a), some (.ref f), some (.int left'), some (.int (pr + 1))] ∧ Ex H H4 ∧ H4 f = some (.lst (l.map .int)) ∧ 1 ≤ left' ∧ left' ≤ left ∧ (∀ x ∈ l, 2 ≤ x ∧ x ≤ 10000) ∧ (l.length : Int) ≤ pr - 1), ?_, ?_⟩
      · intro σ4 H4 hP
        obtain ⟨l', left', rfl, e4, hf4, q1, q2, q3, q4⟩ := hP.out
        exact ⟨_, by show (left' + 1 - (pr + 1)).toNat < (left + 1 - pr).toNat; omega, l', left', pr + 1, rfl, e4, hf4, q1, by omega, by omega, q3, by omega, rfl⟩
      · refine ⟨fun σ4 H4 => Hold (∃ (l : List Int), σ4 = [some (.int a), some (.ref f), some (.int left), some (.int pr)] ∧ Ex H H4 ∧ H4 f = some (.lst (l.map .int)) ∧ (∀ x ∈ l, 2 ≤ x ∧ x ≤ 10000) ∧ (l.length : Int) ≤ pr - 1), ?_, ?_⟩
        · walk_at "rd"
          refine iteD (fun z2 => ?_) (fun z2 => ?_)
          · walk_at "rd"
            refine ⟨_, _, _, rfl, rfl, by walk_at "hp", szlt (by rw [List.length_map]; omega), ?_⟩
            refine .of ⟨l ++ [pr], rfl, by walk_at "ex", ?_, ?_, ?_⟩
            · rw [upd_same, List.map_append]
              rfl
            · intro x hx
              rw [List.mem_append] at hx
              rcases hx with hx | hx
              · exact k4 x hx
              · simp at hx
                omega
            · simp
              omega
          · exact .of ⟨l, rfl, e, hf, k4, by omega⟩
        · intro σ4 H4 hP
          obtain ⟨l', rfl, e4, hf4, q3, q4⟩ := hP.out
          refine ⟨fun m σ H' => ∃ (left' : Int), σ = [some (.int a), some (.ref f), some (.int left'), some (.int pr)] ∧ Ex H H' ∧ H' f = some (.lst (l'.map .int)) ∧ 1 ≤ left' ∧ left' ≤ left ∧ m = left'.toNat, ⟨_, left, rfl, e4, hf4, k1, by omega, rfl⟩, ?_⟩
          rintro m σ H5 ⟨left', rfl, e5, hf5, r1, r2, rfl⟩
          walk_at "rd"
          refine iteD (fun z2 => ?_) (fun z2 => ?_)
          · have z3 : left' % pr = 0 := V.int.inj z2
            have z4 := Int.emod_add_mul_ediv left' pr
            rw [z3] at z4
            have p1 : 1 ≤ left' / pr := by
              rcases Int.lt_or_le 0 (left' / pr) with q | q
              · omega
              · have := Int.mul_nonpos_of_nonneg_of_nonpos (show 0 ≤ pr by omega) q
                omega
            have p2 : left' / pr < left' := by
              have := Int.mul_le_mul_of_nonneg_right (show 2 ≤ pr by omega) (show 0 ≤ left' / pr by omega)
              omega
            refine ⟨fun σ6 H6 => Hold (σ6 = [some (.int a), some (.ref f), some (.int (left' / pr)), some (.int pr)] ∧ H6 = H5), ?_, ?_⟩
            · intro σ6 H6 hP
              obtain ⟨rfl, rfl⟩ := hP.out
              exact ⟨(left' / pr).toNat, by omega, left' / pr, rfl, e5, hf5, p1, by omega, rfl⟩
            · walk_at "rd"
              exact .of ⟨rfl, rfl⟩
          · walk_at "rd"
            exact .of ⟨l', left', rfl, e5, hf5, r1, r2, q3, q4⟩
    · walk_at "rd"
      exact hq _ _ ⟨l, ⟨f, rfl, nf, e, hf⟩, k4⟩)
/-- r is a half that these marks allow -/
def GoodH (M : Int → Prop) (h r : Int) : Prop := 1 ≤ r ∧ r ∣ h ∧ ∀ k, 0 ≤ k → k ≤ 2 * h → (M k ↔ M (fold r k))
def sp_least_half : Sp := mkSp (fun ((h, p, _) : Int × Addr × (Int → Prop)) => [.int h, .ref p]) (fun (h, p, M) H => 1 ≤ h ∧ h ≤ 10000 ∧ H p = some (.lst ((markL M (2 * h + 1).toNat).map .bl))) (fun (h, _, M) H v H' => ∃ r, v = .int r ∧ Ex H H' ∧ GoodH M h r)
abbrev s_least_half : Stmt := top 36
theorem sc_least_half : FnScope ["half", "marks", "found", "prime", "is_less", "smaller"] ["half", "marks"] (C8.fnScope s_least_half) := C8.fnScope_by (by decide +kernel)
theorem c_least_half (T : Txt P w K mg base Z) : C8.Cal P w K mg base 3 "least_half" sp_least_half [] :=
  calD (k := 2) T.d_least_half sc_least_half (fun _ _ _ _ _ _ us h => by obtain ⟨_, _, rfl⟩ := us2 (by exact h); rfl) (fun _ => rfl) (fun cdv f A outer s H0 H Q E a hr pre hq => by
    have S := sc_least_half
    obtain ⟨h, p, M⟩ := a
    obtain ⟨h1, h2, hp⟩ := pre
    have g0 : GoodH M h h := ⟨h1, Int.dvd_refl h, fun k k0 k1 => by rw [fold_id k0 k1 h1]⟩
    refine ⟨_, (pss_cons (ps_set (i := 2) S.nd rfl (Or.inl rfl) (pv 0))
  (pss_cons (ps_for PassesOwn.never rfl (piL (K := K) rfl (C8.pe_c (c_primes_in T) hr (by decide) rfl (pa_cons (pv 0) pa_nil))) (pg_name (i := 3) S.nd rfl (Or.inl rfl)) (pss_cons (ps_set (i := 4) S.nd rfl (Or.inl rfl) pe_bl)
  (pss_one (ps_while PassesOwn.never (PW.pt (pw_and (pt_val (pv 4)) (pw_and1 (pt_cmpR op_eq (pe_op op_mod (pv 2) (pv 3)) pe_int (nomark _))))) (pss_cons (ps_set (i := 5) S.nd rfl (Or.inl rfl) (pe_op op_fdiv (pv 2) (pv 3)))
  (pss_cons (ps_set (i := 4) S.nd rfl (Or.inl rfl) (pe_cmpR (eqD (K := K) rfl hr.units) (C8.pe_c (c_lifted T) hr (by decide) rfl (pa_cons (pv 5) (pa_cons (pe_slice (slL (K := K) rfl) (pv 1) po_none (po_some (pe_op op_add (pe_op op_mul pe_int (pv 5)) pe_int))) (pa_cons (pv 2) pa_nil)))) (pe_slice (slL (K := K) rfl) (pv 1) po_none (po_some (pe_op op_add (pe_op op_mul pe_int (pv 2)) pe_int))) (nomark _)))
  (pss_one (ps_set (i := 2) S.nd rfl (Or.inl rfl) (pe_ifExp (pt_val (pv 4)) (pv 5) (pv 2))))))))))
  (pss_one (ps_ret (pv 2))))), ?_⟩
    walk_at "rd"
    refine ⟨⟨h1, h2⟩, ?_⟩
    rintro v H1 ⟨l, ⟨q, rfl, nq, e1, hl⟩, hpr⟩
    walk_at "rd"
    refine ⟨⟨_, sqL (by walk_at "hp")⟩, ?_⟩
    refine for_it (walk_list (xs := l.map V.int)) (fun i σ H' => Hold (Ex H1 H' ∧ ∃ (fd : Int) (o1 o2 o3 : Option V), σ = [some (.int h), some (.ref p), some (.int fd), o1, o2, o3] ∧ GoodH M h fd)) (.of ⟨Ex.refl _, h, _, _, _, rfl, g0⟩) (fun i σ H' _ hP => sqL (hP.out.1 _ _ hl)) ?_ ?_
    · rintro i x σ H2 H3 hi hP ⟨rfl, hx⟩
      obtain ⟨e2, fd, o1, o2, o3, rfl, gd⟩ := hP.out
      clear hP
      obtain ⟨pr, hpx, rfl⟩ := map_get hx
      have pr2 := hpr pr (List.mem_of_getElem? hpx)
      walk_at "rd"
      refine ⟨fun m σ H' => ∃ (fd : Int) (b : Bool) (o3 : Option V), σ = [some (.int h), some (.ref p), some (.int fd), some (.int pr), some (.bl b), o3] ∧ Ex H1 H' ∧ GoodH M h fd ∧ m = if b = true then fd.toNat + 1 else 0, ⟨_, fd, true, _, rfl, e2, gd, rfl⟩, ?_⟩
      clear gd e2 o3 fd
      rintro m σ H4 ⟨fd, b, o3, rfl, e4, gd, rfl⟩
      cases b with
      | false =>
        walk_at "rd"
        exact .of ⟨e4, fd, _, _, _, rfl, gd⟩
      | true =>
        obtain ⟨f1, f2, f3⟩ := gd
        have f4 : fd ≤ h := Int.le_of_dvd (by omega) f2
        walk_at "rd"
        refine iteD (fun z => ?_) (fun z => ?_)
        · have z3 : fd % pr = 0 := V.int.inj z
          have z4 := Int.emod_add_mul_ediv fd pr
          rw [z3] at z4
          have p1 : 1 ≤ fd / pr := by
            rcases Int.lt_or_le 0 (fd / pr) with q | q
            · omega
            · have := Int.mul_nonpos_of_nonneg_of_nonpos (show 0 ≤ pr by omega) q
              omega
          have p2 : fd / pr < fd := by
            have := Int.mul_le_mul_of_nonneg_right (show 2 ≤ pr by omega) (show 0 ≤ fd / pr by omega)
            omega
          have p3 : fd / pr ∣ fd := ⟨pr, by rw [Int.mul_comm]; omega⟩
          obtain ⟨sm, hsm⟩ : ∃ sm, fd / pr = sm := ⟨_, rfl⟩
          rw [hsm] at p1 p2 p3
          refine ⟨fun σ6 H6 => Hold (∃ (fd' : Int) (b : Bool), σ6 = [some (.int h), some (.ref p), some (.int fd'), some (.int pr), some (.bl b), some (.int sm)] ∧ Ex H1 H6 ∧ GoodH M h fd' ∧ (b = true → fd' < fd)), ?_, ?_⟩
          · intro σ6 H6 hP
            obtain ⟨fd', b, rfl, e6, g6, hb⟩ := hP.out
            refine ⟨if b = true then fd'.toNat + 1 else 0, ?_, fd', b, _, rfl, e6, g6, rfl⟩
            have := g6.1
            cases b with
            | true =>
              have := hb rfl
              show fd'.toNat + 1 < fd.toNat + 1
              omega
            | false =>
              show 0 < fd.toNat + 1
              omega
          · have hp4 : H4 p = some (.lst ((markL M (2 * h + 1).toNat).map .bl)) := e4 _ _ (e1 _ _ hp)
            subst hsm
            walk_at "rd"
            refine ⟨_, _, rfl, sqL hp4, fun c nc => ?_⟩
            have cc : cutV ((markL M (2 * h + 1).toNat).map V.bl) none (some (2 * (fd / pr) + 1)) = (markL M (2 * (fd / pr) + 1).toNat).map V.bl := by
              rw [cut_to (by omega), ← List.map_take, markL_take (by omega)]
            walk_at "rd"
            refine ⟨(fd / pr, c, fd, M, (2 * (fd / pr) + 1).toNat), rfl, ⟨p1, by omega, by omega, by omega, by omega, upd_same.trans (congrArg some (congrArg HO.lst cc))⟩, ?_⟩
            rintro v H5 ⟨u, rfl, nu, e5, hu⟩
            walk_at "rd"
            have hp5 : H5 p = some (.lst ((markL M (2 * h + 1).toNat).map .bl)) := e5 _ _ (upd_old hp4 nc)
            refine ⟨_, _, rfl, sqL hp5, fun c2 nc2 => ?_⟩
            have cc2 : cutV ((markL M (2 * h + 1).toNat).map V.bl) none (some (2 * fd + 1)) = (markL M (2 * fd + 1).toNat).map V.bl := by
              rw [cut_to (by omega), ← List.map_take, markL_take (by omega)]
            refine ⟨_, _, dp_bools (upd_old hu nc2), dp_bools (upd_same.trans (congrArg some (congrArg HO.lst cc2))), shaped_bools _, shaped_bools _, ?_⟩
            rw [eqv_bools]
            have e6 : Ex H1 (upd H5 c2 (.lst (cutV ((markL M (2 * h + 1).toNat).map V.bl) none (some (2 * fd + 1))))) := Ex.new (Ex.trans (Ex.new e4 nc) e5) nc2
            by_cases same : markL (fun k => M (fold (fd / pr) k)) (2 * fd + 1).toNat = markL M (2 * fd + 1).toNat
            · rw [decide_eq_true same]
              walk_at "rd"
              refine .of ⟨fd / pr, true, rfl, e6, ⟨p1, Int.dvd_trans p3 f2, fun k k0 k1 => ?_⟩, fun _ => p2⟩
              have r := fold_rng (h := fd) k f1
              have hk : (fold fd k).toNat < (2 * fd + 1).toNat := by omega
              have g1 := markL_get (M := fun k => M (fold (fd / pr) k)) hk
              rw [same, markL_get hk] at g1
              have g2 := tv_iff (p := M ((fold fd k).toNat : Nat))
              rw [Option.some.inj g1, tv_iff, show (((fold fd k).toNat : Nat) : Int) = fold fd k by omega, fold_fold k p1 p3] at g2
              exact (f3 k k0 k1).trans g2.symm
            · rw [decide_eq_false same]
              walk_at "rd"
              exact .of ⟨fd, false, rfl, e6, ⟨f1, f2, f3⟩, fun z => nomatch z⟩
        · walk_at "rd"
          exact .of ⟨e4, fd, _, _, _, rfl, f1, f2, f3⟩
    · intro σ H' hP
      obtain ⟨e2, fd, o1, o2, o3, rfl, gd⟩ := hP.out
      walk_at "rd"
      exact hq _ _ ⟨fd, rfl, e1.trans e2, gd⟩)
def sp_common_half : Sp := mkSp (fun ((a, b) : Int × Int) => [.int a, .int b]) (fun (a, b) _ => 1 ≤ a ∧ a ≤ 10000 ∧ 1 ≤ b ∧ b ≤ 10000 ∧ lcmL [a, b] ≤ 5040) (fun (a, b) H v H' => v = .int (lcmL [a, b]) ∧ Ex H H')
abbrev s_common_half : Stmt := top 37
theorem sc_common_half : FnScope ["one", "other", "found"] ["one", "other"] (C8.fnScope s_common_half) := C8.fnScope_by (by decide +kernel)
theorem c_common_half (T : Txt P w K mg base Z) : C8.Cal P w K mg base 3 "common_half" sp_common_half [] :=
  calD (k := 2) T.d_common_half sc_common_half (fun _ _ _ _ _ _ us h => by obtain ⟨_, _, rfl⟩ := us2 (by exact h); rfl) (fun _ => rfl) (fun cdv f A outer s H0 H Q E a hr pre hq => by
    have S := sc_common_half
    obtain ⟨a, b⟩ := a
    obtain ⟨a1, a2, b1, b2, hl⟩ := pre
    refine ⟨_, (pss_cons (ps_set (i := 2) S.nd rfl (Or.inl rfl) (C8.pe_c (c_multiple T) hr (by decide) rfl (pa_cons (pe_lst (pa_cons (pv 0) (pa_cons (pv 1) pa_nil))) pa_nil)))
  (pss_cons (ps_if (pt_cmpR op_gt (pv 2) (C8.pe_gc rfl T.g_GREATEST_PATTERN) (nomark _)) (pss_one ps_never) pss_nil)
  (pss_one (ps_ret (pv 2))))), ?_⟩
    walk_at "rd"
    refine ⟨by walk_at "sz", fun q nq => ?_⟩
    refine ⟨(q, [a, b]), rfl, ⟨.inl upd_same, fun n hn => by simp at hn; omega⟩, ?_⟩
    rintro v H' ⟨rfl, rfl⟩
    walk_at "rd"
    refine iteD (fun z => absurd hl (by omega)) (fun z => ?_)
    walk_at "rd"
    exact hq _ _ ⟨rfl, by walk_at "ex"⟩)
end
end Ff
end
section
set_option maxRecDepth 100000
set_option maxHeartbeats 4000000
/-! Pattern. -/
namespace Ff
open PySem PySem.Spec PyProof.Rows L2
local macro_rules | `(tactic| walk_at "ex") => `(tactic| first
  | exact Ex.refl _
  | with_reducible assumption
  | (refine Ex.new ?_ (by with_reducible assumption); walk_at "ex")
  | (refine Ex.mut ?_ (by walk_at "hn"); walk_at "ex")
  | (refine Ex.trans ?_ (by with_reducible assumption); walk_at "ex"))
local macro_rules | `(tactic| walk_at "hn") => `(tactic| first
  | with_reducible assumption
  | exact Ex.back (by with_reducible assumption) (by with_reducible assumption)
  | exact upd_none (by with_reducible assumption)
  | exact upd_none (upd_none (by with_reducible assumption))
  | exact Ex.back (by with_reducible assumption) (upd_none (by with_reducible assumption))
  | exact Ex.back (by with_reducible assumption) (Ex.back (by with_reducible assumption) (by with_reducible assumption)))
local macro_rules | `(tactic| walk_at "hp") => `(tactic| first
  | with_reducible assumption
  | with_reducible exact upd_same
  | (refine Ex.at (by with_reducible assumption) ?_; walk_at "ex")
  | (refine upd_old ?_ (by with_reducible assumption); walk_at "hp")
  | (refine upd_off ?_ (by with_reducible assumption); walk_at "hp"))
local macro_rules | `(tactic| walk_at "sd") => `(tactic| ((try dsimp only [CMul, CDiv, CPow]); first | exact True.intro | omega | (with_reducible assumption)))
local macro_rules | `(tactic| walk_at "sz") => `(tactic| exact Nat.le_of_ble_eq_true rfl)
local macro_rules | `(tactic| walk_at "is") => `(tactic| first
  | refine ⟨_, _, _, _, _, rfl, .ty _, .base (.int _), kt_int, ?_⟩
  | refine ⟨_, _, _, _, _, rfl, .ty _, .base (.int _), kt_intb, ?_⟩
  | refine ⟨_, _, _, _, _, rfl, .ty _, .base (.bl _), kt_bool, ?_⟩
  | refine ⟨_, _, _, _, _, rfl, .ty _, .base (.str _), kt_str, ?_⟩
  | refine ⟨_, _, _, _, _, rfl, .ty _, .base (.tup (by walk_at "hp")), kt_tup, ?_⟩
  | refine ⟨_, _, _, _, _, rfl, .ty _, .base (.dK (by walk_at "hp")), kt_dict, ?_⟩)
local macro_rules | `(tactic| walk_at "rd1") => `(tactic| first
  | refine ⟨_, rfl, ?_⟩
  | refine ⟨_, _, rfl, rfl, And.intro (by walk_at "sd") ?_⟩
  | refine ⟨_, _, rfl, rfl, ?_⟩
  | refine ⟨rfl, ?_⟩
  | refine ⟨_, _, _, _, rfl, rfl, sqT (by walk_at "hp"), rfl, ?_⟩
  | refine ⟨_, _, _, _, rfl, rfl, sqL (by walk_at "hp"), rfl, ?_⟩
  | refine ⟨_, _, rfl, sqT (by walk_at "hp"), rfl, ?_⟩
  | refine ⟨_, _, _, _, _, rfl, by walk_at "hp", by assumption, by assumption, rfl, ?_⟩
  | refine ⟨.inl ⟨rfl, _, sqL (by walk_at "hp")⟩, ?_⟩
  | refine ⟨_, _, rfl, .inl (sqL (by walk_at "hp")), ?_⟩
  | refine ⟨_, _, rfl, .inr (sqT (by walk_at "hp")), ?_⟩
  | refine ⟨(_, _), rfl, ?_⟩
  | refine ⟨(_, _, _), rfl, ?_⟩
  | refine ⟨(_, _, _, _), rfl, ?_⟩
  | refine ⟨_, _, rfl, ?_⟩
  | refine ⟨_, _, _, rfl, ?_⟩
  | walk_at "is")
local macro_rules | `(tactic| walk_at "rd") => `(tactic| repeat walk_at "rd1")

local macro_rules | `(tactic| walk_at "ib") => `(tactic| refine .inr ⟨_, rfl, ?_⟩)
local macro_rules | `(tactic| walk_at "ii") => `(tactic| refine .inl ⟨_, rfl, ?_⟩)
structure PatF (p : Int) (M : Int → Prop) (ps : List Pc) : Prop where
  p1 : 1 ≤ p
  p2 : p ≤ 5040
  ok : ∀ x ∈ ps, PcOk p x
  sp : ∀ k, 0 ≤ k → k ≤ 2 * p → (Span ps k ↔ M k)
  inv : ∀ k, 0 ≤ k → (M k ↔ M (fold p k))
  ln : ps.length ≤ 40000
theorem PatF.span {p : Int} {M : Int → Prop} {ps : List Pc} (f : PatF p M ps) {k : Int} (h : 0 ≤ k) : Span ps (fold p k) ↔ M k := by
  have r := fold_rng (h := p) k f.p1
  exact (f.sp _ r.1 r.2).trans (f.inv k h).symm
theorem PatF.at_mul {p L : Int} {M : Int → Prop} {ps : List Pc} (f : PatF p M ps) (hL : 1 ≤ L) (d : p ∣ L) {k : Int} (h : 0 ≤ k) : M (fold L k) ↔ M k := by
  have r := fold_rng (h := L) k hL
  rw [f.inv _ r.1, fold_fold k f.p1 d]
  exact (f.inv k h).symm
theorem PatF.congr {p : Int} {M N : Int → Prop} {ps : List Pc} (f : PatF p M ps) (h : ∀ k, 0 ≤ k → (M k ↔ N k)) : PatF p N ps :=
  ⟨f.p1, f.p2, f.ok, fun k h0 h1 => (f.sp k h0 h1).trans (h k h0), fun k h0 => (h k h0).symm.trans ((f.inv k h0).trans (h _ (fold_rng k f.p1).1)), f.ln⟩
def patF (p : Int) (t : Addr) : List (PySem.Str × V) := [("p_half", .int p), ("p_pieces", .ref t)]
def PatAt (Z : Adr) (H : Hp) (x : Addr) (p : Int) (M : Int → Prop) : Prop := ∃ dx t vs ps, H x = some (.ins Z.pat dx [("p_half", .int p), ("p_pieces", .ref t)]) ∧ H t = some (.tup vs) ∧ PcsAt H vs ps ∧ PatF p M ps
theorem PatAt.ex {Z : Adr} {H H' : Hp} {x : Addr} {p : Int} {M : Int → Prop} (h : PatAt Z H x p M) (e : Ex H H') : PatAt Z H' x p M := by
  obtain ⟨dx, t, vs, ps, h1, h2, h3, h4⟩ := h
  exact ⟨dx, t, vs, ps, e _ _ h1, e _ _ h2, h3.ex e, h4⟩
theorem PatAt.congr {Z : Adr} {H : Hp} {x : Addr} {p : Int} {M N : Int → Prop} (h : PatAt Z H x p M) (c : ∀ k, 0 ≤ k → (M k ↔ N k)) : PatAt Z H x p N := by
  obtain ⟨dx, t, vs, ps, h1, h2, h3, h4⟩ := h
  exact ⟨dx, t, vs, ps, h1, h2, h3, h4.congr c⟩
section
variable {P : Program} {w : World} {K : PySem.W.Frag} {mg : PySem.Str → Option Value} {base : Heap} {Z : Adr}
def sp_Pattern_half (Z : Adr) : Sp := mkSp (fun ((x, _) : Addr × Int × (Int → Prop)) => [.ref x]) (fun (x, p, M) H => PatAt Z H x p M) (fun (_, p, _) H v H' => v = .int p ∧ H' = H)
abbrev s_Pattern_half : Stmt := inClass (top 40) 1
theorem sc_Pattern_half : FnScope ["self"] ["self"] (C8.fnScope s_Pattern_half) := C8.fnScope_by (by decide +kernel)
theorem c_Pattern_half (T : Txt P w K mg base Z) : Pro P w K mg base 1 Z.pat "half" (sp_Pattern_half Z) :=
  proD (k := 0) T.p_Pattern_half sc_Pattern_half (fun _ _ _ _ _ _ us h => by obtain ⟨_, rfl⟩ := us1 (by exact h); rfl) (fun _ => rfl) (fun cdv f A outer s H0 H Q E a hr pre hq => by
    have S := sc_Pattern_half
    obtain ⟨x, p, M⟩ := a
    obtain ⟨dx, t, vs, ps, hx, ht, hv, hf⟩ := pre
    have c1 := T.cl_Pattern
    have c2 := T.na_p_half
    refine ⟨_, (pss_one (ps_ret (fldK (K := K) rfl (pv 0) rfl))), ?_⟩
    walk_at "rd"
    exact hq _ _ ⟨rfl, rfl⟩)
def sp_Pattern_pieces (Z : Adr) : Sp := mkSp (fun ((x, _) : Addr × Int × (Int → Prop)) => [.ref x]) (fun (x, p, M) H => PatAt Z H x p M) (fun (_, p, M) H v H' => ∃ t vs ps, v = .ref t ∧ H' = H ∧ H t = some (.tup vs) ∧ PcsAt H vs ps ∧ PatF p M ps)
abbrev s_Pattern_pieces : Stmt := inClass (top 40) 2
theorem sc_Pattern_pieces : FnScope ["self"] ["self"] (C8.fnScope s_Pattern_pieces) := C8.fnScope_by (by decide +kernel)
theorem c_Pattern_pieces (T : Txt P w K mg base Z) : Pro P w K mg base 1 Z.pat "pieces" (sp_Pattern_pieces Z) :=
  proD (k := 0) T.p_Pattern_pieces sc_Pattern_pieces (fun _ _ _ _ _ _ us h => by obtain ⟨_, rfl⟩ := us1 (by exact h); rfl) (fun _ => rfl) (fun cdv f A outer s H0 H Q E a hr pre hq => by
    have S := sc_Pattern_pieces
    obtain ⟨x, p, M⟩ := a
    obtain ⟨dx, t, vs, ps, hx, ht, hv, hf⟩ := pre
    have c1 := T.cl_Pattern
    have c2 := T.na_p_pieces
    refine ⟨_, (pss_one (ps_ret (fldK (K := K) rfl (pv 0) rfl))), ?_⟩
    walk_at "rd"
    exact hq _ _ ⟨t, vs, ps, rfl, rfl, ht, hv, hf⟩)
/-- __init__: H1 the heap before the instance was laid -/
def sp_Pattern_init (Z : Adr) : Sp := mkSp (fun ((_, x, _, h, l, _) : Hp × Addr × Addr × Int × Addr × List V × List Pc) => [.ref x, .int h, .ref l])
  (fun (H1, x, dx, h, l, vs, ps) H => H1 x = none ∧ H1 dx = none ∧ dx ≠ x ∧ H = upd (upd H1 dx (.own x)) x (.ins Z.pat dx []) ∧ 1 ≤ h ∧ h ≤ 5040 ∧ H1 l = some (.lst vs) ∧ PcsAt H1 vs ps ∧ (∀ x ∈ ps, PcOk h x) ∧ ps.length ≤ 40000)
  (fun (H1, x, _, h, _, _, ps) H v H' => v = .non ∧ Ex H1 H' ∧ ∃ r, r ∣ h ∧ PatAt Z H' x r (fun k => Span ps (fold h k)))
abbrev s_Pattern_init : Stmt := inClass (top 40) 0
theorem sc_Pattern_init : FnScope ["self", "half", "pieces", "marks"] ["self", "half", "pieces"] (C8.fnScope s_Pattern_init) := C8.fnScope_by (by decide +kernel)
theorem k_Pattern (T : Txt P w K mg base Z) : C8.Mak P w K mg base 5 "Pattern" Z.pat (sp_Pattern_init Z) [] :=
  makD (k := 4) T.k_Pattern sc_Pattern_init (fun _ _ _ _ _ _ us h => by obtain ⟨_, _, _, rfl⟩ := us3 (by exact h); rfl) (fun _ => rfl) (fun cdv f A outer s H0 H Q E a hr pre hq => by
    have S := sc_Pattern_init
    obtain ⟨H1, x, dx, h, l, vs, ps⟩ := a
    obtain ⟨nx, nd, dne, rfl, h1, h2, hl, hv, ok, ln⟩ := pre
    obtain ⟨B, hB⟩ : ∃ B, upd (upd H1 dx (.own x)) x (.ins Z.pat dx []) = B := ⟨_, rfl⟩
    have eB : Ex H1 B := by rw [← hB]; exact ((Ex.refl _).mut nd).mut nx
    have hx : B x = some (.ins Z.pat dx []) := by rw [← hB]; exact upd_same
    rw [hB]
    have c1 := T.cl_Pattern
    have c2 := T.na_p_half
    have c3 := T.na_p_pieces
    refine ⟨_, (pss_cons (ps_if (pt_not (pt_val (C8.pe_c (c_is_between T) hr (by decide) rfl (pa_cons (pv 1) (pa_cons pe_int (pa_cons (C8.pe_gc rfl T.g_GREATEST_PATTERN) pa_nil)))))) (pss_one ps_never) pss_nil)
  (pss_cons (ps_expr (C8.pe_c (c_need_pieces T) hr (by decide) rfl (pa_cons (pv 1) (pa_cons (pv 2) pa_nil))))
  (pss_cons (ps_set (i := 3) S.nd rfl (Or.inl rfl) (C8.pe_c (c_marks_of T) hr (by decide) rfl (pa_cons (pv 1) (pa_cons (pv 2) pa_nil))))
  (pss_cons (ps_fld (pv 0) (C8.pe_c (c_least_half T) hr (by decide) rfl (pa_cons (pv 1) (pa_cons (pv 3) pa_nil))) rfl)
  (pss_one (ps_fld (pv 0) (pe_callTy (tupO (K := K) rfl) (by rfl) T.n_tuple (by decide +kernel) (pa_cons (C8.pe_c (c_pieces_in T) hr (by decide) rfl (pa_cons (pe_slice (slL (K := K) rfl) (pv 3) po_none (po_some (pe_op op_add (pe_op op_mul pe_int (fldK (K := K) rfl (pv 0) rfl)) pe_int))) pa_nil)) pa_nil)) rfl)))))), ?_⟩
    walk_at "rd"
    refine ⟨trivial, ?_⟩
    rintro v H' ⟨rfl, rfl⟩
    rw [decide_eq_true (show 1 ≤ h ∧ h ≤ 5040 from ⟨h1, h2⟩)]
    walk_at "rd"
    refine ⟨(h, l, vs, ps), rfl, ⟨eB _ _ hl, hv.ex eB, ok⟩, ?_⟩
    rintro v H2 ⟨rfl, e2⟩
    walk_at "rd"
    refine ⟨(h, l, vs, ps), rfl, ⟨h1, by omega, .inl (e2 _ _ (eB _ _ hl)), hv.ex (eB.trans e2), by omega⟩, ?_⟩
    rintro v H3 ⟨m, rfl, nm, e3, hm⟩
    walk_at "rd"
    refine ⟨(h, m, Span ps), rfl, ⟨h1, by omega, hm⟩, ?_⟩
    rintro v H4 ⟨r, rfl, e4, r1, r2, r3⟩
    have hx4 : H4 x = some (.ins Z.pat dx []) := e4 _ _ (e3 _ _ (e2 _ _ hx))
    have rh : r ≤ h := Int.le_of_dvd (by omega) r2
    walk_at "rd"
    refine ⟨_, _, _, _, rfl, hx4, c1, c2, by walk_at "sz", ?_⟩
    have e14 : Ex H1 (upd H4 x (.ins Z.pat dx [("p_half", .int r)])) := (((eB.trans e2).trans e3).trans e4).mut nx
    have hm4 : upd H4 x (.ins Z.pat dx [("p_half", .int r)]) m = some (.lst ((markL (Span ps) (2 * h + 1).toNat).map .bl)) := upd_off (e4 _ _ hm) (ne_of (e4 _ _ hm) hx4 (fun z => nomatch z))
    obtain ⟨H5, hH5⟩ : ∃ H5, upd H4 x (.ins Z.pat dx (putF "p_half" (.int r) [])) = H5 := ⟨_, rfl⟩
    have e14 : Ex H1 H5 := by rw [← hH5]; exact e14
    have hm5 : H5 m = some (.lst ((markL (Span ps) (2 * h + 1).toNat).map .bl)) := by rw [← hH5]; exact hm4
    have hx5 : H5 x = some (.ins Z.pat dx [("p_half", .int r)]) := by rw [← hH5]; exact upd_same
    rw [hH5]
    walk_at "rd"
    refine ⟨_, _, rfl, sqL hm5, fun c nc => ?_⟩
    have cc : cutV ((markL (Span ps) (2 * h + 1).toNat).map V.bl) none (some (2 * r + 1)) = (markL (Span ps) (2 * r + 1).toNat).map V.bl := by
      rw [cut_to (by omega), ← List.map_take, markL_take (by omega)]
    walk_at "rd"
    refine ⟨(c, Span ps, (2 * r + 1).toNat), rfl, ⟨upd_same.trans (congrArg some (congrArg HO.lst cc)), by omega⟩, ?_⟩
    rintro v H6 ⟨q, vs2, ps2, rfl, nq, e6, hq6, hv6, sp6, ok6, ln6⟩
    have hx6 : H6 x = some (.ins Z.pat dx [("p_half", .int r)]) := e6 _ _ (upd_old hx5 nc)
    walk_at "rd"
    refine ⟨_, _, rfl, .inl ⟨sqL hq6, fun t nt => ?_⟩⟩
    walk_at "rd"
    refine ⟨_, _, _, _, rfl, upd_old hx6 nt, c1, c3, by walk_at "sz", ?_⟩
    have tx : t ≠ x := (ne_of_none hx6 nt).symm
    refine hq _ _ ⟨rfl, ((((e14.new nc).trans e6).new nt).mut nx), r, r2, dx, t, vs2, ps2, upd_same, upd_off upd_same tx, ?_, ?_⟩
    · refine paired_map (fun _ _ q => ?_) hv6
      obtain ⟨p, e, hp⟩ := q
      refine ⟨p, e, upd_off (upd_old hp nt) fun z => ?_⟩
      rw [z, hx6] at hp
      cases hp
    · refine ⟨r1, by omega, fun y hy => ?_, fun k k0 k1 => ?_, fun k k0 => ?_, by omega⟩
      · obtain ⟨a, z, rfl, q1, q2, q3⟩ := ok6 y hy
        exact pcOf_ok q1 q2 (by omega)
      · rw [fold_id k0 (by omega) h1, sp6]
        exact ⟨fun q => q.2.2, fun q => ⟨k0, by omega, q⟩⟩
      · have f1 := fold_rng (h := h) k h1
        have f2 := fold_rng (h := r) k r1
        rw [r3 _ f1.1 f1.2, fold_fold k r1 r2, fold_id f2.1 (by omega) h1])
/-- the pairs of two patterns' marks -/
def PairsR (M N : Int → Prop) : Nat → V → Hp → Prop := fun k t H => ∃ u, t = .ref u ∧ H u = some (.tup [.bl (tv (M k)), .bl (tv (N k))])
def sp_pairs_at (Z : Adr) : Sp := mkSp (fun ((x, y, _) : Addr × Addr × Int × Int × (Int → Prop) × (Int → Prop)) => [.ref x, .ref y]) (fun (x, y, p, q, M, N) H => PatAt Z H x p M ∧ PatAt Z H y q N ∧ lcmL [p, q] ≤ 5040)
  (fun (_, _, p, q, M, N) H v H' => ∃ t l ts, v = .ref t ∧ Ex H H' ∧ H' t = some (.tup [.int (lcmL [p, q]), .ref l]) ∧ H' l = some (.lst ts) ∧ Paired (fun k t => PairsR M N k t H') (List.range (2 * lcmL [p, q] + 1).toNat) ts)
theorem pairs_zip {M N : Int → Prop} {H : Hp} : ∀ (ks : List Nat) (ts : List V), Paired (fun t z => ∃ q, t = V.ref q ∧ H q = some (.tup [z.1, z.2])) ts ((ks.map fun (k : Nat) => V.bl (tv (M (k : Int)))).zip (ks.map fun (k : Nat) => V.bl (tv (N (k : Int))))) → Paired (fun k t => PairsR M N k t H) ks ts
  | [], ts, h => by
    cases h
    exact .nil
  | k :: ks, ts, h => by
    cases h with
    | cons r t => exact .cons r (pairs_zip ks _ t)
abbrev s_pairs_at : Stmt := top 38
theorem sc_pairs_at : FnScope ["one", "other", "half", "here"] ["one", "other"] (C8.fnScope s_pairs_at) := C8.fnScope_by (by decide +kernel)
theorem c_pairs_at (T : Txt P w K mg base Z) : C8.Cal P w K mg base 4 "pairs_at" (sp_pairs_at Z) [] :=
  calD (k := 3) T.d_pairs_at sc_pairs_at (fun _ _ _ _ _ _ us h => by obtain ⟨_, _, rfl⟩ := us2 (by exact h); rfl) (fun _ => rfl) (fun cdv f A outer s H0 H Q E a hr pre hq => by
    have S := sc_pairs_at
    obtain ⟨x, y, p, q, M, N⟩ := a
    obtain ⟨hx, hy, hl⟩ := pre
    have hfx : ∃ ps, PatF p M ps := by obtain ⟨_, _, _, ps, _, _, _, h⟩ := hx; exact ⟨ps, h⟩
    have hfy : ∃ ps, PatF q N ps := by obtain ⟨_, _, _, ps, _, _, _, h⟩ := hy; exact ⟨ps, h⟩
    have px : 1 ≤ p ∧ p ≤ 5040 := by obtain ⟨ps, h⟩ := hfx; exact ⟨h.p1, h.p2⟩
    have py : 1 ≤ q ∧ q ≤ 5040 := by obtain ⟨ps, h⟩ := hfy; exact ⟨h.p1, h.p2⟩
    have ge := lcmL_ge (l := [p, q]) (by simp; omega)
    have dx := lcmL_dvd (l := [p, q]) (x := p) (by simp)
    have dy := lcmL_dvd (l := [p, q]) (x := q) (by simp)
    obtain ⟨L, hL⟩ : ∃ L, lcmL [p, q] = L := ⟨_, rfl⟩
    have ins : ∀ {H x p M}, PatAt Z H x p M → ∃ dx fs, H x = some (.ins Z.pat dx fs) := fun h => by obtain ⟨dx, t, _, _, h, _⟩ := h; exact ⟨_, _, h⟩
    rw [hL] at hl ge dx dy
    refine ⟨_, (pss_cons (ps_set (i := 2) S.nd rfl (Or.inl rfl) (C8.pe_c (c_common_half T) hr (by decide) rfl (pa_cons (pe_pr (c_Pattern_half T) hr (by decide) (pv 0)) (pa_cons (pe_pr (c_Pattern_half T) hr (by decide) (pv 1)) pa_nil))))
  (pss_cons (ps_set (i := 3) S.nd rfl (Or.inl rfl) (C8.pe_c (c_lifted T) hr (by decide) rfl (pa_cons (pe_pr (c_Pattern_half T) hr (by decide) (pv 0)) (pa_cons (C8.pe_c (c_marks_of T) hr (by decide) rfl (pa_cons (pe_pr (c_Pattern_half T) hr (by decide) (pv 0)) (pa_cons (pe_pr (c_Pattern_pieces T) hr (by decide) (pv 0)) pa_nil))) (pa_cons (pv 2) pa_nil)))))
  (pss_one (ps_ret (pe_tup (pa_cons (pv 2) (pa_cons (pe_listZip (K := K) rfl rfl (by rfl) T.n_list (by rfl) T.n_zip (pa_cons (pv 3) (pa_cons (C8.pe_c (c_lifted T) hr (by decide) rfl (pa_cons (pe_pr (c_Pattern_half T) hr (by decide) (pv 1)) (pa_cons (C8.pe_c (c_marks_of T) hr (by decide) rfl (pa_cons (pe_pr (c_Pattern_half T) hr (by decide) (pv 1)) (pa_cons (pe_pr (c_Pattern_pieces T) hr (by decide) (pv 1)) pa_nil))) (pa_cons (pv 2) pa_nil)))) pa_nil))) pa_nil))))))), ?_⟩
    obtain ⟨d1, f1, i1⟩ := ins hx
    obtain ⟨d2, f2, i2⟩ := ins hy
    walk_at "rd"
    refine ⟨_, _, _, rfl, i1, (x, p, M), rfl, hx, ?_⟩
    rintro v H' ⟨rfl, rfl⟩
    walk_at "rd"
    refine ⟨_, _, _, rfl, i2, (y, q, N), rfl, hy, ?_⟩
    rintro v H' ⟨rfl, rfl⟩
    walk_at "rd"
    refine ⟨⟨px.1, by omega, py.1, by omega, by rw [hL]; exact hl⟩, ?_⟩
    rintro v H1 ⟨rv, e1⟩
    rw [hL] at rv
    subst rv
    walk_at "rd"
    refine ⟨_, _, _, rfl, e1 _ _ i1, (x, p, M), rfl, hx.ex e1, ?_⟩
    rintro v H' ⟨rfl, rfl⟩
    walk_at "rd"
    refine ⟨_, _, _, rfl, e1 _ _ i1, (x, p, M), rfl, hx.ex e1, ?_⟩
    rintro v H' ⟨rfl, rfl⟩
    walk_at "rd"
    refine ⟨_, _, _, rfl, e1 _ _ i1, (x, p, M), rfl, hx.ex e1, ?_⟩
    rintro v H' ⟨t, vs, ps, rfl, rfl, ht, hv, pf⟩
    walk_at "rd"
    refine ⟨(p, t, vs, ps), rfl, ⟨px.1, by omega, .inr ht, hv, by have := pf.ln; omega⟩, ?_⟩
    rintro v H2 ⟨m, rfl, nm, e2, hm⟩
    walk_at "rd"
    refine ⟨(p, m, L, Span ps, (2 * p + 1).toNat), rfl, ⟨px.1, by omega, by omega, by omega, by omega, hm⟩, ?_⟩
    rintro v H3 ⟨a, rfl, na, e3, ha⟩
    rw [markL_congr (N := M) fun k _ => pf.span (by omega)] at ha
    have e13 := (e1.trans e2).trans e3
    walk_at "rd"
    have i2' := e13 _ _ i2
    refine ⟨_, _, _, rfl, i2', (y, q, N), rfl, hy.ex e13, ?_⟩
    rintro v H' ⟨rfl, rfl⟩
    walk_at "rd"
    refine ⟨_, _, _, rfl, i2', (y, q, N), rfl, hy.ex e13, ?_⟩
    rintro v H' ⟨rfl, rfl⟩
    walk_at "rd"
    refine ⟨_, _, _, rfl, i2', (y, q, N), rfl, hy.ex e13, ?_⟩
    rintro v H' ⟨t2, vs2, ps2, rfl, rfl, ht2, hv2, pf2⟩
    walk_at "rd"
    refine ⟨(q, t2, vs2, ps2), rfl, ⟨py.1, by omega, .inr ht2, hv2, by have := pf2.ln; omega⟩, ?_⟩
    rintro v H4 ⟨m2, rfl, nm2, e4, hm2⟩
    walk_at "rd"
    refine ⟨(q, m2, L, Span ps2, (2 * q + 1).toNat), rfl, ⟨py.1, by omega, by omega, by omega, by omega, hm2⟩, ?_⟩
    rintro v H5 ⟨b, rfl, nb, e5, hb⟩
    rw [markL_congr (N := N) fun k _ => pf2.span (by omega)] at hb
    have ha5 := e5 _ _ (e4 _ _ ha)
    have e15 := (e13.trans e4).trans e5
    walk_at "rd"
    refine ⟨_, _, _, _, rfl, sqL ha5, sqL hb, by simp [markL_len], by simp [markL_len]; omega, fun l ts H6 nl e6 hl6 hts => ?_⟩
    walk_at "rd"
    refine ⟨by walk_at "sz", fun t nt => ?_⟩
    refine hq _ _ ⟨t, l, ts, rfl, (e15.trans e6).new nt, upd_same.trans (by rw [hL]), upd_old hl6 nt, ?_⟩
    rw [hL]
    rw [map_markL, map_markL] at hts
    exact paired_map (fun _ _ ⟨u, a, b⟩ => ⟨u, a, upd_old b nt⟩) (pairs_zip _ ts hts))
end
end Ff
end
section
set_option maxRecDepth 100000
set_option maxHeartbeats 4000000
/-! What patterns do; what is left by looks. -/
namespace Ff
open PySem PySem.Spec PyProof.Rows L2
local macro_rules | `(tactic| walk_at "ex") => `(tactic| first
  | exact Ex.refl _
  | with_reducible assumption
  | (refine Ex.new ?_ (by with_reducible assumption); walk_at "ex")
  | (refine Ex.mut ?_ (by walk_at "hn"); walk_at "ex")
  | (refine Ex.trans ?_ (by with_reducible assumption); walk_at "ex"))
local macro_rules | `(tactic| walk_at "hn") => `(tactic| first
  | with_reducible assumption
  | exact Ex.back (by with_reducible assumption) (by with_reducible assumption)
  | exact upd_none (by with_reducible assumption)
  | exact upd_none (upd_none (by with_reducible assumption))
  | exact Ex.back (by with_reducible assumption) (upd_none (by with_reducible assumption))
  | exact Ex.back (by with_reducible assumption) (Ex.back (by with_reducible assumption) (by with_reducible assumption)))
local macro_rules | `(tactic| walk_at "hp") => `(tactic| first
  | with_reducible assumption
  | with_reducible exact upd_same
  | (refine Ex.at (by with_reducible assumption) ?_; walk_at "ex")
  | (refine upd_old ?_ (by with_reducible assumption); walk_at "hp")
  | (refine upd_off ?_ (by with_reducible assumption); walk_at "hp"))
local macro_rules | `(tactic| walk_at "sd") => `(tactic| ((try dsimp only [CMul, CDiv, CPow]); first | exact True.intro | omega | (with_reducible assumption)))
local macro_rules | `(tactic| walk_at "sz") => `(tactic| exact Nat.le_of_ble_eq_true rfl)
local macro_rules | `(tactic| walk_at "is") => `(tactic| first
  | refine ⟨_, _, _, _, _, rfl, .ty _, .base (.int _), kt_int, ?_⟩
  | refine ⟨_, _, _, _, _, rfl, .ty _, .base (.int _), kt_intb, ?_⟩
  | refine ⟨_, _, _, _, _, rfl, .ty _, .base (.bl _), kt_bool, ?_⟩
  | refine ⟨_, _, _, _, _, rfl, .ty _, .base (.str _), kt_str, ?_⟩
  | refine ⟨_, _, _, _, _, rfl, .ty _, .base (.tup (by walk_at "hp")), kt_tup, ?_⟩
  | refine ⟨_, _, _, _, _, rfl, .ty _, .base (.dK (by walk_at "hp")), kt_dict, ?_⟩)
local macro_rules | `(tactic| walk_at "rd1") => `(tactic| first
  | refine ⟨_, rfl, ?_⟩
  | refine ⟨_, _, rfl, rfl, And.intro (by walk_at "sd") ?_⟩
  | refine ⟨_, _, rfl, rfl, ?_⟩
  | refine ⟨rfl, ?_⟩
  | refine ⟨_, _, _, _, rfl, rfl, sqT (by walk_at "hp"), rfl, ?_⟩
  | refine ⟨_, _, _, _, rfl, rfl, sqL (by walk_at "hp"), rfl, ?_⟩
  | refine ⟨_, _, rfl, sqT (by walk_at "hp"), rfl, ?_⟩
  | refine ⟨_, _, _, _, _, rfl, by walk_at "hp", by assumption, by assumption, rfl, ?_⟩
  | refine ⟨.inl ⟨rfl, _, sqL (by walk_at "hp")⟩, ?_⟩
  | refine ⟨_, _, rfl, .inl (sqL (by walk_at "hp")), ?_⟩
  | refine ⟨_, _, rfl, .inr (sqT (by walk_at "hp")), ?_⟩
  | refine ⟨(_, _), rfl, ?_⟩
  | refine ⟨(_, _, _), rfl, ?_⟩
  | refine ⟨(_, _, _, _), rfl, ?_⟩
  | refine ⟨_, _, rfl, ?_⟩
  | refine ⟨_, _, _, rfl, ?_⟩
  | walk_at "is")
local macro_rules | `(tactic| walk_at "rd") => `(tactic| repeat walk_at "rd1")

local macro_rules | `(tactic| walk_at "ib") => `(tactic| refine .inr ⟨_, rfl, ?_⟩)
local macro_rules | `(tactic| walk_at "ii") => `(tactic| refine .inl ⟨_, rfl, ?_⟩)
theorem got_list {α : Type} {l : List α} {f : α → V} {ys : List V} {H : Hp} (h : Paired (fun i y => ∃ x, l[i]? = some x ∧ y = f x) (List.range l.length) ys) : ys = l.map f := by
  have hl := paired_len h
  rw [List.length_range] at hl
  apply List.ext_getElem?
  intro i
  by_cases q : i < l.length
  · obtain ⟨y, hy⟩ : ∃ y, ys[i]? = some y := ⟨_, List.getElem?_eq_getElem (by omega)⟩
    obtain ⟨x, hx, e⟩ := paired_get h (range_get q) hy
    rw [hy, List.getElem?_map, hx, e]
    rfl
  · rw [List.getElem?_eq_none_iff.mpr (by omega), List.getElem?_eq_none_iff.mpr (by rw [List.length_map]; omega)]
/-- a new pattern whose half divides L -/
def NewP (Z : Adr) (L : Int) (M : Int → Prop) (H : Hp) (v : V) (H' : Hp) : Prop := ∃ z r, v = .ref z ∧ H z = none ∧ Ex H H' ∧ r ∣ L ∧ PatAt Z H' z r M
section
variable {P : Program} {w : World} {K : PySem.W.Frag} {mg : PySem.Str → Option Value} {base : Heap} {Z : Adr}
def sp_Pattern_contains (Z : Adr) : Sp := mkSp (fun ((x, q, _) : Addr × Addr × Int × Int × Int × (Int → Prop)) => [.ref x, .ref q])
  (fun (x, q, t, b, p, M) H => PatAt Z H x p M ∧ H q = some (.tup [.int t, .int b]) ∧ 0 ≤ t ∧ 1 ≤ b ∧ Int.gcd t b = 1 ∧ b < 2 ^ 29) (fun (_, _, t, b, _, M) H v H' => v = .bl (tv (M (spotR t b))) ∧ Ex H H')
abbrev s_Pattern_contains : Stmt := inClass (top 40) 3
theorem sc_Pattern_contains : FnScope ["self", "x", "spot", "first", "last", "piece"] ["self", "x"] (C8.fnScope s_Pattern_contains) := C8.fnScope_by (by decide +kernel)
theorem c_Pattern_contains (T : Txt P w K mg base Z) : C8.Met P w K mg base 5 Z.pat "__contains__" (sp_Pattern_contains Z) [] :=
  metD (k := 4) T.m_Pattern_contains sc_Pattern_contains (fun _ _ _ _ _ _ us h => by obtain ⟨_, _, rfl⟩ := us2 (by exact h); rfl) (fun _ => rfl) (fun cdv f A outer s H0 H Q E a hr pre hq => by
    have S := sc_Pattern_contains
    obtain ⟨x, q, t, b, p, M⟩ := a
    obtain ⟨⟨dx, tp, vs, ps, hx, ht, hv, pf⟩, hq0, t0, b1, gc, b2⟩ := pre
    have c1 := T.cl_Pattern
    have c2 := T.na_p_half
    have c3 := T.na_p_pieces
    have vl := paired_len hv
    have p1 := pf.p1
    have p2 := pf.p2
    have ln := pf.ln
    refine ⟨_, (pss_cons (ps_if (pt_not (pt_val (C8.pe_c (c_is_speed T) hr (by decide) rfl (pa_cons (pv 1) pa_nil)))) (pss_one (ps_ret pe_bl)) pss_nil)
  (pss_cons (ps_set (i := 2) S.nd rfl (Or.inr rfl) (C8.pe_c (c_spot_of T) hr (by decide) rfl (pa_cons (fldK (K := K) rfl (pv 0) rfl) (pa_cons (pv 1) pa_nil))))
  (pss_one (ps_ret (pe_callB (crAny (K := K) rfl rfl) (by rfl) T.n_any (by decide +kernel) (pa_cons (pe_lc (own := [("first", 3), ("last", 4)]) rfl S.nd (piL (K := K) rfl (pe_lc (own := [("piece", 5)]) rfl S.nd (piT (K := K) rfl (fldK (K := K) rfl (pv 0) rfl)) (blkOk_by (by kernel_rfl)) (fun _ _ _ _ _ => (pg_name (i := 5) S.nd rfl (by first | exact Or.inl rfl | exact Or.inr rfl))) (fun _ _ _ _ _ => pts_nil) (fun _ _ _ _ _ => (C8.pe_c (c_spots_of T) hr (by decide) rfl (pa_cons (pv 5) pa_nil))))) (blkOk_by (by kernel_rfl)) (fun _ _ _ _ _ => (pgT (K := K) (n := 2) rfl (by rfl) (pgs_cons (pg_name (i := 3) S.nd rfl (by first | exact Or.inl rfl | exact Or.inr rfl)) (pgs_cons (pg_name (i := 4) S.nd rfl (by first | exact Or.inl rfl | exact Or.inr rfl)) pgs_nil)))) (fun _ _ _ _ _ => pts_nil) (fun _ _ _ _ _ => (pe_chain op_le op_le (pv 3) (pv 2) (pv 4)))) pa_nil)))))), ?_⟩
    walk_at "rd"
    refine ⟨(q, t, b), rfl, ⟨hq0, t0, b1, gc⟩, ?_⟩
    rintro v H1 ⟨rfl, e1⟩
    walk_at "rd"
    refine ⟨(p, q, t, b), rfl, ⟨p1, by omega, e1 _ _ hq0, t0, b1, b2⟩, ?_⟩
    rintro v H2 ⟨rfl, e2⟩
    have e12 := e1.trans e2
    walk_at "rd"
    refine ⟨⟨_, sqT (by walk_at "hp")⟩, fun D nD => ?_⟩
    refine lcE (walk_tup (xs := vs)) nD (by omega) (fun _ => true) (SpR ps) (fun e ⟨x, t, a, b, c⟩ => ⟨x, t, a, b, e _ _ c⟩) (fun hD ⟨x, t, a, b, c⟩ => ⟨x, t, a, b, upd_off c (ne_of c hD (fun z => nomatch z))⟩) (fun H e => sqT (e _ _ (e12 _ _ ht))) ?_ ?_
    · rintro i y H3 H4 hi e ⟨rfl, hy⟩ S Z hS hZ
      obtain ⟨x, hx⟩ : ∃ x, ps[i]? = some x := ⟨_, List.getElem?_eq_getElem (by omega)⟩
      obtain ⟨t, rfl, ht⟩ := paired_get hv hy hx
      refine ⟨rfl, ?_⟩
      walk_at "rd"
      refine ⟨(t, x), rfl, e _ _ (e12 _ _ ht), ?_⟩
      rintro v H' ⟨u, rfl, nu, e2, hu⟩
      exact hS _ _ e2 rfl ⟨x, u, hx, rfl, hu⟩
    · intro H3 ys e hD got
      unfold Got at got
      rw [range_all, vl] at got
      have yl := paired_len got
      rw [List.length_range] at yl
      walk_at "rd"
      refine ⟨⟨_, sqL hD⟩, fun D2 nD2 => ?_⟩
      refine lcE (walk_list (xs := ys)) nD2 (by omega) (fun _ => true) (fun i y _ => ∃ x, ps[i]? = some x ∧ y = .bl (tv (spL x ≤ fold p (spotR t b) ∧ fold p (spotR t b) ≤ spR x))) (fun _ r => r) (fun _ r => r) (fun H e => sqL (e _ _ hD)) ?_ ?_
      · rintro i y H4 H5 hi e4 ⟨rfl, hy⟩ S Z hS hZ
        obtain ⟨x, u, hx, rfl, hu⟩ := paired_get got (range_get (by omega)) hy
        have hu4 := e4 _ _ hu
        walk_at "rd"
        refine iteD (fun z => ?_) (fun z => ?_)
        · walk_at "rd"
          refine hS _ _ (Ex.refl _) rfl ⟨x, hx, ?_⟩
          rw [← tv_dec]
          simp [z]
        · refine hS _ _ (Ex.refl _) rfl ⟨x, hx, ?_⟩
          rw [← tv_dec]
          simp [z]
      · intro H4 zs e4 hD2 got2
        unfold Got at got2
        rw [range_all, yl.symm] at got2
        have hz := got_list (H := H4) got2
        subst hz
        walk_at "rd"
        refine ⟨_, ps.map (fun x => tv (spL x ≤ fold p (spotR t b) ∧ fold p (spotR t b) ≤ spR x)), rfl, sqL (by rw [hD2, List.map_map]; rfl), ?_⟩
        refine hq _ _ ⟨?_, by walk_at "ex"⟩
        refine congrArg V.bl (tv_of ?_)
        rw [← pf.span (spotR_nonneg t0 b1)]
        unfold Span
        simp [List.any_eq_true, tv_iff])
theorem newP_of {Z : Adr} {H1 H H' : Hp} {L : Int} {z : Addr} {ps : List Pc} {M : Int → Prop} (e : Ex H H1) (nz : H1 z = none) (e' : Ex H1 H') (h : ∃ r, r ∣ L ∧ PatAt Z H' z r (fun k => Span ps (fold L k))) (hL : 1 ≤ L)
    (sp : ∀ k, Span ps k ↔ 0 ≤ k ∧ k < ((2 * L + 1).toNat : Int) ∧ M k) (inv : ∀ k, 0 ≤ k → (M (fold L k) ↔ M k)) : NewP Z L M H (.ref z) H' := by
  obtain ⟨r, hr, hp⟩ := h
  refine ⟨z, r, rfl, e.back nz, e.trans e', hr, hp.congr fun k k0 => ?_⟩
  have f := fold_rng (h := L) k hL
  rw [sp, ← inv k k0]
  exact ⟨fun q => q.2.2, fun q => ⟨f.1, by omega, q⟩⟩
def sp_Pattern_and (Z : Adr) : Sp := mkSp (fun ((x, y, _) : Addr × Addr × Int × Int × (Int → Prop) × (Int → Prop)) => [.ref x, .ref y]) (fun (x, y, p, q, M, N) H => PatAt Z H x p M ∧ PatAt Z H y q N ∧ lcmL [p, q] ≤ 5040)
  (fun (_, _, p, q, M, N) H v H' => NewP Z (lcmL [p, q]) (fun k => M k ∧ N k) H v H')
def sp_Pattern_sub (Z : Adr) : Sp := mkSp (fun ((x, y, _) : Addr × Addr × Int × Int × (Int → Prop) × (Int → Prop)) => [.ref x, .ref y]) (fun (x, y, p, q, M, N) H => PatAt Z H x p M ∧ PatAt Z H y q N ∧ lcmL [p, q] ≤ 5040)
  (fun (_, _, p, q, M, N) H v H' => NewP Z (lcmL [p, q]) (fun k => M k ∧ ¬ N k) H v H')
theorem PatAt.form {Z : Adr} {H : Hp} {x : Addr} {p : Int} {M : Int → Prop} (h : PatAt Z H x p M) : (∃ ps, PatF p M ps) ∧ ∃ dx fs, H x = some (.ins Z.pat dx fs) := by
  obtain ⟨dx, t, _, ps, h, _, _, h4⟩ := h
  exact ⟨⟨ps, h4⟩, _, _, h⟩
theorem lcm_pair {p q : Int} (hp : 1 ≤ p) (hq : 1 ≤ q) : 1 ≤ lcmL [p, q] ∧ p ∣ lcmL [p, q] ∧ q ∣ lcmL [p, q] := ⟨lcmL_ge (by simp; omega), lcmL_dvd (by simp), lcmL_dvd (by simp)⟩
abbrev s_Pattern_and : Stmt := inClass (top 40) 6
theorem sc_Pattern_and : FnScope ["self", "other", "half", "pairs", "here", "there"] ["self", "other"] (C8.fnScope s_Pattern_and) := C8.fnScope_by (by decide +kernel)
theorem c_Pattern_and (T : Txt P w K mg base Z) : C8.Met P w K mg base 7 Z.pat "__and__" (sp_Pattern_and Z) [] :=
  metD (k := 6) T.m_Pattern_and sc_Pattern_and (fun _ _ _ _ _ _ us h => by obtain ⟨_, _, rfl⟩ := us2 (by exact h); rfl) (fun _ => rfl) (fun cdv f A outer s H0 H Q E a hr pre hq => by
    have S := sc_Pattern_and
    obtain ⟨x, y, p, q, M, N⟩ := a
    obtain ⟨hx, hy, hl⟩ := pre
    obtain ⟨⟨ps1, f1⟩, d1, fs1, i1⟩ := hx.form
    obtain ⟨⟨ps2, f2⟩, d2, fs2, i2⟩ := hy.form
    obtain ⟨L1, dp, dq⟩ := lcm_pair f1.p1 f2.p1
    refine ⟨_, (pss_cons (ps_if (pt_not (pt_val (pe_callB (C8.call_isC T.ins_Pattern) (by rfl) T.n_isinstance (by decide +kernel) (pa_cons (pv 1) (pa_cons (C8.pe_gc rfl T.c_Pattern) pa_nil))))) (pss_one ps_never) pss_nil)
  (pss_cons (ps_asg (C8.pe_c (c_pairs_at T) hr (by decide) rfl (pa_cons (pv 0) (pa_cons (pv 1) pa_nil))) (pgT (K := K) (n := 2) rfl (by rfl) (pgs_cons (pg_name (i := 2) S.nd rfl (Or.inl rfl)) (pgs_cons (pg_name (i := 3) S.nd rfl (Or.inl rfl)) pgs_nil))))
  (pss_one (ps_ret (C8.pe_mk (k_Pattern T) hr (by decide) rfl (pa_cons (pv 2) (pa_cons (C8.pe_c (c_pieces_in T) hr (by decide) rfl (pa_cons (pe_lc (own := [("here", 4), ("there", 5)]) rfl S.nd (piL (K := K) rfl (pv 3)) (blkOk_by (by kernel_rfl)) (fun _ _ _ _ _ => (pgT (K := K) (n := 2) rfl (by rfl) (pgs_cons (pg_name (i := 4) S.nd rfl (by first | exact Or.inl rfl | exact Or.inr rfl)) (pgs_cons (pg_name (i := 5) S.nd rfl (by first | exact Or.inl rfl | exact Or.inr rfl)) pgs_nil)))) (fun _ _ _ _ _ => pts_nil) (fun _ _ _ _ _ => (pe_and (pv 4) (pe_one (pv 5))))) pa_nil)) pa_nil))))))), ?_⟩
    walk_at "rd"
    refine ⟨_, _, _, rfl, i2, ?_⟩
    walk_at "rd"
    refine ⟨(x, y, p, q, M, N), rfl, ⟨hx, hy, hl⟩, ?_⟩
    rintro v H1 ⟨t, l, ts, rfl, e1, ht, hl1, hts⟩
    obtain ⟨L, hL⟩ : ∃ L, lcmL [p, q] = L := ⟨_, rfl⟩
    have tl := paired_len hts
    rw [List.length_range] at tl
    have hq : ∀ v H', NewP Z L (fun k => M k ∧ N k) H v H' → Q v H' := by rw [← hL]; exact fun v H' h => hq v H' h
    rw [hL] at hl L1 dp dq hts ht tl
    walk_at "rd"
    refine ⟨⟨_, sqL hl1⟩, fun D nD => ?_⟩
    refine lcE (walk_list (xs := ts)) nD (by omega) (fun _ => true) (fun i y _ => y = .bl (tv (M i ∧ N i))) (fun _ r => r) (fun _ r => r) (fun H e => sqL (e _ _ hl1)) ?_ ?_
    · rintro i y H4 H5 hi e4 ⟨rfl, hy⟩ S Z hS hZ
      obtain ⟨u, rfl, hu⟩ := paired_get hts (range_get (by omega)) hy
      have hu4 := e4 _ _ hu
      walk_at "rd"
      refine iteB (fun z => ?_) (fun z => ?_)
      · walk_at "rd"
        refine hS _ _ (Ex.refl _) rfl ?_
        exact congrArg V.bl (tv_of (by rw [tv_iff]; exact ⟨fun h => ⟨tv_iff.mp z, h⟩, fun h => h.2⟩))
      · refine hS _ _ (Ex.refl _) rfl ?_
        exact congrArg V.bl (tv_false fun h => by rw [tv_true h.1] at z; cases z).symm
    · intro H3 ys e3 hD got
      have hz := got_fn (v := fun (i : Nat) => .bl (tv (M i ∧ N i))) got
      subst hz
      walk_at "rd"
      refine ⟨(D, (fun k => M k ∧ N k), (2 * L + 1).toNat), rfl, ⟨by rw [map_markL, hD, tl], by omega⟩, ?_⟩
      rintro v H6 ⟨q6, vs6, ps6, rfl, nq6, e6, hq6, hv6, sp6, ok6, ln6⟩
      walk_at "rd"
      refine fun z dz nz ndz dne => ?_
      refine ⟨(H6, z, dz, L, q6, vs6, ps6), rfl, ⟨nz, ndz, dne, rfl, L1, hl, hq6, hv6, fun y hy => ?_, by omega⟩, ?_⟩
      · obtain ⟨a, z, rfl, q1, q2, q3⟩ := ok6 y hy
        exact pcOf_ok q1 q2 (by omega)
      · rintro v H7 ⟨rfl, e7, h7⟩
        refine ⟨rfl, ?_⟩
        refine hq _ _ (newP_of (by walk_at "ex") nz e7 h7 L1 sp6 fun k k0 => ?_)
        rw [f1.at_mul L1 dp k0, f2.at_mul L1 dq k0])
end
end Ff
end
section
set_option maxRecDepth 100000
set_option maxHeartbeats 4000000
/-! What patterns do, on. -/
namespace Ff
open PySem PySem.Spec PyProof.Rows L2
local macro_rules | `(tactic| walk_at "ex") => `(tactic| first
  | exact Ex.refl _
  | with_reducible assumption
  | (refine Ex.new ?_ (by with_reducible assumption); walk_at "ex")
  | (refine Ex.mut ?_ (by walk_at "hn"); walk_at "ex")
  | (refine Ex.trans ?_ (by with_reducible assumption); walk_at "ex"))
local macro_rules | `(tactic| walk_at "hn") => `(tactic| first
  | with_reducible assumption
  | exact Ex.back (by with_reducible assumption) (by with_reducible assumption)
  | exact upd_none (by with_reducible assumption)
  | exact upd_none (upd_none (by with_reducible assumption))
  | exact Ex.back (by with_reducible assumption) (upd_none (by with_reducible assumption))
  | exact Ex.back (by with_reducible assumption) (Ex.back (by with_reducible assumption) (by with_reducible assumption)))
local macro_rules | `(tactic| walk_at "hp") => `(tactic| first
  | with_reducible assumption
  | with_reducible exact upd_same
  | (refine Ex.at (by with_reducible assumption) ?_; walk_at "ex")
  | (refine upd_old ?_ (by with_reducible assumption); walk_at "hp")
  | (refine upd_off ?_ (by with_reducible assumption); walk_at "hp"))
local macro_rules | `(tactic| walk_at "sd") => `(tactic| ((try dsimp only [CMul, CDiv, CPow]); first | exact True.intro | omega | (with_reducible assumption)))
local macro_rules | `(tactic| walk_at "sz") => `(tactic| exact Nat.le_of_ble_eq_true rfl)
local macro_rules | `(tactic| walk_at "is") => `(tactic| first
  | refine ⟨_, _, _, _, _, rfl, .ty _, .base (.int _), kt_int, ?_⟩
  | refine ⟨_, _, _, _, _, rfl, .ty _, .base (.int _), kt_intb, ?_⟩
  | refine ⟨_, _, _, _, _, rfl, .ty _, .base (.bl _), kt_bool, ?_⟩
  | refine ⟨_, _, _, _, _, rfl, .ty _, .base (.str _), kt_str, ?_⟩
  | refine ⟨_, _, _, _, _, rfl, .ty _, .base (.tup (by walk_at "hp")), kt_tup, ?_⟩
  | refine ⟨_, _, _, _, _, rfl, .ty _, .base (.dK (by walk_at "hp")), kt_dict, ?_⟩)
local macro_rules | `(tactic| walk_at "rd1") => `(tactic| first
  | refine ⟨_, rfl, ?_⟩
  | refine ⟨_, _, rfl, rfl, And.intro (by walk_at "sd") ?_⟩
  | refine ⟨_, _, rfl, rfl, ?_⟩
  | refine ⟨rfl, ?_⟩
  | refine ⟨_, _, _, _, rfl, rfl, sqT (by walk_at "hp"), rfl, ?_⟩
  | refine ⟨_, _, _, _, rfl, rfl, sqL (by walk_at "hp"), rfl, ?_⟩
  | refine ⟨_, _, rfl, sqT (by walk_at "hp"), rfl, ?_⟩
  | refine ⟨_, _, _, _, _, rfl, by walk_at "hp", by assumption, by assumption, rfl, ?_⟩
  | refine ⟨.inl ⟨rfl, _, sqL (by walk_at "hp")⟩, ?_⟩
  | refine ⟨_, _, rfl, .inl (sqL (by walk_at "hp")), ?_⟩
  | refine ⟨_, _, rfl, .inr (sqT (by walk_at "hp")), ?_⟩
  | refine ⟨(_, _), rfl, ?_⟩
  | refine ⟨(_, _, _), rfl, ?_⟩
  | refine ⟨(_, _, _, _), rfl, ?_⟩
  | refine ⟨_, _, rfl, ?_⟩
  | refine ⟨_, _, _, rfl, ?_⟩
  | walk_at "is")
local macro_rules | `(tactic| walk_at "rd") => `(tactic| repeat walk_at "rd1")

local macro_rules | `(tactic| walk_at "ib") => `(tactic| refine .inr ⟨_, rfl, ?_⟩)
local macro_rules | `(tactic| walk_at "ii") => `(tactic| refine .inl ⟨_, rfl, ?_⟩)
section
variable {P : Program} {w : World} {K : PySem.W.Frag} {mg : PySem.Str → Option Value} {base : Heap} {Z : Adr}
abbrev s_Pattern_sub : Stmt := inClass (top 40) 7
theorem sc_Pattern_sub : FnScope ["self", "other", "half", "pairs", "here", "there"] ["self", "other"] (C8.fnScope s_Pattern_sub) := C8.fnScope_by (by decide +kernel)
theorem c_Pattern_sub (T : Txt P w K mg base Z) : C8.Met P w K mg base 7 Z.pat "__sub__" (sp_Pattern_sub Z) [] :=
  metD (k := 6) T.m_Pattern_sub sc_Pattern_sub (fun _ _ _ _ _ _ us h => by obtain ⟨_, _, rfl⟩ := us2 (by exact h); rfl) (fun _ => rfl) (fun cdv f A outer s H0 H Q E a hr pre hq => by
    have S := sc_Pattern_sub
    obtain ⟨x, y, p, q, M, N⟩ := a
    obtain ⟨hx, hy, hl⟩ := pre
    obtain ⟨⟨ps1, f1⟩, d1, fs1, i1⟩ := hx.form
    obtain ⟨⟨ps2, f2⟩, d2, fs2, i2⟩ := hy.form
    obtain ⟨L1, dp, dq⟩ := lcm_pair f1.p1 f2.p1
    refine ⟨_, (pss_cons (ps_if (pt_not (pt_val (pe_callB (C8.call_isC T.ins_Pattern) (by rfl) T.n_isinstance (by decide +kernel) (pa_cons (pv 1) (pa_cons (C8.pe_gc rfl T.c_Pattern) pa_nil))))) (pss_one ps_never) pss_nil)
  (pss_cons (ps_asg (C8.pe_c (c_pairs_at T) hr (by decide) rfl (pa_cons (pv 0) (pa_cons (pv 1) pa_nil))) (pgT (K := K) (n := 2) rfl (by rfl) (pgs_cons (pg_name (i := 2) S.nd rfl (Or.inl rfl)) (pgs_cons (pg_name (i := 3) S.nd rfl (Or.inl rfl)) pgs_nil))))
  (pss_one (ps_ret (C8.pe_mk (k_Pattern T) hr (by decide) rfl (pa_cons (pv 2) (pa_cons (C8.pe_c (c_pieces_in T) hr (by decide) rfl (pa_cons (pe_lc (own := [("here", 4), ("there", 5)]) rfl S.nd (piL (K := K) rfl (pv 3)) (blkOk_by (by kernel_rfl)) (fun _ _ _ _ _ => (pgT (K := K) (n := 2) rfl (by rfl) (pgs_cons (pg_name (i := 4) S.nd rfl (by first | exact Or.inl rfl | exact Or.inr rfl)) (pgs_cons (pg_name (i := 5) S.nd rfl (by first | exact Or.inl rfl | exact Or.inr rfl)) pgs_nil)))) (fun _ _ _ _ _ => pts_nil) (fun _ _ _ _ _ => (pe_and (pv 4) (pe_one (pe_not (pv 5)))))) pa_nil)) pa_nil))))))), ?_⟩
    walk_at "rd"
    refine ⟨_, _, _, rfl, i2, ?_⟩
    walk_at "rd"
    refine ⟨(x, y, p, q, M, N), rfl, ⟨hx, hy, hl⟩, ?_⟩
    rintro v H1 ⟨t, l, ts, rfl, e1, ht, hl1, hts⟩
    obtain ⟨L, hL⟩ : ∃ L, lcmL [p, q] = L := ⟨_, rfl⟩
    have tl := paired_len hts
    rw [List.length_range] at tl
    have hq : ∀ v H', NewP Z L (fun k => M k ∧ ¬ N k) H v H' → Q v H' := by rw [← hL]; exact fun v H' h => hq v H' h
    rw [hL] at hl L1 dp dq hts ht tl
    walk_at "rd"
    refine ⟨⟨_, sqL hl1⟩, fun D nD => ?_⟩
    refine lcE (walk_list (xs := ts)) nD (by omega) (fun _ => true) (fun i y _ => y = .bl (tv (M i ∧ ¬ N i))) (fun _ r => r) (fun _ r => r) (fun H e => sqL (e _ _ hl1)) ?_ ?_
    · rintro i y H4 H5 hi e4 ⟨rfl, hy⟩ S Z hS hZ
      obtain ⟨u, rfl, hu⟩ := paired_get hts (range_get (by omega)) hy
      have hu4 := e4 _ _ hu
      walk_at "rd"
      refine iteB (fun z => ?_) (fun z => ?_)
      · walk_at "rd"
        refine hS _ _ (Ex.refl _) rfl ?_
        exact congrArg V.bl (tv_of (by rw [Bool.not_eq_true', ← Bool.not_eq_true, tv_iff]; exact ⟨fun h => ⟨tv_iff.mp z, h⟩, fun h => h.2⟩))
      · refine hS _ _ (Ex.refl _) rfl ?_
        exact congrArg V.bl (tv_false fun h => by rw [tv_true h.1] at z; cases z).symm
    · intro H3 ys e3 hD got
      have hz := got_fn (v := fun (i : Nat) => .bl (tv (M i ∧ ¬ N i))) got
      subst hz
      walk_at "rd"
      refine ⟨(D, (fun k => M k ∧ ¬ N k), (2 * L + 1).toNat), rfl, ⟨by rw [map_markL, hD, tl], by omega⟩, ?_⟩
      rintro v H6 ⟨q6, vs6, ps6, rfl, nq6, e6, hq6, hv6, sp6, ok6, ln6⟩
      walk_at "rd"
      refine fun z dz nz ndz dne => ?_
      refine ⟨(H6, z, dz, L, q6, vs6, ps6), rfl, ⟨nz, ndz, dne, rfl, L1, hl, hq6, hv6, fun y hy => ?_, by omega⟩, ?_⟩
      · obtain ⟨a, z, rfl, q1, q2, q3⟩ := ok6 y hy
        exact pcOf_ok q1 q2 (by omega)
      · rintro v H7 ⟨rfl, e7, h7⟩
        refine ⟨rfl, ?_⟩
        refine hq _ _ (newP_of (by walk_at "ex") nz e7 h7 L1 sp6 fun k k0 => ?_)
        rw [f1.at_mul L1 dp k0, f2.at_mul L1 dq k0])

def sp_Pattern_within (Z : Adr) : Sp := mkSp (fun ((x, y, _) : Addr × Addr × Int × Int × (Int → Prop) × (Int → Prop)) => [.ref x, .ref y]) (fun (x, y, p, q, M, N) H => PatAt Z H x p M ∧ PatAt Z H y q N ∧ lcmL [p, q] ≤ 5040)
  (fun (_, _, p, q, M, N) H v H' => v = .bl (tv (∀ k, 0 ≤ k → M k → N k)) ∧ Ex H H')
abbrev s_Pattern_within : Stmt := inClass (top 40) 10
theorem sc_Pattern_within : FnScope ["self", "other", "half", "pairs", "here", "there"] ["self", "other"] (C8.fnScope s_Pattern_within) := C8.fnScope_by (by decide +kernel)
theorem c_Pattern_within (T : Txt P w K mg base Z) : C8.Met P w K mg base 5 Z.pat "within" (sp_Pattern_within Z) [] :=
  metD (k := 4) T.m_Pattern_within sc_Pattern_within (fun _ _ _ _ _ _ us h => by obtain ⟨_, _, rfl⟩ := us2 (by exact h); rfl) (fun _ => rfl) (fun cdv f A outer s H0 H Q E a hr pre hq => by
    have S := sc_Pattern_within
    obtain ⟨x, y, p, q, M, N⟩ := a
    obtain ⟨hx, hy, hl⟩ := pre
    obtain ⟨⟨ps1, f1⟩, d1, fs1, i1⟩ := hx.form
    obtain ⟨⟨ps2, f2⟩, d2, fs2, i2⟩ := hy.form
    obtain ⟨L1, dp, dq⟩ := lcm_pair f1.p1 f2.p1
    refine ⟨_, (pss_cons (ps_asg (C8.pe_c (c_pairs_at T) hr (by decide) rfl (pa_cons (pv 0) (pa_cons (pv 1) pa_nil))) (pgT (K := K) (n := 2) rfl (by rfl) (pgs_cons (pg_name (i := 2) S.nd rfl (Or.inl rfl)) (pgs_cons (pg_name (i := 3) S.nd rfl (Or.inl rfl)) pgs_nil))))
  (pss_one (ps_ret (pe_callB (crAll (K := K) rfl rfl) (by rfl) T.n_all (by decide +kernel) (pa_cons (pe_lc (own := [("here", 4), ("there", 5)]) rfl S.nd (piL (K := K) rfl (pv 3)) (blkOk_by (by kernel_rfl)) (fun _ _ _ _ _ => (pgT (K := K) (n := 2) rfl (by rfl) (pgs_cons (pg_name (i := 4) S.nd rfl (by first | exact Or.inl rfl | exact Or.inr rfl)) (pgs_cons (pg_name (i := 5) S.nd rfl (by first | exact Or.inl rfl | exact Or.inr rfl)) pgs_nil)))) (fun _ _ _ _ _ => pts_nil) (fun _ _ _ _ _ => (pe_or (pv 5) (pe_one (pe_not (pv 4)))))) pa_nil))))), ?_⟩
    walk_at "rd"
    refine ⟨(x, y, p, q, M, N), rfl, ⟨hx, hy, hl⟩, ?_⟩
    rintro v H1 ⟨t, l, ts, rfl, e1, ht, hl1, hts⟩
    obtain ⟨L, hL⟩ : ∃ L, lcmL [p, q] = L := ⟨_, rfl⟩
    have tl := paired_len hts
    rw [List.length_range] at tl
    rw [hL] at hl L1 dp dq hts ht tl
    walk_at "rd"
    refine ⟨⟨_, sqL hl1⟩, fun D nD => ?_⟩
    refine lcE (walk_list (xs := ts)) nD (by omega) (fun _ => true) (fun i y _ => y = .bl (tv (M i → N i))) (fun _ r => r) (fun _ r => r) (fun H e => sqL (e _ _ hl1)) ?_ ?_
    · rintro i y H4 H5 hi e4 ⟨rfl, hy⟩ S Z hS hZ
      obtain ⟨u, rfl, hu⟩ := paired_get hts (range_get (by omega)) hy
      have hu4 := e4 _ _ hu
      walk_at "rd"
      refine iteB (fun z => ?_) (fun z => ?_)
      · refine hS _ _ (Ex.refl _) rfl ?_
        exact congrArg V.bl (tv_true fun _ => tv_iff.mp z).symm
      · walk_at "rd"
        refine hS _ _ (Ex.refl _) rfl ?_
        refine congrArg V.bl (tv_of ?_)
        rw [Bool.not_eq_true', ← Bool.not_eq_true, tv_iff]
        have nz : ¬ N i := fun h => by rw [tv_true h] at z; cases z
        exact ⟨fun h m => absurd m h, fun h m => nz (h m)⟩
    · intro H3 ys e3 hD got
      have hz := got_fn (v := fun (i : Nat) => .bl (tv (M i → N i))) got
      subst hz
      walk_at "rd"
      refine ⟨_, markL (fun k => M k → N k) ts.length, rfl, sqL (by rw [map_markL]; exact hD), ?_⟩
      refine hq _ _ ⟨congrArg V.bl (tv_of ?_), by walk_at "ex"⟩
      rw [List.all_eq_true]
      constructor
      · intro h k k0 m
        have f := fold_rng (h := L) k L1
        have g := markL_get (M := fun k => M k → N k) (n := ts.length) (k := (fold L k).toNat) (by omega)
        have := h _ (List.mem_of_getElem? g)
        have this := tv_iff.mp this
        rw [show (((fold L k).toNat : Nat) : Int) = fold L k by omega, f1.at_mul L1 dp k0, f2.at_mul L1 dq k0] at this
        exact this m
      · intro h b hb
        unfold markL at hb
        obtain ⟨k, hk, rfl⟩ := List.mem_map.mp hb
        exact tv_true (h k (by omega)))
def sp_need_multiple : Sp := mkSp (fun ((p, _) : Addr × List Int) => [.ref p]) (fun (p, ns) H => SeqOf (ns.map .int) H p ∧ (∀ n ∈ ns, 1 ≤ n ∧ n ≤ 10000) ∧ lcmL ns ≤ 5040) (fun (_, ns) H v H' => v = .int (lcmL ns) ∧ H' = H)
abbrev s_need_multiple : Stmt := top 68
theorem sc_need_multiple : FnScope ["halves", "found"] ["halves"] (C8.fnScope s_need_multiple) := C8.fnScope_by (by decide +kernel)
theorem c_need_multiple (T : Txt P w K mg base Z) : C8.Cal P w K mg base 3 "need_multiple" sp_need_multiple [] :=
  calD (k := 2) T.d_need_multiple sc_need_multiple (fun _ _ _ _ _ _ us h => by obtain ⟨_, rfl⟩ := us1 (by exact h); rfl) (fun _ => rfl) (fun cdv f A outer s H0 H Q E a hr pre hq => by
    have S := sc_need_multiple
    obtain ⟨p, ns⟩ := a
    obtain ⟨hp, hn, hl⟩ := pre
    refine ⟨_, (pss_cons (ps_set (i := 1) S.nd rfl (Or.inl rfl) (C8.pe_c (c_multiple T) hr (by decide) rfl (pa_cons (pv 0) pa_nil)))
  (pss_cons (ps_if (pt_cmpR op_gt (pv 1) (C8.pe_gc rfl T.g_GREATEST_PATTERN) (nomark _)) (pss_one ps_never) pss_nil)
  (pss_one (ps_ret (pv 1))))), ?_⟩
    walk_at "rd"
    refine ⟨(p, ns), rfl, ⟨hp, hn⟩, ?_⟩
    rintro v H' ⟨rfl, rfl⟩
    walk_at "rd"
    refine iteD (fun z => absurd hl (by omega)) (fun z => ?_)
    walk_at "rd"
    exact hq _ _ ⟨rfl, rfl⟩)
def sp_need_small : Sp := mkSp (fun ((p, _) : Addr × List Int) => [.ref p]) (fun (p, ns) H => SeqOf (ns.map .int) H p ∧ (∀ n ∈ ns, 1 ≤ n ∧ n ≤ 10000) ∧ lcmL ns ≤ 5040) (fun (_, ns) H v H' => v = .int (lcmL ns) ∧ H' = H)
abbrev s_need_small : Stmt := top 56
theorem sc_need_small : FnScope ["halves", "found"] ["halves"] (C8.fnScope s_need_small) := C8.fnScope_by (by decide +kernel)
theorem c_need_small (T : Txt P w K mg base Z) : C8.Cal P w K mg base 3 "need_small" sp_need_small [] :=
  calD (k := 2) T.d_need_small sc_need_small (fun _ _ _ _ _ _ us h => by obtain ⟨_, rfl⟩ := us1 (by exact h); rfl) (fun _ => rfl) (fun cdv f A outer s H0 H Q E a hr pre hq => by
    have S := sc_need_small
    obtain ⟨p, ns⟩ := a
    obtain ⟨hp, hn, hl⟩ := pre
    refine ⟨_, (pss_cons (ps_set (i := 1) S.nd rfl (Or.inl rfl) (C8.pe_c (c_multiple T) hr (by decide) rfl (pa_cons (pv 0) pa_nil)))
  (pss_cons (ps_if (pt_cmpR op_gt (pv 1) (C8.pe_gc rfl T.g_GREATEST) (nomark _)) (pss_one ps_never) pss_nil)
  (pss_one (ps_ret (pv 1))))), ?_⟩
    walk_at "rd"
    refine ⟨(p, ns), rfl, ⟨hp, hn⟩, ?_⟩
    rintro v H' ⟨rfl, rfl⟩
    walk_at "rd"
    refine iteD (fun z => absurd hl (by omega)) (fun z => ?_)
    walk_at "rd"
    exact hq _ _ ⟨rfl, rfl⟩)
def sp_need_doubt : Sp := mkSp (fun (d : Int) => [.int d]) (fun d _ => 0 ≤ d ∧ d ≤ 1000) (fun _ H v H' => v = .non ∧ H' = H)
abbrev s_need_doubt : Stmt := top 67
theorem sc_need_doubt : FnScope ["doubt"] ["doubt"] (C8.fnScope s_need_doubt) := C8.fnScope_by (by decide +kernel)
theorem c_need_doubt (T : Txt P w K mg base Z) : C8.Cal P w K mg base 3 "need_doubt" sp_need_doubt [] :=
  calD (k := 2) T.d_need_doubt sc_need_doubt (fun _ _ _ _ _ _ us h => by obtain ⟨_, rfl⟩ := us1 (by exact h); rfl) (fun _ => rfl) (fun cdv f A outer s H0 H Q E a hr pre hq => by
    have S := sc_need_doubt
    refine ⟨_, (pss_one (ps_if (pt_not (pt_val (C8.pe_c (c_is_between T) hr (by decide) rfl (pa_cons (pv 0) (pa_cons pe_int (pa_cons (C8.pe_gc rfl T.g_GREATEST_DOUBT) pa_nil)))))) (pss_one ps_never) pss_nil)), ?_⟩
    walk_at "rd"
    refine ⟨trivial, ?_⟩
    rintro v H' ⟨rfl, rfl⟩
    rw [decide_eq_true (show 0 ≤ a ∧ a ≤ 1000 from pre)]
    walk_at "rd"
    exact hq _ _ ⟨rfl, rfl⟩)
def sp_is_look : Sp := mkSp (fun ((p, _) : Addr × Int × Int) => [.ref p]) (fun (p, h, r) H => H p = some (.tup [.int h, .int r]) ∧ 1 ≤ h ∧ h ≤ 1000 ∧ 0 ≤ r ∧ r ≤ h) (fun _ H v H' => v = .bl true ∧ H' = H)
abbrev s_is_look : Stmt := top 64
theorem sc_is_look : FnScope ["thing"] ["thing"] (C8.fnScope s_is_look) := C8.fnScope_by (by decide +kernel)
theorem c_is_look (T : Txt P w K mg base Z) : C8.Cal P w K mg base 4 "is_look" sp_is_look [] :=
  calD (k := 3) T.d_is_look sc_is_look (fun _ _ _ _ _ _ us h => by obtain ⟨_, rfl⟩ := us1 (by exact h); rfl) (fun _ => rfl) (fun cdv f A outer s H0 H Q E a hr pre hq => by
    have S := sc_is_look
    obtain ⟨p, h, r⟩ := a
    obtain ⟨hp, h1, h2, r0, r1⟩ := pre
    refine ⟨_, (pss_cons (ps_if (PW.pt (pw_or (pt_not (pt_val (pe_callB (isI (K := K) rfl) (by rfl) T.n_isinstance (by decide +kernel) (pa_cons (pv 0) (pa_cons (pe_bltn (by rfl) T.n_tuple (by decide +kernel) (v := .ty "tuple") (u := .type "tuple") rfl) pa_nil))))) (pw_or (pt_cmpR op_ne (pe_callB (lenS (K := K) rfl) (by rfl) T.n_len (by decide +kernel) (pa_cons (pv 0) pa_nil)) pe_int (nomark _)) (pw_or1 (pt_not (pt_val (C8.pe_c (c_is_half T) hr (by decide) rfl (pa_cons (pe_ix (ixT (K := K) rfl) (pv 0) pe_int (fun _ _ => rfl)) pa_nil)))))))) (pss_one (ps_ret pe_bl)) pss_nil)
  (pss_one (ps_ret (C8.pe_c (c_is_between T) hr (by decide) rfl (pa_cons (pe_ix (ixT (K := K) rfl) (pv 0) pe_int (fun _ _ => rfl)) (pa_cons pe_int (pa_cons (pe_ix (ixT (K := K) rfl) (pv 0) pe_int (fun _ _ => rfl)) pa_nil))))))), ?_⟩
    walk_at "rd"
    refine ⟨trivial, ?_⟩
    rintro v H' ⟨rfl, rfl⟩
    rw [decide_eq_true (show 1 ≤ h ∧ h ≤ 1000 from ⟨h1, h2⟩)]
    walk_at "rd"
    refine ⟨trivial, ?_⟩
    rintro v H' ⟨rfl, rfl⟩
    refine hq _ _ ⟨?_, rfl⟩
    rw [decide_eq_true (show 0 ≤ r ∧ r ≤ h from ⟨r0, r1⟩)])
def sp_near (Z : Adr) : Sp := mkSp (fun ((h, a, z, d) : Int × Int × Int × Int) => [.int h, .int a, .int z, .int d]) (fun (h, a, z, d) _ => 1 ≤ h ∧ h ≤ 5040) (fun (h, a, z, d) H v H' => NewP Z h (fun k => a - 2 * d ≤ fold h k ∧ fold h k ≤ z + 2 * d) H v H')
abbrev s_near : Stmt := top 69
theorem sc_near : FnScope ["half", "first", "last", "doubt", "low", "high", "spot"] ["half", "first", "last", "doubt"] (C8.fnScope s_near) := C8.fnScope_by (by decide +kernel)
theorem c_near (T : Txt P w K mg base Z) : C8.Cal P w K mg base 7 "near" (sp_near Z) [] :=
  calD (k := 6) T.d_near sc_near (fun _ _ _ _ _ _ us h => by obtain ⟨_, _, _, _, rfl⟩ := us4 (by exact h); rfl) (fun _ => rfl) (fun cdv f A outer s H0 H Q E a hr pre hq => by
    have S := sc_near
    obtain ⟨h, a, z, d⟩ := a
    obtain ⟨h1, h2⟩ := pre
    refine ⟨_, (pss_cons (ps_asg (pe_tup (pa_cons (pe_callB (crMax (K := K) rfl rfl) (by rfl) T.n_max (by decide +kernel) (pa_cons (pe_lst (pa_cons pe_int (pa_cons (pe_op op_sub (pv 1) (pe_op op_mul pe_int (pv 3))) pa_nil))) pa_nil)) (pa_cons (pe_callB (crMin (K := K) rfl rfl) (by rfl) T.n_min (by decide +kernel) (pa_cons (pe_lst (pa_cons (pe_op op_mul pe_int (pv 0)) (pa_cons (pe_op op_add (pv 2) (pe_op op_mul pe_int (pv 3))) pa_nil))) pa_nil)) pa_nil))) (pgT (K := K) (n := 2) rfl (by rfl) (pgs_cons (pg_name (i := 4) S.nd rfl (Or.inr rfl)) (pgs_cons (pg_name (i := 5) S.nd rfl (Or.inr rfl)) pgs_nil))))
  (pss_one (ps_ret (C8.pe_mk (k_Pattern T) hr (by decide) rfl (pa_cons (pv 0) (pa_cons (C8.pe_c (c_pieces_in T) hr (by decide) rfl (pa_cons (pe_lc (own := [("spot", 6)]) rfl S.nd (pi_range1 (by rfl) T.n_range (pa_cons (pe_op op_add (pe_op op_mul pe_int (pv 0)) pe_int) pa_nil)) (blkOk_by (by kernel_rfl)) (fun _ _ _ _ _ => (pg_name (i := 6) S.nd rfl (by first | exact Or.inl rfl | exact Or.inr rfl))) (fun _ _ _ _ _ => pts_nil) (fun _ _ _ _ _ => (pe_chain op_le op_le (pv 4) (pv 6) (pv 5)))) pa_nil)) pa_nil)))))), ?_⟩
    walk_at "rd"
    refine ⟨by walk_at "sz", fun p1 n1 => ?_⟩
    refine ⟨_, [_, _], rfl, sqL upd_same, Nat.zero_lt_succ _, fun m m1 m2 => ?_⟩
    have hm := max2_of m1 m2
    subst hm
    walk_at "rd"
    refine ⟨by walk_at "sz", fun p2 n2 => ?_⟩
    refine ⟨_, [_, _], rfl, sqL upd_same, Nat.zero_lt_succ _, fun m m1 m2 => ?_⟩
    have hm := min2_of m1 m2
    subst hm
    walk_at "rd"
    refine ⟨by walk_at "sz", fun p3 n3 => ?_⟩
    walk_at "rd"
    refine ⟨by omega, by omega, fun D nD => ?_⟩
    refine lcE (walk_r0 (n := (2 * h + 1).toNat)) nD (by omega) (fun _ => true) (fun i y _ => y = .bl (tv (a - 2 * d ≤ (i : Int) ∧ (i : Int) ≤ z + 2 * d))) (fun _ r => r) (fun _ r => r) (fun H e => trivial) ?_ ?_
    · rintro i y H4 H5 hi e4 ⟨rfl, rfl⟩ S Z hS hZ
      walk_at "rd"
      refine iteD (fun q => ?_) (fun q => ?_)
      · walk_at "rd"
        refine hS _ _ (Ex.refl _) rfl ?_
        refine congrArg V.bl (tv_of ?_)
        rw [decide_eq_true_eq]
        omega
      · refine hS _ _ (Ex.refl _) rfl ?_
        exact congrArg V.bl (tv_false (by omega)).symm
    · intro H3 ys e3 hD got
      have hz := got_fn (v := fun (i : Nat) => .bl (tv (a - 2 * d ≤ (i : Int) ∧ (i : Int) ≤ z + 2 * d))) got
      subst hz
      walk_at "rd"
      refine ⟨(D, (fun k => a - 2 * d ≤ k ∧ k ≤ z + 2 * d), (2 * h + 1).toNat), rfl, ⟨by rw [map_markL, hD], by omega⟩, ?_⟩
      rintro v H6 ⟨q6, vs6, ps6, rfl, nq6, e6, hq6, hv6, sp6, ok6, ln6⟩
      walk_at "rd"
      refine fun z dz nz ndz dne => ?_
      refine ⟨(H6, z, dz, h, q6, vs6, ps6), rfl, ⟨nz, ndz, dne, rfl, h1, h2, hq6, hv6, fun y hy => ?_, by omega⟩, ?_⟩
      · obtain ⟨a, z, rfl, q1, q2, q3⟩ := ok6 y hy
        exact pcOf_ok q1 q2 (by omega)
      · rintro v H7 ⟨rfl, e7, r, hr, h7⟩
        have e36 : Ex H H6 := by walk_at "ex"
        refine ⟨rfl, hq _ _ ⟨z, r, rfl, e36.back nz, e36.trans e7, hr, h7.congr fun k k0 => ?_⟩⟩
        have f := fold_rng (h := h) k h1
        rw [sp6]
        exact ⟨fun q => q.2.2, fun q => ⟨f.1, by omega, q⟩⟩)
end
end Ff
end
section
set_option maxRecDepth 100000
set_option maxHeartbeats 4000000
/-! left_by. -/
namespace Ff
open PySem PySem.Spec PyProof.Rows L2
local macro_rules | `(tactic| walk_at "ex") => `(tactic| first
  | exact Ex.refl _
  | with_reducible assumption
  | (refine Ex.new ?_ (by with_reducible assumption); walk_at "ex")
  | (refine Ex.mut ?_ (by walk_at "hn"); walk_at "ex")
  | (refine Ex.trans ?_ (by with_reducible assumption); walk_at "ex"))
local macro_rules | `(tactic| walk_at "hn") => `(tactic| first
  | with_reducible assumption
  | exact Ex.back (by with_reducible assumption) (by with_reducible assumption)
  | exact upd_none (by with_reducible assumption)
  | exact upd_none (upd_none (by with_reducible assumption))
  | exact Ex.back (by with_reducible assumption) (upd_none (by with_reducible assumption))
  | exact Ex.back (by with_reducible assumption) (Ex.back (by with_reducible assumption) (by with_reducible assumption)))
local macro_rules | `(tactic| walk_at "hp") => `(tactic| first
  | with_reducible assumption
  | with_reducible exact upd_same
  | (refine Ex.at (by with_reducible assumption) ?_; walk_at "ex")
  | (refine upd_old ?_ (by with_reducible assumption); walk_at "hp")
  | (refine upd_off ?_ (by with_reducible assumption); walk_at "hp"))
local macro_rules | `(tactic| walk_at "sd") => `(tactic| ((try dsimp only [CMul, CDiv, CPow]); first | exact True.intro | omega | (with_reducible assumption)))
local macro_rules | `(tactic| walk_at "sz") => `(tactic| exact Nat.le_of_ble_eq_true rfl)
local macro_rules | `(tactic| walk_at "is") => `(tactic| first
  | refine ⟨_, _, _, _, _, rfl, .ty _, .base (.int _), kt_int, ?_⟩
  | refine ⟨_, _, _, _, _, rfl, .ty _, .base (.int _), kt_intb, ?_⟩
  | refine ⟨_, _, _, _, _, rfl, .ty _, .base (.bl _), kt_bool, ?_⟩
  | refine ⟨_, _, _, _, _, rfl, .ty _, .base (.str _), kt_str, ?_⟩
  | refine ⟨_, _, _, _, _, rfl, .ty _, .base (.tup (by walk_at "hp")), kt_tup, ?_⟩
  | refine ⟨_, _, _, _, _, rfl, .ty _, .base (.dK (by walk_at "hp")), kt_dict, ?_⟩)
local macro_rules | `(tactic| walk_at "rd1") => `(tactic| first
  | refine ⟨_, rfl, ?_⟩
  | refine ⟨_, _, rfl, rfl, And.intro (by walk_at "sd") ?_⟩
  | refine ⟨_, _, rfl, rfl, ?_⟩
  | refine ⟨rfl, ?_⟩
  | refine ⟨_, _, _, _, rfl, rfl, sqT (by walk_at "hp"), rfl, ?_⟩
  | refine ⟨_, _, _, _, rfl, rfl, sqL (by walk_at "hp"), rfl, ?_⟩
  | refine ⟨_, _, rfl, sqT (by walk_at "hp"), rfl, ?_⟩
  | refine ⟨_, _, _, _, _, rfl, by walk_at "hp", by assumption, by assumption, rfl, ?_⟩
  | refine ⟨.inl ⟨rfl, _, sqL (by walk_at "hp")⟩, ?_⟩
  | refine ⟨_, _, rfl, .inl (sqL (by walk_at "hp")), ?_⟩
  | refine ⟨_, _, rfl, .inr (sqT (by walk_at "hp")), ?_⟩
  | refine ⟨(_, _), rfl, ?_⟩
  | refine ⟨(_, _, _), rfl, ?_⟩
  | refine ⟨(_, _, _, _), rfl, ?_⟩
  | refine ⟨_, _, rfl, ?_⟩
  | refine ⟨_, _, _, rfl, ?_⟩
  | walk_at "is")
local macro_rules | `(tactic| walk_at "rd") => `(tactic| repeat walk_at "rd1")

local macro_rules | `(tactic| walk_at "ib") => `(tactic| refine .inr ⟨_, rfl, ?_⟩)
local macro_rules | `(tactic| walk_at "ii") => `(tactic| refine .inl ⟨_, rfl, ?_⟩)
/-- what d leaves of the marks of these looks -/
def LeftM (d : Int) (ls : List (Int × Int)) (k : Int) : Prop := ∀ l ∈ ls, 2 * l.2 - 2 * d ≤ fold l.1 k ∧ fold l.1 k ≤ 2 * l.2 + 2 * d
def LooksAt (H : Hp) (vs : List V) (ls : List (Int × Int)) : Prop := Paired (fun v (l : Int × Int) => ∃ p, v = .ref p ∧ H p = some (.tup [.int l.1, .int l.2])) vs ls
theorem LooksAt.ex {H H' : Hp} {vs : List V} {ls : List (Int × Int)} (h : LooksAt H vs ls) (e : Ex H H') : LooksAt H' vs ls := paired_map (fun _ _ ⟨p, a, b⟩ => ⟨p, a, e _ _ b⟩) h
section
variable {P : Program} {w : World} {K : PySem.W.Frag} {mg : PySem.Str → Option Value} {base : Heap} {Z : Adr}
def sp_left_by (Z : Adr) : Sp := mkSp (fun ((p, d, _) : Addr × Int × List V × List (Int × Int)) => [.ref p, .int d]) (fun (p, d, vs, ls) H => H p = some (.lst vs) ∧ LooksAt H vs ls ∧ (∀ l ∈ ls, 1 ≤ l.1 ∧ l.1 ≤ 1000) ∧ lcmL (ls.map (·.1)) ≤ 5040 ∧ ls.length ≤ 1000)
  (fun (_, d, _, ls) H v H' => NewP Z (lcmL (ls.map (·.1))) (LeftM d ls) H v H')
abbrev s_left_by : Stmt := top 70
theorem sc_left_by : FnScope ["looks", "doubt", "found", "half", "number"] ["looks", "doubt"] (C8.fnScope s_left_by) := C8.fnScope_by (by decide +kernel)
theorem c_left_by (T : Txt P w K mg base Z) : C8.Cal P w K mg base 8 "left_by" (sp_left_by Z) [] :=
  calD (k := 7) T.d_left_by sc_left_by (fun _ _ _ _ _ _ us h => by obtain ⟨_, _, rfl⟩ := us2 (by exact h); rfl) (fun _ => rfl) (fun cdv f A outer s H0 H Q E a hr pre hq => by
    have S := sc_left_by
    obtain ⟨p, d, vs, ls⟩ := a
    obtain ⟨hp, hv, hb, hl, ln⟩ := pre
    have vl := paired_len hv
    have b1 : ∀ n ∈ ls.map (·.1), 1 ≤ n ∧ n ≤ 10000 := fun n hn => by
      obtain ⟨l, hl, rfl⟩ := List.mem_map.mp hn
      have := hb l hl
      omega
    have L1 := lcmL_ge (l := ls.map (·.1)) fun n hn => (b1 n hn).1
    obtain ⟨L, hL⟩ : ∃ L, lcmL (ls.map (·.1)) = L := ⟨_, rfl⟩
    have hq : ∀ v H', NewP Z L (LeftM d ls) H v H' → Q v H' := by rw [← hL]; exact fun v H' h => hq v H' h
    have dv : ∀ l ∈ ls, l.1 ∣ L := fun l h => by rw [← hL]; exact lcmL_dvd (List.mem_map.mpr ⟨l, h, rfl⟩)
    refine ⟨_, (pss_cons (ps_expr (C8.pe_c (c_need_multiple T) hr (by decide) rfl (pa_cons (pe_lc (own := [("half", 3), ("number", 4)]) rfl S.nd (piL (K := K) rfl (pv 0)) (blkOk_by (by kernel_rfl)) (fun _ _ _ _ _ => (pgT (K := K) (n := 2) rfl (by rfl) (pgs_cons (pg_name (i := 3) S.nd rfl (by first | exact Or.inl rfl | exact Or.inr rfl)) (pgs_cons (pg_name (i := 4) S.nd rfl (by first | exact Or.inl rfl | exact Or.inr rfl)) pgs_nil)))) (fun _ _ _ _ _ => pts_nil) (fun _ _ _ _ _ => (pv 3))) pa_nil)))
  (pss_cons (ps_set (i := 2) S.nd rfl (Or.inl rfl) (C8.pe_mk (k_Pattern T) hr (by decide) rfl (pa_cons pe_int (pa_cons (pe_lst (pa_cons (pe_tup (pa_cons pe_int (pa_cons pe_bl (pa_cons pe_int (pa_cons pe_bl pa_nil))))) pa_nil)) pa_nil))))
  (pss_cons (ps_for PassesOwn.never rfl (piL (K := K) rfl (pv 0)) (pgT (K := K) (n := 2) rfl (by rfl) (pgs_cons (pg_name (i := 3) S.nd rfl (Or.inl rfl)) (pgs_cons (pg_name (i := 4) S.nd rfl (Or.inl rfl)) pgs_nil))) (pss_one (ps_set (i := 2) S.nd rfl (Or.inl rfl) (pe_op (op_own (c_Pattern_and T) rfl T.sf_Pattern (hr.mono (by decide))) (pv 2) (C8.pe_c (c_near T) hr (by decide) rfl (pa_cons (pv 3) (pa_cons (pe_op op_mul pe_int (pv 4)) (pa_cons (pe_op op_mul pe_int (pv 4)) (pa_cons (pv 1) pa_nil)))))))))
  (pss_one (ps_ret (pv 2)))))), ?_⟩
    walk_at "rd"
    refine ⟨⟨_, sqL hp⟩, fun D nD => ?_⟩
    refine lcE (walk_list (xs := vs)) nD (by omega) (fun _ => true) (fun i y _ => ∃ l, ls[i]? = some l ∧ y = .int l.1) (fun _ r => r) (fun _ r => r) (fun H e => sqL (e _ _ hp)) ?_ ?_
    · rintro i y H4 H5 hi e4 ⟨rfl, hy⟩ S Z hS hZ
      obtain ⟨l, hx⟩ : ∃ l, ls[i]? = some l := ⟨_, List.getElem?_eq_getElem (by omega)⟩
      obtain ⟨u, rfl, hu⟩ := paired_get hv hy hx
      have hu4 := e4 _ _ hu
      walk_at "rd"
      exact hS _ _ (Ex.refl _) rfl ⟨l, hx, rfl⟩
    · intro H1 ys e1 hD got
      unfold Got at got
      rw [range_all, vl] at got
      have hz := got_list (H := H1) got
      subst hz
      walk_at "rd"
      refine ⟨(D, ls.map (·.1)), rfl, ⟨.inl (by rw [hD, List.map_map]; rfl), b1, by rw [hL]; rw [hL] at hl; exact hl⟩, ?_⟩
      rintro v H' ⟨rfl, rfl⟩
      walk_at "rd"
      refine ⟨by walk_at "sz", fun t1 n1 => ?_⟩
      walk_at "rd"
      refine ⟨by walk_at "sz", fun t2 n2 => ?_⟩
      walk_at "rd"
      refine fun z dz nz ndz dne => ?_
      have pc1 : PcOk 1 ((0, true, 1, true) : Pc) := ⟨by decide, by decide, by decide, by decide, .inl (by decide)⟩
      refine ⟨(_, z, dz, 1, t2, [.ref t1], [(0, true, 1, true)]), rfl, ⟨nz, ndz, dne, rfl, by omega, by omega, upd_same, .cons ⟨t1, rfl, upd_old upd_same n2⟩ .nil, by simpa using pc1, by walk_at "sz"⟩, ?_⟩
      rintro v H2 ⟨rfl, e2, r0, hr0, h2⟩
      refine ⟨rfl, ?_⟩
      have e12 : Ex H H2 := by walk_at "ex"
      have h2 : PatAt Z H2 z r0 (LeftM d []) := h2.congr fun k k0 => by
        have f := fold_rng (h := 1) k (by omega)
        constructor
        · intro _ l hl
          simp at hl
        · intro _
          exact ⟨_, List.mem_singleton.mpr rfl, by unfold spL; simp; omega, by unfold spR; simp; omega⟩
      have d0 : r0 ∣ L := Int.dvd_trans hr0 (Int.one_dvd L)
      have zf : H z = none := e1.back (upd_none (upd_none nz))
      walk_at "rd"
      refine ⟨⟨_, sqL (by walk_at "hp")⟩, ?_⟩
      refine for_it (walk_list (xs := vs)) (fun i σ H' => Hold (Ex H H' ∧ ∃ (x : Addr) (r : Int) (o1 o2 : Option V), σ = [some (.ref p), some (.int d), some (.ref x), o1, o2] ∧ H x = none ∧ r ∣ L ∧ PatAt Z H' x r (LeftM d (ls.take i)))) (.of ⟨e12, z, r0, _, _, rfl, zf, d0, h2⟩) (fun i σ H' _ h => sqL (h.out.1 _ _ hp)) ?_ ?_
      · rintro i y σ H3 H4 hi hP ⟨rfl, hy⟩
        obtain ⟨e3, x, r, o1, o2, rfl, nx, rd, hx⟩ := hP.out
        clear hP
        obtain ⟨l, hlx⟩ : ∃ l, ls[i]? = some l := ⟨_, List.getElem?_eq_getElem (by omega)⟩
        obtain ⟨u, rfl, hu⟩ := paired_get hv hy hlx
        have lm := List.mem_of_getElem? hlx
        have hb1 := hb l lm
        have hu4 := e3 _ _ hu
        walk_at "rd"
        refine ⟨⟨hb1.1, by omega⟩, ?_⟩
        rintro v H5 ⟨x2, r2, rfl, nx2, e5, rd2, hx2⟩
        obtain ⟨⟨q1, f1⟩, dd1, fs1, i1⟩ := (hx.ex e5).form
        obtain ⟨⟨q2, f2⟩, dd2, fs2, i2⟩ := hx2.form
        have rdl : r2 ∣ L := Int.dvd_trans rd2 (dv l lm)
        have lc : lcmL [r, r2] ∣ L := lcmL_least (by simp; exact ⟨f1.p1, f2.p1⟩) (by simp; exact ⟨rd, rdl⟩)
        have ll : lcmL [r, r2] ≤ 5040 := by
          have := Int.le_of_dvd (by omega) lc
          rw [hL] at hl
          omega
        walk_at "rd"
        refine ⟨_, _, _, _, _, _, rfl, rfl, i1, i2, (x, x2, r, r2, _, _), rfl, ⟨hx.ex e5, hx2, ll⟩, ?_⟩
        rintro v H6 ⟨x3, r3, rfl, nx3, e6, rd3, hx3⟩
        refine .of ⟨(e3.trans e5).trans e6, x3, r3, _, _, rfl, (e3.trans e5).back nx3, Int.dvd_trans rd3 lc, hx3.congr fun k k0 => ?_⟩
        rw [take_more hlx]
        unfold LeftM
        simp only [List.mem_append, List.mem_singleton]
        constructor
        · rintro ⟨h1, h2⟩ l' (h | h)
          · exact h1 l' h
          · rw [h]; exact h2
        · intro h
          exact ⟨fun l' h' => h l' (.inl h'), h l (.inr rfl)⟩
      · intro σ H' hP
        obtain ⟨e3, x, r, o1, o2, rfl, nx, rd, hx⟩ := hP.out
        walk_at "rd"
        refine hq _ _ ⟨x, r, rfl, nx, e3, rd, ?_⟩
        rw [vl, List.take_length] at hx
        exact hx)
end
end Ff
end
section
set_option maxRecDepth 100000
set_option maxHeartbeats 4000000
/-! Rows of programs. -/
namespace Ff
open PySem PySem.Spec PyProof.Rows L2
local macro_rules | `(tactic| walk_at "ex") => `(tactic| first
  | exact Ex.refl _
  | with_reducible assumption
  | (refine Ex.new ?_ (by with_reducible assumption); walk_at "ex")
  | (refine Ex.mut ?_ (by walk_at "hn"); walk_at "ex")
  | (refine Ex.trans ?_ (by with_reducible assumption); walk_at "ex"))
local macro_rules | `(tactic| walk_at "hn") => `(tactic| first
  | with_reducible assumption
  | exact Ex.back (by with_reducible assumption) (by with_reducible assumption)
  | exact upd_none (by with_reducible assumption)
  | exact upd_none (upd_none (by with_reducible assumption))
  | exact Ex.back (by with_reducible assumption) (upd_none (by with_reducible assumption))
  | exact Ex.back (by with_reducible assumption) (Ex.back (by with_reducible assumption) (by with_reducible assumption)))
local macro_rules | `(tactic| walk_at "hp") => `(tactic| first
  | with_reducible assumption
  | with_reducible exact upd_same
  | (refine Ex.at (by with_reducible assumption) ?_; walk_at "ex")
  | (refine upd_old ?_ (by with_reducible assumption); walk_at "hp")
  | (refine upd_off ?_ (by with_reducible assumption); walk_at "hp"))
local macro_rules | `(tactic| walk_at "sd") => `(tactic| ((try dsimp only [CMul, CDiv, CPow]); first | exact True.intro | omega | (with_reducible assumption)))
local macro_rules | `(tactic| walk_at "sz") => `(tactic| exact Nat.le_of_ble_eq_true rfl)
local macro_rules | `(tactic| walk_at "is") => `(tactic| first
  | refine ⟨_, _, _, _, _, rfl, .ty _, .base (.int _), kt_int, ?_⟩
  | refine ⟨_, _, _, _, _, rfl, .ty _, .base (.int _), kt_intb, ?_⟩
  | refine ⟨_, _, _, _, _, rfl, .ty _, .base (.bl _), kt_bool, ?_⟩
  | refine ⟨_, _, _, _, _, rfl, .ty _, .base (.str _), kt_str, ?_⟩
  | refine ⟨_, _, _, _, _, rfl, .ty _, .base (.tup (by walk_at "hp")), kt_tup, ?_⟩
  | refine ⟨_, _, _, _, _, rfl, .ty _, .base (.dK (by walk_at "hp")), kt_dict, ?_⟩)
local macro_rules | `(tactic| walk_at "rd1") => `(tactic| first
  | refine ⟨_, rfl, ?_⟩
  | refine ⟨_, _, rfl, rfl, And.intro (by walk_at "sd") ?_⟩
  | refine ⟨_, _, rfl, rfl, ?_⟩
  | refine ⟨rfl, ?_⟩
  | refine ⟨_, _, _, _, rfl, rfl, sqT (by walk_at "hp"), rfl, ?_⟩
  | refine ⟨_, _, _, _, rfl, rfl, sqL (by walk_at "hp"), rfl, ?_⟩
  | refine ⟨_, _, rfl, sqT (by walk_at "hp"), rfl, ?_⟩
  | refine ⟨_, _, _, _, _, rfl, by walk_at "hp", by assumption, by assumption, rfl, ?_⟩
  | refine ⟨.inl ⟨rfl, _, sqL (by walk_at "hp")⟩, ?_⟩
  | refine ⟨_, _, rfl, .inl (sqL (by walk_at "hp")), ?_⟩
  | refine ⟨_, _, rfl, .inr (sqT (by walk_at "hp")), ?_⟩
  | refine ⟨(_, _), rfl, ?_⟩
  | refine ⟨(_, _, _), rfl, ?_⟩
  | refine ⟨(_, _, _, _), rfl, ?_⟩
  | refine ⟨_, _, rfl, ?_⟩
  | refine ⟨_, _, _, rfl, ?_⟩
  | walk_at "is")
local macro_rules | `(tactic| walk_at "rd") => `(tactic| repeat walk_at "rd1")

local macro_rules | `(tactic| walk_at "ib") => `(tactic| refine .inr ⟨_, rfl, ?_⟩)
local macro_rules | `(tactic| walk_at "ii") => `(tactic| refine .inl ⟨_, rfl, ?_⟩)
def rowV (H : Hp) (v : V) : Row → Prop
  | .tell w => ∃ p, v = .ref p ∧ H p = some (.tup [.str "tell", .str w])
  | .look h es ts => ∃ p e t, v = .ref p ∧ H p = some (.tup [.str "look", .int h, .ref e, .ref t]) ∧ H e = some (.tup (es.map .int)) ∧ H t = some (.tup (ts.map .int))
theorem rowV_ex {H H' : Hp} {v : V} {r : Row} (h : rowV H v r) (e : Ex H H') : rowV H' v r := by
  cases r with
  | tell w => obtain ⟨p, a, b⟩ := h; exact ⟨p, a, e _ _ b⟩
  | look h es ts => obtain ⟨p, q, t, a, b, c, d⟩ := h; exact ⟨p, q, t, a, e _ _ b, e _ _ c, e _ _ d⟩
def RowsAt (H : Hp) (vs : List V) (rows : List Row) : Prop := Paired (rowV H) vs rows
theorem RowsAt.ex {H H' : Hp} {vs : List V} {rows : List Row} (h : RowsAt H vs rows) (e : Ex H H') : RowsAt H' vs rows := paired_map (fun _ _ q => rowV_ex q e) h
def letters : PySem.Str := "abcdefghijklmnopqrstuvwxyz"
structure WordOk (w : PySem.Str) : Prop where
  l1 : 1 ≤ w.length
  l2 : w.length ≤ 8
  ab : ∀ c ∈ w.cps.toList, c ∈ letters.cps.toList
structure EndsOk (h : Int) (es : List Int) : Prop where
  rng : ∀ e ∈ es, 0 ≤ e ∧ e ≤ h
  inc : es.Pairwise (· < ·)
  ln : es.length ≤ 12
inductive RowOk (n : Int) : Row → Prop
  | tell {w : PySem.Str} (h : WordOk w) : RowOk n (.tell w)
  | look {h : Int} {es ts : List Int} (h1 : 1 ≤ h) (h2 : h ≤ 1000) (e : EndsOk h es) (l : ts.length = 2 * es.length + 1) (t : ∀ g ∈ ts, 0 ≤ g ∧ g < n) : RowOk n (.look h es ts)
theorem tT : decide (V.str "tell" = V.str "tell") = true := decide_eq_true rfl
theorem tLL : decide (V.str "look" = V.str "look") = true := decide_eq_true rfl
theorem tLT : decide (V.str "look" = V.str "tell") = false := by decide +kernel
theorem tTL : decide (V.str "tell" = V.str "look") = false := by decide +kernel
section
variable {P : Program} {w : World} {K : PySem.W.Frag} {mg : PySem.Str → Option Value} {base : Heap} {Z : Adr}
def sp_is_word : Sp := mkSp (fun (x : PySem.Str) => [.str x]) (fun x _ => WordOk x) (fun _ H v H' => v = .bl true ∧ Ex H H')
abbrev s_is_word : Stmt := top 46
theorem sc_is_word : FnScope ["thing", "letter"] ["thing"] (C8.fnScope s_is_word) := C8.fnScope_by (by decide +kernel)
theorem c_is_word (T : Txt P w K mg base Z) : C8.Cal P w K mg base 1 "is_word" sp_is_word [] :=
  calD (k := 0) T.d_is_word sc_is_word (fun _ _ _ _ _ _ us h => by obtain ⟨_, rfl⟩ := us1 (by exact h); rfl) (fun _ => rfl) (fun cdv f A outer s H0 H Q E a hr pre hq => by
    have S := sc_is_word
    obtain ⟨l1, l2, ab⟩ := pre
    refine ⟨_, (pss_cons (ps_if (PW.pt (pw_or (pt_not (pt_val (pe_callB (isI (K := K) rfl) (by rfl) T.n_isinstance (by decide +kernel) (pa_cons (pv 0) (pa_cons (pe_bltn (by rfl) T.n_str (by decide +kernel) (v := .ty "str") (u := .type "str") rfl) pa_nil))))) (pw_or1 (pt_not (pt_chain op_le op_le pe_int (pe_callB call_len_str (by rfl) T.n_len (by decide +kernel) (pa_cons (pv 0) pa_nil)) (C8.pe_gc rfl T.g_LONGEST_WORD)))))) (pss_one (ps_ret pe_bl)) pss_nil)
  (pss_one (ps_ret (pe_callB (crAll (K := K) rfl rfl) (by rfl) T.n_all (by decide +kernel) (pa_cons (pe_lc (own := [("letter", 1)]) rfl S.nd (pi_str (pv 0)) (blkOk_by (by kernel_rfl)) (fun _ _ _ _ _ => (pg_name (i := 1) S.nd rfl (by first | exact Or.inl rfl | exact Or.inr rfl))) (fun _ _ _ _ _ => pts_nil) (fun _ _ _ _ _ => (pe_cmpR op_in_sign (pv 1) (C8.pe_gc rfl T.g_LETTERS) (by rfl)))) pa_nil))))), ?_⟩
    have ls : a.length ≤ sizeLine := szL (by omega)
    walk_at "rd"
    refine ⟨ls, ?_⟩
    walk_at "rd"
    rw [decide_eq_true (show (1 : Int) ≤ (a.length : Int) by omega)]
    walk_at "rd"
    rw [decide_eq_true (show (a.length : Int) ≤ 8 by omega)]
    walk_at "rd"
    refine fun D nD => ?_
    have sz : a.cps.size ≤ 8 := l2
    refine lcE (walk_str (z := a)) nD (by omega) (fun _ => true) (fun i y _ => y = .bl true) (fun _ r => r) (fun _ r => r) (fun H e => trivial) ?_ ?_
    · rintro i y H4 H5 hi e4 ⟨rfl, c, hc, rfl⟩ S Z hS hZ
      walk_at "rd"
      refine hS _ _ (Ex.refl _) rfl ?_
      exact congrArg V.bl (decide_eq_true (ab c (List.mem_of_getElem? (by rw [← Array.getElem?_toList] at hc; exact hc))))
    · intro H3 ys e3 hD got
      have hz := got_fn (v := fun _ => .bl true) got
      subst hz
      walk_at "rd"
      refine ⟨_, (List.range a.cps.size).map fun _ => true, rfl, sqL (by rw [hD, List.map_map]; rfl), ?_⟩
      refine hq _ _ ⟨congrArg V.bl ?_, by walk_at "ex"⟩
      simp)
def sp_are_ends : Sp := mkSp (fun ((p, h, _) : Addr × Int × List Int) => [.ref p, .int h]) (fun (p, h, es) H => H p = some (.tup (es.map .int)) ∧ EndsOk h es) (fun _ H v H' => v = .bl true ∧ H' = H)
abbrev s_are_ends : Stmt := top 47
theorem sc_are_ends : FnScope ["thing", "half", "last", "end"] ["thing", "half"] (C8.fnScope s_are_ends) := C8.fnScope_by (by decide +kernel)
theorem c_are_ends (T : Txt P w K mg base Z) : C8.Cal P w K mg base 3 "are_ends" sp_are_ends [] :=
  calD (k := 2) T.d_are_ends sc_are_ends (fun _ _ _ _ _ _ us h => by obtain ⟨_, _, rfl⟩ := us2 (by exact h); rfl) (fun _ => rfl) (fun cdv f A outer s H0 H Q E a hr pre hq => by
    have S := sc_are_ends
    obtain ⟨p, h, es⟩ := a
    obtain ⟨hp, rng, inc, ln⟩ := pre
    refine ⟨_, (pss_cons (ps_if (PW.pt (pw_or (pt_not (pt_val (pe_callB (isI (K := K) rfl) (by rfl) T.n_isinstance (by decide +kernel) (pa_cons (pv 0) (pa_cons (pe_bltn (by rfl) T.n_tuple (by decide +kernel) (v := .ty "tuple") (u := .type "tuple") rfl) pa_nil))))) (pw_or1 (pt_cmpR op_gt (pe_callB (lenS (K := K) rfl) (by rfl) T.n_len (by decide +kernel) (pa_cons (pv 0) pa_nil)) (C8.pe_gc rfl T.g_MOST_ENDS) (nomark _))))) (pss_one (ps_ret pe_bl)) pss_nil)
  (pss_cons (ps_set (i := 2) S.nd rfl (Or.inl rfl) (pe_un un_neg pe_int))
  (pss_cons (ps_for PassesOwn.never rfl (piT (K := K) rfl (pv 0)) (pg_name (i := 3) S.nd rfl (Or.inl rfl)) (pss_cons (ps_if (pt_not (pt_val (C8.pe_c (c_is_between T) hr (by decide) rfl (pa_cons (pv 3) (pa_cons (pe_op op_add (pv 2) pe_int) (pa_cons (pv 1) pa_nil)))))) (pss_one (ps_ret pe_bl)) pss_nil)
  (pss_one (ps_set (i := 2) S.nd rfl (Or.inl rfl) (pv 3)))))
  (pss_one (ps_ret pe_bl))))), ?_⟩
    walk_at "rd"
    rw [decide_eq_false (show ¬ ((es.map V.int).length : Int) > 12 by rw [List.length_map]; omega)]
    walk_at "rd"
    refine ⟨⟨_, sqT hp⟩, ?_⟩
    refine for_it (walk_tup (xs := es.map V.int)) (fun i σ H' => Hold (H' = H ∧ ∃ (last : Int) (o : Option V), σ = [some (.ref p), some (.int h), some (.int last), o] ∧ (last = -1 ∨ ∃ j, j < i ∧ es[j]? = some last))) (.of ⟨rfl, -1, _, rfl, .inl rfl⟩) (fun i σ H' _ h => sqT (by rw [h.out.1]; exact hp)) ?_ ?_
    · rintro i y σ H3 H4 hi hP ⟨rfl, hy⟩
      obtain ⟨rfl, last, o, rfl, hl⟩ := hP.out
      obtain ⟨e, he, rfl⟩ := map_get hy
      have r := rng e (List.mem_of_getElem? he)
      have lt : last + 1 ≤ e := by
        rcases hl with rfl | ⟨j, hj, hl⟩
        · omega
        · have hi' := (List.getElem?_eq_some_iff.mp he).1
          have hj' := (List.getElem?_eq_some_iff.mp hl).1
          have := List.pairwise_iff_getElem.mp inc j i hj' hi' hj
          rw [(List.getElem?_eq_some_iff.mp hl).2, (List.getElem?_eq_some_iff.mp he).2] at this
          omega
      walk_at "rd"
      refine ⟨trivial, ?_⟩
      rintro v H' ⟨rfl, rfl⟩
      rw [decide_eq_true (show last + 1 ≤ e ∧ e ≤ h from ⟨lt, r.2⟩)]
      walk_at "rd"
      exact .of ⟨rfl, e, _, rfl, .inr ⟨i, by omega, he⟩⟩
    · intro σ H' hP
      obtain ⟨rfl, last, o, rfl, hl⟩ := hP.out
      walk_at "rd"
      exact hq _ _ ⟨rfl, rfl⟩)
def sp_is_row : Sp := mkSp (fun ((p, n, _) : Addr × Int × Row) => [.ref p, .int n]) (fun (p, n, r) H => rowV H (.ref p) r ∧ RowOk n r) (fun _ H v H' => v = .bl true ∧ Ex H H')
abbrev s_is_row : Stmt := top 48
theorem sc_is_row : FnScope ["thing", "many", "goal"] ["thing", "many"] (C8.fnScope s_is_row) := C8.fnScope_by (by decide +kernel)
theorem c_is_row (T : Txt P w K mg base Z) : C8.Cal P w K mg base 4 "is_row" sp_is_row [] :=
  calD (k := 3) T.d_is_row sc_is_row (fun _ _ _ _ _ _ us h => by obtain ⟨_, _, rfl⟩ := us2 (by exact h); rfl) (fun _ => rfl) (fun cdv f A outer s H0 H Q E a hr pre hq => by
    have S := sc_is_row
    obtain ⟨p, n, r⟩ := a
    obtain ⟨hr1, ok⟩ := pre
    refine ⟨_, (pss_cons (ps_if (PW.pt (pw_or (pt_not (pt_val (pe_callB (isI (K := K) rfl) (by rfl) T.n_isinstance (by decide +kernel) (pa_cons (pv 0) (pa_cons (pe_bltn (by rfl) T.n_tuple (by decide +kernel) (v := .ty "tuple") (u := .type "tuple") rfl) pa_nil))))) (pw_or1 (pt_cmpR op_lt (pe_callB (lenS (K := K) rfl) (by rfl) T.n_len (by decide +kernel) (pa_cons (pv 0) pa_nil)) pe_int (nomark _))))) (pss_one (ps_ret pe_bl)) pss_nil)
  (pss_cons (ps_if (PW.pt (pw_and (pt_val (pe_callB (isI (K := K) rfl) (by rfl) T.n_isinstance (by decide +kernel) (pa_cons (pe_ix (ixT (K := K) rfl) (pv 0) pe_int (fun _ _ => rfl)) (pa_cons (pe_bltn (by rfl) T.n_str (by decide +kernel) (v := .ty "str") (u := .type "str") rfl) pa_nil)))) (pw_and1 (pt_cmpR op_eq (pe_ix (ixT (K := K) rfl) (pv 0) pe_int (fun _ _ => rfl)) pe_str (nomark _))))) (pss_one (ps_ret (pe_and (pe_cmpR op_eq (pe_callB (lenS (K := K) rfl) (by rfl) T.n_len (by decide +kernel) (pa_cons (pv 0) pa_nil)) pe_int (nomark _)) (pe_one (C8.pe_c (c_is_word T) hr (by decide) rfl (pa_cons (pe_ix (ixT (K := K) rfl) (pv 0) pe_int (fun _ _ => rfl)) pa_nil)))))) pss_nil)
  (pss_cons (ps_if (PW.pt (pw_or (pt_cmpR op_ne (pe_callB (lenS (K := K) rfl) (by rfl) T.n_len (by decide +kernel) (pa_cons (pv 0) pa_nil)) pe_int (nomark _)) (pw_or (pt_not (pt_val (pe_callB (isI (K := K) rfl) (by rfl) T.n_isinstance (by decide +kernel) (pa_cons (pe_ix (ixT (K := K) rfl) (pv 0) pe_int (fun _ _ => rfl)) (pa_cons (pe_bltn (by rfl) T.n_str (by decide +kernel) (v := .ty "str") (u := .type "str") rfl) pa_nil))))) (pw_or1 (pt_cmpR op_ne (pe_ix (ixT (K := K) rfl) (pv 0) pe_int (fun _ _ => rfl)) pe_str (nomark _)))))) (pss_one (ps_ret pe_bl)) pss_nil)
  (pss_cons (ps_if (PW.pt (pw_or (pt_not (pt_val (C8.pe_c (c_is_half T) hr (by decide) rfl (pa_cons (pe_ix (ixT (K := K) rfl) (pv 0) pe_int (fun _ _ => rfl)) pa_nil)))) (pw_or (pt_not (pt_val (C8.pe_c (c_are_ends T) hr (by decide) rfl (pa_cons (pe_ix (ixT (K := K) rfl) (pv 0) pe_int (fun _ _ => rfl)) (pa_cons (pe_ix (ixT (K := K) rfl) (pv 0) pe_int (fun _ _ => rfl)) pa_nil))))) (pw_or1 (pt_not (pt_val (pe_callB (isI (K := K) rfl) (by rfl) T.n_isinstance (by decide +kernel) (pa_cons (pe_ix (ixT (K := K) rfl) (pv 0) pe_int (fun _ _ => rfl)) (pa_cons (pe_bltn (by rfl) T.n_tuple (by decide +kernel) (v := .ty "tuple") (u := .type "tuple") rfl) pa_nil))))))))) (pss_one (ps_ret pe_bl)) pss_nil)
  (pss_one (ps_ret (pe_and (pe_cmpR op_eq (pe_callB (lenS (K := K) rfl) (by rfl) T.n_len (by decide +kernel) (pa_cons (pe_ix (ixT (K := K) rfl) (pv 0) pe_int (fun _ _ => rfl)) pa_nil)) (pe_op op_add (pe_op op_mul pe_int (pe_callB (lenS (K := K) rfl) (by rfl) T.n_len (by decide +kernel) (pa_cons (pe_ix (ixT (K := K) rfl) (pv 0) pe_int (fun _ _ => rfl)) pa_nil))) pe_int) (nomark _)) (pe_one (pe_callB (crAll (K := K) rfl rfl) (by rfl) T.n_all (by decide +kernel) (pa_cons (pe_lc (own := [("goal", 2)]) rfl S.nd (piT (K := K) rfl (pe_ix (ixT (K := K) rfl) (pv 0) pe_int (fun _ _ => rfl))) (blkOk_by (by kernel_rfl)) (fun _ _ _ _ _ => (pg_name (i := 2) S.nd rfl (by first | exact Or.inl rfl | exact Or.inr rfl))) (fun _ _ _ _ _ => pts_nil) (fun _ _ _ _ _ => (C8.pe_c (c_is_between T) hr (by decide) rfl (pa_cons (pv 2) (pa_cons pe_int (pa_cons (pe_op op_sub (pv 1) pe_int) pa_nil)))))) pa_nil)))))))))), ?_⟩
    cases ok with
    | tell hw =>
      obtain ⟨q, e, hp⟩ := hr1
      cases e
      walk_at "rd"
      refine ⟨hw, ?_⟩
      rintro v H' ⟨rfl, e⟩
      exact hq _ _ ⟨rfl, e⟩
    | @look h es ts h1 h2 en l ht =>
      obtain ⟨q, e, t, ee, hp, he, htt⟩ := hr1
      cases ee
      walk_at "rd"
      refine ⟨trivial, ?_⟩
      rintro v H' ⟨rfl, rfl⟩
      rw [decide_eq_true (show 1 ≤ h ∧ h ≤ 1000 from ⟨h1, h2⟩)]
      walk_at "rd"
      refine ⟨(e, h, es), rfl, ⟨he, en⟩, ?_⟩
      rintro v H' ⟨rfl, rfl⟩
      walk_at "rd"
      rw [List.length_map, List.length_map, dInt, decide_eq_true (show (ts.length : Int) = 2 * (es.length : Int) + 1 by omega)]
      walk_at "rd"
      refine ⟨⟨_, sqT htt⟩, fun D nD => ?_⟩
      refine lcE (walk_tup (xs := ts.map V.int)) nD (by have := en.ln; rw [List.length_map]; omega) (fun _ => true) (fun i y _ => y = .bl true) (fun _ r => r) (fun _ r => r) (fun H e => sqT (e _ _ htt)) ?_ ?_
      · rintro i y H4 H5 hi e4 ⟨rfl, hy⟩ S Z hS hZ
        obtain ⟨g, hg, rfl⟩ := map_get hy
        have r := ht g (List.mem_of_getElem? hg)
        walk_at "rd"
        refine ⟨trivial, ?_⟩
        rintro v H' ⟨rfl, rfl⟩
        exact hS _ _ (Ex.refl _) rfl (congrArg V.bl (decide_eq_true (show 0 ≤ g ∧ g ≤ n - 1 by omega)))
      · intro H3 ys e3 hD got
        have hz := got_fn (v := fun _ => .bl true) got
        subst hz
        walk_at "rd"
        refine ⟨_, (List.range (ts.map V.int).length).map fun _ => true, rfl, sqL (by rw [hD, List.map_map]; rfl), ?_⟩
        refine hq _ _ ⟨congrArg V.bl ?_, by walk_at "ex"⟩
        simp)
end
end Ff
end
section
set_option maxRecDepth 100000
set_option maxHeartbeats 4000000
/-! cell_of, goal_of, speed_in, word_of, path_of. -/
namespace Ff
open PySem PySem.Spec PyProof.Rows L2
local macro_rules | `(tactic| walk_at "ex") => `(tactic| first
  | exact Ex.refl _
  | with_reducible assumption
  | (refine Ex.new ?_ (by with_reducible assumption); walk_at "ex")
  | (refine Ex.mut ?_ (by walk_at "hn"); walk_at "ex")
  | (refine Ex.trans ?_ (by with_reducible assumption); walk_at "ex"))
local macro_rules | `(tactic| walk_at "hn") => `(tactic| first
  | with_reducible assumption
  | exact Ex.back (by with_reducible assumption) (by with_reducible assumption)
  | exact upd_none (by with_reducible assumption)
  | exact upd_none (upd_none (by with_reducible assumption))
  | exact Ex.back (by with_reducible assumption) (upd_none (by with_reducible assumption))
  | exact Ex.back (by with_reducible assumption) (Ex.back (by with_reducible assumption) (by with_reducible assumption)))
local macro_rules | `(tactic| walk_at "hp") => `(tactic| first
  | with_reducible assumption
  | with_reducible exact upd_same
  | (refine Ex.at (by with_reducible assumption) ?_; walk_at "ex")
  | (refine upd_old ?_ (by with_reducible assumption); walk_at "hp")
  | (refine upd_off ?_ (by with_reducible assumption); walk_at "hp"))
local macro_rules | `(tactic| walk_at "sd") => `(tactic| ((try dsimp only [CMul, CDiv, CPow]); first | exact True.intro | omega | (with_reducible assumption)))
local macro_rules | `(tactic| walk_at "sz") => `(tactic| exact Nat.le_of_ble_eq_true rfl)
local macro_rules | `(tactic| walk_at "is") => `(tactic| first
  | refine ⟨_, _, _, _, _, rfl, .ty _, .base (.int _), kt_int, ?_⟩
  | refine ⟨_, _, _, _, _, rfl, .ty _, .base (.int _), kt_intb, ?_⟩
  | refine ⟨_, _, _, _, _, rfl, .ty _, .base (.bl _), kt_bool, ?_⟩
  | refine ⟨_, _, _, _, _, rfl, .ty _, .base (.str _), kt_str, ?_⟩
  | refine ⟨_, _, _, _, _, rfl, .ty _, .base (.tup (by walk_at "hp")), kt_tup, ?_⟩
  | refine ⟨_, _, _, _, _, rfl, .ty _, .base (.dK (by walk_at "hp")), kt_dict, ?_⟩)
local macro_rules | `(tactic| walk_at "rd1") => `(tactic| first
  | refine ⟨_, rfl, ?_⟩
  | refine ⟨_, _, rfl, rfl, And.intro (by walk_at "sd") ?_⟩
  | refine ⟨_, _, rfl, rfl, ?_⟩
  | refine ⟨rfl, ?_⟩
  | refine ⟨_, _, _, _, rfl, rfl, sqT (by walk_at "hp"), rfl, ?_⟩
  | refine ⟨_, _, _, _, rfl, rfl, sqL (by walk_at "hp"), rfl, ?_⟩
  | refine ⟨_, _, rfl, sqT (by walk_at "hp"), rfl, ?_⟩
  | refine ⟨_, _, _, _, _, rfl, by walk_at "hp", by assumption, by assumption, rfl, ?_⟩
  | refine ⟨.inl ⟨rfl, _, sqL (by walk_at "hp")⟩, ?_⟩
  | refine ⟨_, _, rfl, .inl (sqL (by walk_at "hp")), ?_⟩
  | refine ⟨_, _, rfl, .inr (sqT (by walk_at "hp")), ?_⟩
  | refine ⟨(_, _), rfl, ?_⟩
  | refine ⟨(_, _, _), rfl, ?_⟩
  | refine ⟨(_, _, _, _), rfl, ?_⟩
  | refine ⟨_, _, rfl, ?_⟩
  | refine ⟨_, _, _, rfl, ?_⟩
  | walk_at "is")
local macro_rules | `(tactic| walk_at "rd") => `(tactic| repeat walk_at "rd1")

local macro_rules | `(tactic| walk_at "ib") => `(tactic| refine .inr ⟨_, rfl, ?_⟩)
local macro_rules | `(tactic| walk_at "ii") => `(tactic| refine .inl ⟨_, rfl, ?_⟩)
theorem inV_int {a : Int} : ∀ {l : List Int}, inV (.int a) (l.map .int) = decide (a ∈ l)
  | [] => by simp [inV]
  | b :: l => by
    have h := inV_int (a := a) (l := l)
    unfold inV at h ⊢
    rw [List.map_cons, List.any_cons, h]
    show ((b == a) || _) = _
    by_cases q : b = a
    · simp [q]
    · have q2 : ¬ a = b := fun e => q e.symm
      simp [q, q2]
theorem flat_ints {l : List Int} : (l.map V.int).all flatV = true := by
  rw [List.all_eq_true]
  intro x hx
  obtain ⟨a, _, rfl⟩ := List.mem_map.mp hx
  rfl
section
variable {P : Program} {w : World} {K : PySem.W.Frag} {mg : PySem.Str → Option Value} {base : Heap} {Z : Adr}
def sp_cell_of : Sp := mkSp (fun ((e, q, _) : Addr × Addr × List Int × Int × Int) => [.ref e, .ref q]) (fun (e, q, es, t, b) H => H e = some (.tup (es.map .int)) ∧ H q = some (.tup [.int t, .int b]) ∧ (∀ x ∈ es, 0 ≤ x ∧ x ≤ 1000) ∧ es.length ≤ 12)
  (fun (_, _, es, t, b) H v H' => v = .int (es.map fun e => (if e * b ≤ t then (1 : Int) else 0) + (if e * b < t then 1 else 0)).sum ∧ Ex H H')
abbrev s_cell_of : Stmt := top 49
theorem sc_cell_of : FnScope ["ends", "found", "top", "bottom", "end"] ["ends", "found"] (C8.fnScope s_cell_of) := C8.fnScope_by (by decide +kernel)
theorem c_cell_of (T : Txt P w K mg base Z) : C8.Cal P w K mg base 1 "cell_of" sp_cell_of [] :=
  calD (k := 0) T.d_cell_of sc_cell_of (fun _ _ _ _ _ _ us h => by obtain ⟨_, _, rfl⟩ := us2 (by exact h); rfl) (fun _ => rfl) (fun cdv f A outer s H0 H Q E a hr pre hq => by
    have S := sc_cell_of
    obtain ⟨e, q, es, t, b⟩ := a
    obtain ⟨he, hq0, rng, ln⟩ := pre
    refine ⟨_, (pss_cons (ps_asg (pv 1) (pgT (K := K) (n := 2) rfl (by rfl) (pgs_cons (pg_name (i := 2) S.nd rfl (Or.inr rfl)) (pgs_cons (pg_name (i := 3) S.nd rfl (Or.inr rfl)) pgs_nil))))
  (pss_one (ps_ret (pe_callB (crSum (K := K) rfl rfl) (by rfl) T.n_sum (by decide +kernel) (pa_cons (pe_lc (own := [("end", 4)]) rfl S.nd (piT (K := K) rfl (pv 0)) (blkOk_by (by kernel_rfl)) (fun _ _ _ _ _ => (pg_name (i := 4) S.nd rfl (by first | exact Or.inl rfl | exact Or.inr rfl))) (fun _ _ _ _ _ => pts_nil) (fun _ _ _ _ _ => (pe_op op_add (pe_callTy call_int1 (by rfl) T.n_int (by decide +kernel) (pa_cons (pe_cmpR op_ge (pv 2) (pe_op op_mul (pv 4) (pv 3)) (nomark _)) pa_nil)) (pe_callTy call_int1 (by rfl) T.n_int (by decide +kernel) (pa_cons (pe_cmpR op_gt (pv 2) (pe_op op_mul (pv 4) (pv 3)) (nomark _)) pa_nil))))) pa_nil))))), ?_⟩
    walk_at "rd"
    refine ⟨⟨_, sqT he⟩, fun D nD => ?_⟩
    refine lcE (walk_tup (xs := es.map V.int)) nD (by rw [List.length_map]; omega) (fun _ => true) (fun i y _ => ∃ e, es[i]? = some e ∧ y = .int ((if e * b ≤ t then (1 : Int) else 0) + (if e * b < t then 1 else 0))) (fun _ r => r) (fun _ r => r) (fun H e => sqT (e _ _ he)) ?_ ?_
    · rintro i y H4 H5 hi e4 ⟨rfl, hy⟩ S Z hS hZ
      obtain ⟨x, hx, rfl⟩ := map_get hy
      have r := rng x (List.mem_of_getElem? hx)
      walk_at "rd"
      walk_at "ib"
      walk_at "rd"
      walk_at "ib"
      walk_at "rd"
      refine hS _ _ (Ex.refl _) rfl ⟨x, hx, ?_⟩
      by_cases q1 : x * b ≤ t <;> by_cases q2 : x * b < t <;> simp [q1, q2]
    · intro H3 ys e3 hD got
      unfold Got at got
      rw [range_all, List.length_map] at got
      have hz := got_list (H := H3) got
      subst hz
      walk_at "rd"
      refine ⟨_, es.map fun e => ((if e * b ≤ t then (1 : Int) else 0) + (if e * b < t then 1 else 0)), rfl, sqL (by rw [hD, List.map_map]; rfl), ?_⟩
      exact hq _ _ ⟨rfl, by walk_at "ex"⟩)
def sp_goal_of : Sp := mkSp (fun ((p, t, b, _) : Addr × Int × Int × Int × List Int × List Int) => [.ref p, .int t, .int b]) (fun (p, t, b, h, es, ts) H => rowV H (.ref p) (.look h es ts) ∧ 1 ≤ h ∧ h ≤ 1000 ∧ EndsOk h es ∧ ts.length = 2 * es.length + 1 ∧ 0 ≤ t ∧ 1 ≤ b ∧ b < 2 ^ 29)
  (fun (_, t, b, h, es, ts) H v H' => v = .int (goalS h es ts (spotR t b)) ∧ Ex H H')
abbrev s_goal_of : Stmt := top 50
theorem sc_goal_of : FnScope ["row", "top", "bottom"] ["row", "top", "bottom"] (C8.fnScope s_goal_of) := C8.fnScope_by (by decide +kernel)
theorem c_goal_of (T : Txt P w K mg base Z) : C8.Cal P w K mg base 4 "goal_of" sp_goal_of [] :=
  calD (k := 3) T.d_goal_of sc_goal_of (fun _ _ _ _ _ _ us h => by obtain ⟨_, _, _, rfl⟩ := us3 (by exact h); rfl) (fun _ => rfl) (fun cdv f A outer s H0 H Q E a hr pre hq => by
    have S := sc_goal_of
    obtain ⟨p, t, b, h, es, ts⟩ := a
    obtain ⟨⟨q, e, tt, ee, hp, he, htt⟩, h1, h2, en, l, t0, b1, b2⟩ := pre
    cases ee
    have m0 : 0 < 2 * h * b := Int.mul_pos (by omega) (by omega)
    have r1 := Int.emod_nonneg t (Int.ne_of_gt m0)
    have r2 := Int.emod_lt_of_pos t m0
    have f0 : 0 ≤ fold2 h t b := by unfold fold2; omega
    obtain ⟨g, g0, e1, e2, hB, hg⟩ := red_dvd (t := fold2 h t b) b1
    refine ⟨_, (pss_one (ps_ret (pe_ix (ixT (K := K) rfl) (pe_ix (ixT (K := K) rfl) (pv 0) pe_int (fun _ _ => rfl)) (C8.pe_c (c_cell_of T) hr (by decide) rfl (pa_cons (pe_ix (ixT (K := K) rfl) (pv 0) pe_int (fun _ _ => rfl)) (pa_cons (C8.pe_c (c_folded T) hr (by decide) rfl (pa_cons (pe_ix (ixT (K := K) rfl) (pv 0) pe_int (fun _ _ => rfl)) (pa_cons (pv 1) (pa_cons (pv 2) pa_nil)))) pa_nil))) (fun _ _ => rfl)))), ?_⟩
    walk_at "rd"
    refine ⟨⟨h1, by omega, t0, b1, b2⟩, ?_⟩
    rintro v H1 ⟨p1, rfl, np, e1', hr⟩
    have he1 := e1' _ _ he
    walk_at "rd"
    refine ⟨(e, p1, es, _, _), rfl, ⟨he1, hr, fun x hx => by have := en.rng x hx; omega, en.ln⟩, ?_⟩
    rintro v H2 ⟨rfl, e22⟩
    rw [cell_red es b1 g0 e1 e2, spot_fold h1 b1 t0]
    have c := cellS_rng es (fold h (spotR t b))
    have gg := (goalS_get (h := h) (es := es) (s := spotR t b) l).1
    have htt2 := e22 _ _ (e1' _ _ htt)
    refine ⟨_, _, _, _, rfl, rfl, sqT htt2, atI_nat' c.1 (by rw [List.getElem?_map, gg]; rfl), ?_⟩
    exact hq _ _ ⟨rfl, e1'.trans e22⟩)
def sp_speed_in : Sp := mkSp (fun (r : Int) => [.int r]) (fun r _ => 0 ≤ r) (fun r H v H' => ∃ t b, NewT [.int t, .int b] H v H' ∧ 0 ≤ t ∧ 1 ≤ b ∧ b < 2 ^ 29 ∧ spotR t b = r)
abbrev s_speed_in : Stmt := top 57
theorem sc_speed_in : FnScope ["region"] ["region"] (C8.fnScope s_speed_in) := C8.fnScope_by (by decide +kernel)
theorem c_speed_in (T : Txt P w K mg base Z) : C8.Cal P w K mg base 1 "speed_in" sp_speed_in [] :=
  calD (k := 0) T.d_speed_in sc_speed_in (fun _ _ _ _ _ _ us h => by obtain ⟨_, rfl⟩ := us1 (by exact h); rfl) (fun _ => rfl) (fun cdv f A outer s H0 H Q E a hr pre hq => by
    have S := sc_speed_in
    refine ⟨_, (pss_one (ps_ret (pe_ifExp (pt_cmpR op_eq (pe_op op_mod (pv 0) pe_int) pe_int (nomark _)) (pe_tup (pa_cons (pe_op op_fdiv (pv 0) pe_int) (pa_cons pe_int pa_nil))) (pe_tup (pa_cons (pv 0) (pa_cons pe_int pa_nil)))))), ?_⟩
    walk_at "rd"
    refine iteD (fun z => ?_) (fun z => ?_)
    · have z : a % 2 = 0 := V.int.inj z
      walk_at "rd"
      refine ⟨by walk_at "sz", fun q nq => ?_⟩
      refine hq _ _ ⟨a / 2, 1, ⟨q, rfl, nq, by walk_at "ex", upd_same⟩, by omega, by omega, by omega, ?_⟩
      unfold spotR
      rw [Int.ediv_one, Int.emod_one, if_pos rfl]
      omega
    · have z : ¬ a % 2 = 0 := fun e => z (congrArg V.int e)
      walk_at "rd"
      refine ⟨by walk_at "sz", fun q nq => ?_⟩
      refine hq _ _ ⟨a, 2, ⟨q, rfl, nq, by walk_at "ex", upd_same⟩, pre, by omega, by omega, ?_⟩
      unfold spotR
      rw [if_neg z]
      omega)
def sp_word_of : Sp := mkSp (fun ((r, q, _) : Addr × Addr × List V × List Row × List Int × Int) => [.ref r, .ref q]) (fun (r, q, vs, rows, pa, z) H => H r = some (.tup vs) ∧ RowsAt H vs rows ∧ H q = some (.tup ((pa ++ [z]).map .int)) ∧ 0 ≤ z ∧ z < rows.length)
  (fun (_, _, _, rows, pa, z) H v H' => v = wV (wordAt rows (pa ++ [z])) ∧ H' = H)
abbrev s_word_of : Stmt := top 52
theorem sc_word_of : FnScope ["rows", "path"] ["rows", "path"] (C8.fnScope s_word_of) := C8.fnScope_by (by decide +kernel)
theorem c_word_of (T : Txt P w K mg base Z) : C8.Cal P w K mg base 1 "word_of" sp_word_of [] :=
  calD (k := 0) T.d_word_of sc_word_of (fun _ _ _ _ _ _ us h => by obtain ⟨_, _, rfl⟩ := us2 (by exact h); rfl) (fun _ => rfl) (fun cdv f A outer s H0 H Q E a hr pre hq => by
    have S := sc_word_of
    obtain ⟨r, q, vs, rows, pa, z⟩ := a
    obtain ⟨hr0, hv, hq0, z0, z1⟩ := pre
    have vl := paired_len hv
    obtain ⟨row, hrow⟩ : ∃ row, rows[z.toNat]? = some row := ⟨_, List.getElem?_eq_getElem (by omega)⟩
    obtain ⟨v, hv2⟩ : ∃ v, vs[z.toNat]? = some v := ⟨_, List.getElem?_eq_getElem (by omega)⟩
    have hrw := paired_get hv hv2 hrow
    have wa : wordAt rows (pa ++ [z]) = match rows[z.toNat]? with | some (.tell w) => some w | _ => none := by
      unfold wordAt
      rw [List.getLast?_append]
      rfl
    have last : atI ((pa ++ [z]).map V.int) (-1) = some (.int z) := by rw [List.map_append]; exact atI_last _ _
    have va : atI vs z = some v := atI_nat' z0 hv2
    refine ⟨_, (pss_one (ps_ret (pe_ifExp (pt_cmpR op_eq (pe_ix (ixT (K := K) rfl) (pe_ix (ixT (K := K) rfl) (pv 0) (pe_ix (ixT (K := K) rfl) (pv 1) (pe_un un_neg pe_int) (fun _ _ => rfl)) (fun _ _ => rfl)) pe_int (fun _ _ => rfl)) pe_str (nomark _)) (pe_ix (ixT (K := K) rfl) (pe_ix (ixT (K := K) rfl) (pv 0) (pe_ix (ixT (K := K) rfl) (pv 1) (pe_un un_neg pe_int) (fun _ _ => rfl)) (fun _ _ => rfl)) pe_int (fun _ _ => rfl)) pe_non))), ?_⟩
    walk_at "rd"
    refine ⟨_, _, _, _, rfl, rfl, sqT hq0, last, ?_⟩
    refine ⟨_, _, _, _, rfl, rfl, sqT hr0, va, ?_⟩
    cases row with
    | tell x =>
      obtain ⟨p, rfl, hp⟩ := hrw
      walk_at "rd"
      refine ⟨_, _, _, _, rfl, rfl, sqT hq0, last, ?_⟩
      refine ⟨_, _, _, _, rfl, rfl, sqT hr0, va, ?_⟩
      walk_at "rd"
      exact hq _ _ ⟨by rw [wa, hrow]; rfl, rfl⟩
    | look h es ts =>
      obtain ⟨p, e, t, rfl, hp, _, _⟩ := hrw
      walk_at "rd"
      exact hq _ _ ⟨by rw [wa, hrow]; rfl, rfl⟩)
theorem path_turn {rows : List Row} {s : Int} {m : Nat} {path : List Int} {at_ nx : Int} (h : stepR rows s at_ = some nx) : pathGo rows s (m + 1) path at_ = if nx ∈ path then path ++ [nx] else pathGo rows s m (path ++ [nx]) nx := by
  show (match stepR rows s at_ with
    | none => path
    | some nx => if nx ∈ path then path ++ [nx] else pathGo rows s m (path ++ [nx]) nx) = _
  rw [h]
theorem path_stop {rows : List Row} {s : Int} {m : Nat} {path : List Int} {at_ : Int} (h : stepR rows s at_ = none) : pathGo rows s m path at_ = path := by
  cases m with
  | zero => rfl
  | succ m =>
    show (match stepR rows s at_ with
      | none => path
      | some nx => if nx ∈ path then path ++ [nx] else pathGo rows s m (path ++ [nx]) nx) = _
    rw [h]
def RowsOk (rows : List Row) : Prop := 1 ≤ rows.length ∧ rows.length ≤ 20 ∧ ∀ r ∈ rows, RowOk rows.length r
def sp_path_of : Sp := mkSp (fun ((r, t, b, _) : Addr × Int × Int × List V × List Row) => [.ref r, .int t, .int b]) (fun (r, t, b, vs, rows) H => H r = some (.tup vs) ∧ RowsAt H vs rows ∧ RowsOk rows ∧ 0 ≤ t ∧ 1 ≤ b ∧ b < 2 ^ 29)
  (fun (_, t, b, _, rows) H v H' => NewT ((pathF rows (spotR t b)).map .int) H v H')
abbrev s_path_of : Stmt := top 51
theorem sc_path_of : FnScope ["rows", "top", "bottom", "path", "at"] ["rows", "top", "bottom"] (C8.fnScope s_path_of) := C8.fnScope_by (by decide +kernel)
theorem c_path_of (T : Txt P w K mg base Z) : C8.Cal P w K mg base 5 "path_of" sp_path_of [] :=
  calD (k := 4) T.d_path_of sc_path_of (fun _ _ _ _ _ _ us h => by obtain ⟨_, _, _, rfl⟩ := us3 (by exact h); rfl) (fun _ => rfl) (fun cdv f A outer s H0 H Q E a hr pre hq => by
    have S := sc_path_of
    obtain ⟨r, t, b, vs, rows⟩ := a
    obtain ⟨hr0, hv, ⟨n1, n2, ok⟩, t0, b1, b2⟩ := pre
    have vl := paired_len hv
    obtain ⟨s, hs⟩ : ∃ s, spotR t b = s := ⟨_, rfl⟩
    have hq : ∀ v H', NewT ((pathF rows s).map .int) H v H' → Q v H' := by
      rw [← hs]
      exact fun v H' h => hq v H' h
    refine ⟨_, (pss_cons (ps_par (i := 3) (j := 4) rfl S.nd rfl rfl (by decide) rfl rfl (pa_cons (pe_lst (pa_cons pe_int pa_nil)) (pa_cons pe_int pa_nil)) (by rfl))
  (pss_cons (ps_while PassesOwn.never (pt_cmpR op_eq (pe_ix (ixT (K := K) rfl) (pe_ix (ixT (K := K) rfl) (pv 0) (pv 4) (fun _ _ => rfl)) pe_int (fun _ _ => rfl)) pe_str (nomark _)) (pss_cons (ps_set (i := 4) S.nd rfl (Or.inl rfl) (C8.pe_c (c_goal_of T) hr (by decide) rfl (pa_cons (pe_ix (ixT (K := K) rfl) (pv 0) (pv 4) (fun _ _ => rfl)) (pa_cons (pv 1) (pa_cons (pv 2) pa_nil)))))
  (pss_cons (ps_if (pt_cmpR (inS (K := K) rfl) (pv 4) (pv 3) (by rfl)) (pss_one (ps_ret (pe_callTy (tupO (K := K) rfl) (by rfl) T.n_tuple (by decide +kernel) (pa_cons (pe_op op_cat (pv 3) (pe_lst (pa_cons (pv 4) pa_nil))) pa_nil)))) pss_nil)
  (pss_one (ps_expr (pe_bm PySem.F.plainAttrs_list PySem.F.slot_list_append PySem.F.type_list_append mt_append (pv 3) (pa_cons (pv 4) pa_nil)))))))
  (pss_one (ps_ret (pe_callTy (tupO (K := K) rfl) (by rfl) T.n_tuple (by decide +kernel) (pa_cons (pv 3) pa_nil)))))), ?_⟩
    walk_at "rd"
    refine ⟨by walk_at "sz", fun q nq => ?_⟩
    walk_at "rd"
    refine ⟨fun m σ H' => ∃ (path : List Int) (at_ : Int), σ = [some (.ref r), some (.int t), some (.int b), some (.ref q), some (.int at_)] ∧ Ex H H' ∧ H' q = some (.lst (path.map .int)) ∧ path.Nodup ∧ (∀ x ∈ path, 0 ≤ x ∧ x < (rows.length : Int)) ∧ at_ ∈ path ∧ pathF rows s = pathGo rows s m path at_ ∧ m + path.length = rows.length + 1,
      ⟨rows.length, [0], 0, rfl, by walk_at "ex", upd_same, by simp, by simp; omega, by simp, rfl, rfl⟩, ?_⟩
    rintro m σ H' ⟨path, at_, rfl, e, hq1, nd, rng, mem, hpf, hm⟩
    have ra := rng at_ mem
    have pl := nodup_le rows.length path nd rng
    obtain ⟨row, hrow⟩ : ∃ row, rows[at_.toNat]? = some row := ⟨_, List.getElem?_eq_getElem (by omega)⟩
    obtain ⟨v, hv2⟩ : ∃ v, vs[at_.toNat]? = some v := ⟨_, List.getElem?_eq_getElem (by omega)⟩
    have hrw := rowV_ex (paired_get hv hv2 hrow) e
    have va : atI vs at_ = some v := atI_nat' ra.1 hv2
    have hr1 := e _ _ hr0
    have hok := ok row (List.mem_of_getElem? hrow)
    walk_at "rd"
    refine ⟨_, _, _, _, rfl, rfl, sqT hr1, va, ?_⟩
    cases row with
    | tell x =>
      obtain ⟨p, rfl, hp⟩ := hrw
      walk_at "rd"
      refine ⟨_, _, rfl, .inl ⟨sqL hq1, fun u nu => ?_⟩⟩
      have st : stepR rows s at_ = none := by unfold stepR; rw [hrow]
      rw [path_stop st] at hpf
      exact hq _ _ ⟨u, rfl, e.back nu, by walk_at "ex", by rw [hpf]; exact upd_same⟩
    | look h es ts =>
      cases hok with
      | look h1 h2 en l ht =>
        have st : stepR rows s at_ = some (goalS h es ts s) := by unfold stepR; rw [hrow]
        have gm := ht _ (goalS_get (h := h) (s := s) l).2
        obtain ⟨m, rfl⟩ : ∃ m', m = m' + 1 := ⟨m - 1, by omega⟩
        rw [path_turn st] at hpf
        have hrw2 := hrw
        obtain ⟨p, e1, t1, rfl, hp, _, _⟩ := hrw
        walk_at "rd"
        refine ⟨fun σ6 H6 => Hold (∃ (path : List Int) (at_ : Int), σ6 = [some (.ref r), some (.int t), some (.int b), some (.ref q), some (.int at_)] ∧ Ex H H6 ∧ H6 q = some (.lst (path.map .int)) ∧ path.Nodup ∧ (∀ x ∈ path, 0 ≤ x ∧ x < (rows.length : Int)) ∧ at_ ∈ path ∧ pathF rows s = pathGo rows s m path at_ ∧ m + path.length = rows.length + 1), ?_, ?_⟩
        · intro σ6 H6 hP
          exact ⟨m, by omega, hP.out⟩
        · walk_at "rd"
          refine ⟨_, _, _, _, rfl, rfl, sqT hr1, va, ?_⟩
          walk_at "rd"
          refine ⟨(p, t, b, h, es, ts), rfl, ⟨hrw2, h1, h2, en, l, t0, b1, b2⟩, ?_⟩
          rintro v H2 ⟨rfl, e2⟩
          rw [hs]
          have hq2 := e2 _ _ hq1
          walk_at "rd"
          refine ⟨flat_ints, ?_⟩
          rw [inV_int]
          walk_at "rd"
          refine iteD (fun z => ?_) (fun z => ?_)
          · walk_at "rd"
            refine ⟨by walk_at "sz", fun u nu => ?_⟩
            refine ⟨_, _, _, _, rfl, rfl, upd_old hq2 nu, upd_same, szL (by rw [List.length_map]; show path.length + 1 ≤ _; omega), fun u2 nu2 => ?_⟩
            walk_at "rd"
            refine ⟨_, _, rfl, .inl ⟨sqL upd_same, fun u3 nu3 => ?_⟩⟩
            rw [if_pos z] at hpf
            have e3 := e.trans e2
            refine hq _ _ ⟨u3, rfl, e3.back (upd_none (upd_none nu3)), by walk_at "ex", ?_⟩
            rw [hpf, List.map_append]
            exact upd_same
          · rw [if_neg z] at hpf
            walk_at "rd"
            refine ⟨_, _, _, rfl, rfl, hq2, szlt (by rw [List.length_map]; omega), ?_⟩
            refine .of ⟨path ++ [goalS h es ts s], _, rfl, (e.trans e2).mut nq, by rw [List.map_append]; exact upd_same, ?_, ?_, by simp, hpf, by simp; omega⟩
            · rw [List.nodup_append]
              exact ⟨nd, by simp, fun x hx y hy => by simp at hy; subst hy; intro h; subst h; exact z hx⟩
            · intro x hx
              rw [List.mem_append] at hx
              rcases hx with hx | hx
              · exact rng x hx
              · simp at hx
                rw [hx]
                exact gm)
end
end Ff
end
section
set_option maxRecDepth 100000
set_option maxHeartbeats 4000000
/-! pieces_of; Program. -/
namespace Ff
open PySem PySem.Spec PyProof.Rows L2
local macro_rules | `(tactic| walk_at "ex") => `(tactic| first
  | exact Ex.refl _
  | with_reducible assumption
  | (refine Ex.new ?_ (by with_reducible assumption); walk_at "ex")
  | (refine Ex.mut ?_ (by walk_at "hn"); walk_at "ex")
  | (refine Ex.trans ?_ (by with_reducible assumption); walk_at "ex"))
local macro_rules | `(tactic| walk_at "hn") => `(tactic| first
  | with_reducible assumption
  | exact Ex.back (by with_reducible assumption) (by with_reducible assumption)
  | exact upd_none (by with_reducible assumption)
  | exact upd_none (upd_none (by with_reducible assumption))
  | exact Ex.back (by with_reducible assumption) (upd_none (by with_reducible assumption))
  | exact Ex.back (by with_reducible assumption) (Ex.back (by with_reducible assumption) (by with_reducible assumption)))
local macro_rules | `(tactic| walk_at "hp") => `(tactic| first
  | with_reducible assumption
  | with_reducible exact upd_same
  | (refine Ex.at (by with_reducible assumption) ?_; walk_at "ex")
  | (refine upd_old ?_ (by with_reducible assumption); walk_at "hp")
  | (refine upd_off ?_ (by with_reducible assumption); walk_at "hp"))
local macro_rules | `(tactic| walk_at "sd") => `(tactic| ((try dsimp only [CMul, CDiv, CPow]); first | exact True.intro | omega | (with_reducible assumption)))
local macro_rules | `(tactic| walk_at "sz") => `(tactic| exact Nat.le_of_ble_eq_true rfl)
local macro_rules | `(tactic| walk_at "is") => `(tactic| first
  | refine ⟨_, _, _, _, _, rfl, .ty _, .base (.int _), kt_int, ?_⟩
  | refine ⟨_, _, _, _, _, rfl, .ty _, .base (.int _), kt_intb, ?_⟩
  | refine ⟨_, _, _, _, _, rfl, .ty _, .base (.bl _), kt_bool, ?_⟩
  | refine ⟨_, _, _, _, _, rfl, .ty _, .base (.str _), kt_str, ?_⟩
  | refine ⟨_, _, _, _, _, rfl, .ty _, .base (.tup (by walk_at "hp")), kt_tup, ?_⟩
  | refine ⟨_, _, _, _, _, rfl, .ty _, .base (.dK (by walk_at "hp")), kt_dict, ?_⟩)
local macro_rules | `(tactic| walk_at "rd1") => `(tactic| first
  | refine ⟨_, rfl, ?_⟩
  | refine ⟨_, _, rfl, rfl, And.intro (by walk_at "sd") ?_⟩
  | refine ⟨_, _, rfl, rfl, ?_⟩
  | refine ⟨rfl, ?_⟩
  | refine ⟨_, _, _, _, rfl, rfl, sqT (by walk_at "hp"), rfl, ?_⟩
  | refine ⟨_, _, _, _, rfl, rfl, sqL (by walk_at "hp"), rfl, ?_⟩
  | refine ⟨_, _, rfl, sqT (by walk_at "hp"), rfl, ?_⟩
  | refine ⟨_, _, _, _, _, rfl, by walk_at "hp", by assumption, by assumption, rfl, ?_⟩
  | refine ⟨.inl ⟨rfl, _, sqL (by walk_at "hp")⟩, ?_⟩
  | refine ⟨_, _, rfl, .inl (sqL (by walk_at "hp")), ?_⟩
  | refine ⟨_, _, rfl, .inr (sqT (by walk_at "hp")), ?_⟩
  | refine ⟨(_, _), rfl, ?_⟩
  | refine ⟨(_, _, _), rfl, ?_⟩
  | refine ⟨(_, _, _, _), rfl, ?_⟩
  | refine ⟨_, _, rfl, ?_⟩
  | refine ⟨_, _, _, rfl, ?_⟩
  | walk_at "is")
local macro_rules | `(tactic| walk_at "rd") => `(tactic| repeat walk_at "rd1")

local macro_rules | `(tactic| walk_at "ib") => `(tactic| refine .inr ⟨_, rfl, ?_⟩)
local macro_rules | `(tactic| walk_at "ii") => `(tactic| refine .inl ⟨_, rfl, ?_⟩)
structure PoSt (rs : List Int) (i b : Nat) (ps : List Pc) : Prop where
  sp : ∀ k, Span ps k ↔ ∃ j : Nat, j < b ∧ rs[j]? = some k
  le : b ≤ i
  run : ∀ (j : Nat) x y, b ≤ j → j ≤ i → rs[b]? = some x → rs[j]? = some y → y = x + ((j : Int) - b)
  ok : ∀ x ∈ ps, ∃ a z, x = pcOf a z ∧ a ∈ rs ∧ z ∈ rs ∧ a ≤ z
  ln : ps.length ≤ b
  fin : i = rs.length → b = i
theorem PoSt.start {rs : List Int} : PoSt rs 0 0 [] := by
  refine ⟨fun k => ⟨?_, ?_⟩, by omega, fun j x y h1 h2 hx hy => ?_, by simp, by simp, fun _ => rfl⟩
  · rintro ⟨x, hx, _⟩
    simp at hx
  · rintro ⟨j, h, _⟩
    omega
  · have : j = 0 := by omega
    subst this
    rw [hx] at hy
    cases hy
    simp
theorem PoSt.go {rs : List Int} {i b : Nat} {ps : List Pc} (s : PoSt rs i b ps) {x y : Int} (hx : rs[i]? = some x) (hy : rs[i + 1]? = some y) (h : y = x + 1) : PoSt rs (i + 1) b ps := by
  have le := s.le
  have hi := (List.getElem?_eq_some_iff.mp hy).1
  refine ⟨s.sp, by omega, fun j u v h1 h2 hu hv => ?_, s.ok, s.ln, fun e => by omega⟩
  by_cases q : j = i + 1
  · subst q
    rw [hy] at hv
    cases hv
    have := s.run i u x le (by omega) hu hx
    omega
  · exact s.run j u v h1 (by omega) hu hv
theorem PoSt.cut {rs : List Int} {i b : Nat} {ps : List Pc} (s : PoSt rs i b ps) (inc : rs.Pairwise (· < ·)) {f x : Int} (hf : rs[b]? = some f) (hx : rs[i]? = some x) : PoSt rs (i + 1) (i + 1) (ps ++ [pcOf f x]) := by
  have le := s.le
  have hi := (List.getElem?_eq_some_iff.mp hx).1
  have xf := s.run i f x le (by omega) hf hx
  refine ⟨fun k => ⟨?_, ?_⟩, by omega, fun j u v h1 h2 hu hv => ?_, fun y hy => ?_, by have := s.ln; simp; omega, fun e => rfl⟩
  · rintro ⟨y, hy, l, r⟩
    rw [List.mem_append] at hy
    rcases hy with hy | hy
    · obtain ⟨j, hj, e⟩ := (s.sp k).mp ⟨y, hy, l, r⟩
      exact ⟨j, by omega, e⟩
    · simp at hy
      subst hy
      rw [pcOf_L] at l
      rw [pcOf_R] at r
      have hj : b + (k - f).toNat ≤ i := by omega
      obtain ⟨y, hy⟩ : ∃ y, rs[b + (k - f).toNat]? = some y := ⟨_, List.getElem?_eq_getElem (by omega)⟩
      have := s.run _ f y (by omega) hj hf hy
      refine ⟨b + (k - f).toNat, by omega, ?_⟩
      rw [hy]
      congr 1
      omega
  · rintro ⟨j, hj, e⟩
    by_cases q : j < b
    · obtain ⟨y, hy, h⟩ := (s.sp k).mpr ⟨j, q, e⟩
      exact ⟨y, List.mem_append_left _ hy, h⟩
    · have := s.run j f k (by omega) (by omega) hf e
      exact ⟨pcOf f x, by simp, by rw [pcOf_L]; omega, by rw [pcOf_R]; omega⟩
  · have : j = i + 1 := by omega
    subst this
    rw [hu] at hv
    cases hv
    omega
  · rw [List.mem_append] at hy
    rcases hy with hy | hy
    · exact s.ok y hy
    · simp at hy
      exact ⟨f, x, hy, List.mem_of_getElem? hf, List.mem_of_getElem? hx, by omega⟩
theorem PoSt.done {rs : List Int} {b : Nat} {ps : List Pc} (s : PoSt rs rs.length b ps) : (∀ k, Span ps k ↔ k ∈ rs) ∧ ps.length ≤ rs.length := by
  have e := s.fin rfl
  subst e
  refine ⟨fun k => (s.sp k).trans ⟨?_, ?_⟩, s.ln⟩
  · rintro ⟨j, _, e⟩
    exact List.mem_of_getElem? e
  · intro h
    obtain ⟨j, hj, e⟩ := List.getElem_of_mem h
    exact ⟨j, hj, by rw [List.getElem?_eq_getElem hj, e]⟩
section
variable {P : Program} {w : World} {K : PySem.W.Frag} {mg : PySem.Str → Option Value} {base : Heap} {Z : Adr}
def sp_pieces_of : Sp := mkSp (fun ((p, _) : Addr × List Int) => [.ref p]) (fun (p, rs) H => H p = some (.lst (rs.map .int)) ∧ rs.Pairwise (· < ·) ∧ rs.length ≤ 30000)
  (fun (_, rs) H v H' => ∃ p vs ps, v = .ref p ∧ H p = none ∧ Ex H H' ∧ H' p = some (.lst vs) ∧ PcsAt H' vs ps ∧ (∀ k, Span ps k ↔ k ∈ rs) ∧ (∀ x ∈ ps, ∃ a z, x = pcOf a z ∧ a ∈ rs ∧ z ∈ rs ∧ a ≤ z) ∧ ps.length ≤ rs.length)
abbrev s_pieces_of : Stmt := top 58
theorem sc_pieces_of : FnScope ["regions", "found", "begin", "at", "first", "last"] ["regions"] (C8.fnScope s_pieces_of) := C8.fnScope_by (by decide +kernel)
theorem c_pieces_of (T : Txt P w K mg base Z) : C8.Cal P w K mg base 1 "pieces_of" sp_pieces_of [] :=
  calD (k := 0) T.d_pieces_of sc_pieces_of (fun _ _ _ _ _ _ us h => by obtain ⟨_, rfl⟩ := us1 (by exact h); rfl) (fun _ => rfl) (fun cdv f A outer s H0 H Q E a hr pre hq => by
    have S := sc_pieces_of
    obtain ⟨p, rs⟩ := a
    obtain ⟨hp, inc, ln⟩ := pre
    refine ⟨_, (pss_cons (ps_par (i := 1) (j := 2) rfl S.nd rfl rfl (by decide) rfl rfl (pa_cons (pe_lst pa_nil) (pa_cons pe_int pa_nil)) (by rfl))
  (pss_cons (ps_for PassesOwn.never rfl (pi_range1 (by rfl) T.n_range (pa_cons (pe_callB (lenS (K := K) rfl) (by rfl) T.n_len (by decide +kernel) (pa_cons (pv 0) pa_nil)) pa_nil)) (pg_name (i := 3) S.nd rfl (Or.inl rfl)) (pss_one (ps_if (PW.pt (pw_or (pt_cmpR op_eq (pe_op op_add (pv 3) pe_int) (pe_callB (lenS (K := K) rfl) (by rfl) T.n_len (by decide +kernel) (pa_cons (pv 0) pa_nil)) (nomark _)) (pw_or1 (pt_cmpR op_ne (pe_ix (ixL (K := K) rfl) (pv 0) (pe_op op_add (pv 3) pe_int) (fun _ _ => rfl)) (pe_op op_add (pe_ix (ixL (K := K) rfl) (pv 0) (pv 3) (fun _ _ => rfl)) pe_int) (nomark _))))) (pss_cons (ps_par (i := 4) (j := 5) rfl S.nd rfl rfl (by decide) rfl rfl (pa_cons (pe_ix (ixL (K := K) rfl) (pv 0) (pv 2) (fun _ _ => rfl)) (pa_cons (pe_ix (ixL (K := K) rfl) (pv 0) (pv 3) (fun _ _ => rfl)) pa_nil)) (by rfl))
  (pss_cons (ps_expr (pe_bm PySem.F.plainAttrs_list PySem.F.slot_list_append PySem.F.type_list_append mt_append (pv 1) (pa_cons (pe_tup (pa_cons (pe_op op_fdiv (pv 4) pe_int) (pa_cons (pe_cmpR op_eq (pe_op op_mod (pv 4) pe_int) pe_int (nomark _)) (pa_cons (pe_op op_fdiv (pe_op op_add (pv 5) pe_int) pe_int) (pa_cons (pe_cmpR op_eq (pe_op op_mod (pv 5) pe_int) pe_int (nomark _)) pa_nil))))) pa_nil)))
  (pss_one (ps_set (i := 2) S.nd rfl (Or.inl rfl) (pe_op op_add (pv 3) pe_int))))) pss_nil)))
  (pss_one (ps_ret (pv 1))))), ?_⟩
    walk_at "rd"
    refine ⟨by walk_at "sz", fun f nf => ?_⟩
    walk_at "rd"
    rw [List.length_map]
    refine ⟨by omega, by omega, ?_⟩
    refine for_it (walk_r0 (n := rs.length)) (fun i σ H' => Hold (Ex H H' ∧ ∃ (b : Nat) (vs : List V) (ps : List Pc) (o1 o2 o3 : Option V), σ = [some (.ref p), some (.ref f), some (.int (b : Int)), o1, o2, o3] ∧ H' f = some (.lst vs) ∧ PcsAt H' vs ps ∧ PoSt rs i b ps))
      (.of ⟨by walk_at "ex", 0, [], [], _, _, _, rfl, upd_same, .nil, PoSt.start⟩) (fun _ _ _ _ _ => trivial) ?_ ?_
    · rintro i x σ H2 H3 hi hP ⟨rfl, rfl⟩
      obtain ⟨e, b, vs, ps, o1, o2, o3, rfl, hf, hv, st⟩ := hP.out
      clear hP
      have hi : i < rs.length := hi
      have ble := st.le
      obtain ⟨x, hx⟩ : ∃ x, rs[i]? = some x := ⟨_, List.getElem?_eq_getElem hi⟩
      obtain ⟨fs, hfs⟩ : ∃ x, rs[b]? = some x := ⟨_, List.getElem?_eq_getElem (by omega)⟩
      have ax : atI (rs.map V.int) (i : Int) = some (.int x) := atI_nat (by rw [List.getElem?_map, hx]; rfl)
      have af : atI (rs.map V.int) (b : Int) = some (.int fs) := atI_nat (by rw [List.getElem?_map, hfs]; rfl)
      have hp3 := e _ _ hp
      have lv := paired_len hv
      have pl := st.ln
      walk_at "rd"
      rw [List.length_map, dInt]
      refine iteD (fun z => ?_) (fun z => ?_)
      · walk_at "rd"
        refine ⟨_, _, _, _, rfl, rfl, sqL hp3, af, ?_⟩
        walk_at "rd"
        refine ⟨_, _, _, _, rfl, rfl, sqL hp3, ax, ?_⟩
        walk_at "rd"
        refine ⟨by walk_at "sz", fun u nu => ?_⟩
        refine ⟨_, _, _, rfl, rfl, by walk_at "hp", szlt (by omega), ?_⟩
        walk_at "rd"
        have q : HO.tup [V.int (fs / 2), .bl (decide (V.int (fs % 2) = V.int 0)), .int ((x + 1) / 2), .bl (decide (V.int (x % 2) = V.int 0))] = .tup (pcV (pcOf fs x)) := by
          simp only [dInt]
          rfl
        have uf : u ≠ f := fun z => by
          rw [z, hf] at nu
          cases nu
        exact .of ⟨by walk_at "ex", i + 1, vs ++ [.ref u], ps ++ [pcOf fs x], _, _, _, rfl, upd_same, paired_app ⟨u, rfl, (upd_off upd_same uf).trans (congrArg some q)⟩ ((hv.ex (Ex.new (Ex.refl _) nu)).mut (upd_old hf nu)), st.cut inc hfs hx⟩
      · have hi2 : i + 1 < rs.length := by omega
        obtain ⟨y, hy⟩ : ∃ y, rs[i + 1]? = some y := ⟨_, List.getElem?_eq_getElem hi2⟩
        have ay : atI (rs.map V.int) ((i : Int) + 1) = some (.int y) := atI_nat (j := i + 1) (by rw [List.getElem?_map, hy]; rfl)
        walk_at "rd"
        refine ⟨_, _, _, _, rfl, rfl, sqL hp3, ay, ?_⟩
        walk_at "rd"
        refine ⟨_, _, _, _, rfl, rfl, sqL hp3, ax, ?_⟩
        walk_at "rd"
        rw [dInt]
        by_cases z2 : y = x + 1
        · rw [decide_eq_true z2]
          walk_at "rd"
          exact .of ⟨e, b, vs, ps, _, _, _, rfl, hf, hv, st.go hx hy z2⟩
        · rw [decide_eq_false z2]
          walk_at "rd"
          refine ⟨_, _, _, _, rfl, rfl, sqL hp3, af, ?_⟩
          walk_at "rd"
          refine ⟨_, _, _, _, rfl, rfl, sqL hp3, ax, ?_⟩
          walk_at "rd"
          refine ⟨by walk_at "sz", fun u nu => ?_⟩
          refine ⟨_, _, _, rfl, rfl, by walk_at "hp", szlt (by omega), ?_⟩
          walk_at "rd"
          have q : HO.tup [V.int (fs / 2), .bl (decide (V.int (fs % 2) = V.int 0)), .int ((x + 1) / 2), .bl (decide (V.int (x % 2) = V.int 0))] = .tup (pcV (pcOf fs x)) := by
            simp only [dInt]
            rfl
          have uf : u ≠ f := fun z => by
            rw [z, hf] at nu
            cases nu
          exact .of ⟨by walk_at "ex", i + 1, vs ++ [.ref u], ps ++ [pcOf fs x], _, _, _, rfl, upd_same, paired_app ⟨u, rfl, (upd_off upd_same uf).trans (congrArg some q)⟩ ((hv.ex (Ex.new (Ex.refl _) nu)).mut (upd_old hf nu)), st.cut inc hfs hx⟩
    · intro σ H' hP
      obtain ⟨e, b, vs, ps, o1, o2, o3, rfl, hf, hv, st⟩ := hP.out
      walk_at "rd"
      exact hq _ _ ⟨f, vs, ps, rfl, nf, e, hf, hv, st.done.1, st.ok, st.done.2⟩)
end
end Ff
end
section
set_option maxRecDepth 100000
set_option maxHeartbeats 4000000
/-! Program. -/
namespace Ff
open PySem PySem.Spec PyProof.Rows L2
local macro_rules | `(tactic| walk_at "ex") => `(tactic| first
  | exact Ex.refl _
  | with_reducible assumption
  | (refine Ex.new ?_ (by with_reducible assumption); walk_at "ex")
  | (refine Ex.mut ?_ (by walk_at "hn"); walk_at "ex")
  | (refine Ex.trans ?_ (by with_reducible assumption); walk_at "ex"))
local macro_rules | `(tactic| walk_at "hn") => `(tactic| first
  | with_reducible assumption
  | exact Ex.back (by with_reducible assumption) (by with_reducible assumption)
  | exact upd_none (by with_reducible assumption)
  | exact upd_none (upd_none (by with_reducible assumption))
  | exact Ex.back (by with_reducible assumption) (upd_none (by with_reducible assumption))
  | exact Ex.back (by with_reducible assumption) (Ex.back (by with_reducible assumption) (by with_reducible assumption)))
local macro_rules | `(tactic| walk_at "hp") => `(tactic| first
  | with_reducible assumption
  | with_reducible exact upd_same
  | (refine Ex.at (by with_reducible assumption) ?_; walk_at "ex")
  | (refine upd_old ?_ (by with_reducible assumption); walk_at "hp")
  | (refine upd_off ?_ (by with_reducible assumption); walk_at "hp"))
local macro_rules | `(tactic| walk_at "sd") => `(tactic| ((try dsimp only [CMul, CDiv, CPow]); first | exact True.intro | omega | (with_reducible assumption)))
local macro_rules | `(tactic| walk_at "sz") => `(tactic| exact Nat.le_of_ble_eq_true rfl)
local macro_rules | `(tactic| walk_at "is") => `(tactic| first
  | refine ⟨_, _, _, _, _, rfl, .ty _, .base (.int _), kt_int, ?_⟩
  | refine ⟨_, _, _, _, _, rfl, .ty _, .base (.int _), kt_intb, ?_⟩
  | refine ⟨_, _, _, _, _, rfl, .ty _, .base (.bl _), kt_bool, ?_⟩
  | refine ⟨_, _, _, _, _, rfl, .ty _, .base (.str _), kt_str, ?_⟩
  | refine ⟨_, _, _, _, _, rfl, .ty _, .base (.tup (by walk_at "hp")), kt_tup, ?_⟩
  | refine ⟨_, _, _, _, _, rfl, .ty _, .base (.dK (by walk_at "hp")), kt_dict, ?_⟩)
local macro_rules | `(tactic| walk_at "rd1") => `(tactic| first
  | refine ⟨_, rfl, ?_⟩
  | refine ⟨_, _, rfl, rfl, And.intro (by walk_at "sd") ?_⟩
  | refine ⟨_, _, rfl, rfl, ?_⟩
  | refine ⟨rfl, ?_⟩
  | refine ⟨_, _, _, _, rfl, rfl, sqT (by walk_at "hp"), rfl, ?_⟩
  | refine ⟨_, _, _, _, rfl, rfl, sqL (by walk_at "hp"), rfl, ?_⟩
  | refine ⟨_, _, rfl, sqT (by walk_at "hp"), rfl, ?_⟩
  | refine ⟨_, _, _, _, _, rfl, by walk_at "hp", by assumption, by assumption, rfl, ?_⟩
  | refine ⟨.inl ⟨rfl, _, sqL (by walk_at "hp")⟩, ?_⟩
  | refine ⟨_, _, rfl, .inl (sqL (by walk_at "hp")), ?_⟩
  | refine ⟨_, _, rfl, .inr (sqT (by walk_at "hp")), ?_⟩
  | refine ⟨(_, _), rfl, ?_⟩
  | refine ⟨(_, _, _), rfl, ?_⟩
  | refine ⟨(_, _, _, _), rfl, ?_⟩
  | refine ⟨_, _, rfl, ?_⟩
  | refine ⟨_, _, _, rfl, ?_⟩
  | walk_at "is")
local macro_rules | `(tactic| walk_at "rd") => `(tactic| repeat walk_at "rd1")

local macro_rules | `(tactic| walk_at "ib") => `(tactic| refine .inr ⟨_, rfl, ?_⟩)
local macro_rules | `(tactic| walk_at "ii") => `(tactic| refine .inl ⟨_, rfl, ?_⟩)
def rowD : Row → PyData
  | .tell w => .tuple [.str "tell", .str w]
  | .look h es ts => .tuple [.str "look", .int h, .tuple (es.map .int), .tuple (ts.map .int)]
theorem dp_intsT {K : PySem.W.Frag} {H : Hp} {a : Addr} {l : List Int} (h : H a = some (.tup (l.map .int))) : Dp K H (.ref a) (.tuple (l.map .int)) := by
  refine .tup (sqT h) ?_
  clear h
  induction l with
  | nil => exact .nil
  | cons b bs ih => exact .cons (.int b) ih
theorem dp_row {K : PySem.W.Frag} {H : Hp} {v : V} {r : Row} (h : rowV H v r) : Dp K H v (rowD r) := by
  cases r with
  | tell w =>
    obtain ⟨p, rfl, hp⟩ := h
    exact .tup (sqT hp) (.cons (.str _) (.cons (.str _) .nil))
  | look h es ts =>
    obtain ⟨p, e, t, rfl, hp, he, ht⟩ := h
    exact .tup (sqT hp) (.cons (.str _) (.cons (.int _) (.cons (dp_intsT he) (.cons (dp_intsT ht) .nil))))
theorem dp_rows {K : PySem.W.Frag} {H : Hp} {t : Addr} {vs : List V} {rows : List Row} (ht : H t = some (.tup vs)) (h : RowsAt H vs rows) : Dp K H (.ref t) (.tuple (rows.map rowD)) := by
  refine .tup (sqT ht) ?_
  clear ht
  unfold RowsAt at h
  induction rows generalizing vs with
  | nil => cases h; exact .nil
  | cons r rows ih =>
    cases h with
    | cons a b => exact .cons (dp_row a) (ih b)
theorem word_strOk {w : PySem.Str} (h : WordOk w) : PyData.strOk w = true := by
  unfold PyData.strOk
  rw [← Array.all_toList, List.all_eq_true]
  intro c hc
  have := h.ab c hc
  have all : ∀ c ∈ letters.cps.toList, decide (c < 1114112) = true := by decide +kernel
  exact all c this
theorem ints_lay (l : List Int) : PyData.canLayAll0 (l.map .int) = true ∧ PyData.depthAll (l.map .int) ≤ 1 := by
  induction l with
  | nil => simp [PyData.canLayAll0, PyData.depthAll]
  | cons b l ih => simp [PyData.canLayAll0, PyData.canLay0, PyData.depthAll, PyData.depth, ih.1]; have := ih.2; try omega
theorem row_lay {n : Int} {r : Row} (h : RowOk n r) : (rowD r).canLay0 = true ∧ (rowD r).depth ≤ 5 := by
  have t1 : PyData.strOk ("tell" : PySem.Str) = true := by decide +kernel
  have t2 : PyData.strOk ("look" : PySem.Str) = true := by decide +kernel
  cases h with
  | tell hw => simp [rowD, PyData.canLay0, PyData.canLayAll0, PyData.depth, PyData.depthAll, word_strOk hw, t1]
  | @look h es ts _ _ _ _ _ =>
    have a := ints_lay es
    have b := ints_lay ts
    refine ⟨by simp [rowD, PyData.canLay0, PyData.canLayAll0, t2, a.1, b.1], ?_⟩
    have := a.2
    have := b.2
    simp [rowD, PyData.depth, PyData.depthAll]
    omega
theorem rows_shaped {rows : List Row} (h : RowsOk rows) : SeqAt.shaped (.tuple (rows.map rowD)) = true := by
  have go : ∀ l : List Row, (∀ r ∈ l, RowOk rows.length r) → PyData.canLayAll0 (l.map rowD) = true ∧ PyData.depthAll (l.map rowD) ≤ 5 := by
    intro l
    induction l with
    | nil => intro _; simp [PyData.canLayAll0, PyData.depthAll]
    | cons r l ih =>
      intro hl
      have a := row_lay (hl r (by simp))
      have b := ih fun x hx => hl x (by simp [hx])
      simp [PyData.canLayAll0, PyData.depthAll, a.1, b.1]
      omega
  have g := go rows h.2.2
  unfold SeqAt.shaped
  simp [PyData.canLay0, PyData.depth, g.1]
  omega
theorem rows_ne {rows : List Row} (h : RowsOk rows) : PyData.eqv (.tuple (rows.map rowD)) (.tuple []) = false := by
  have := h.1
  cases rows with
  | nil => simp at this
  | cons r l => simp [PyData.eqv, PyData.eqvAll]
structure HalvesOk (rows : List Row) (hs : List Int) : Prop where
  mem : ∀ k, k ∈ hs ↔ ∃ es ts, Row.look k es ts ∈ rows
  inc : hs.Pairwise (· < ·)
  ln : hs.length ≤ 20
def ProgAt (Z : Adr) (H : Hp) (x : Addr) (rows : List Row) (hs : List Int) : Prop := ∃ dx t e vs, H x = some (.ins Z.prog dx [("p_rows", .ref t), ("p_halves", .ref e)]) ∧ H t = some (.tup vs) ∧ RowsAt H vs rows ∧ H e = some (.tup (hs.map .int)) ∧ HalvesOk rows hs ∧ RowsOk rows
theorem ProgAt.ex {Z : Adr} {H H' : Hp} {x : Addr} {rows : List Row} {hs : List Int} (h : ProgAt Z H x rows hs) (e : Ex H H') : ProgAt Z H' x rows hs := by
  obtain ⟨dx, t, a, vs, h1, h2, h3, h4, h5, h6⟩ := h
  exact ⟨dx, t, a, vs, e _ _ h1, e _ _ h2, h3.ex e, e _ _ h4, h5, h6⟩
section
variable {P : Program} {w : World} {K : PySem.W.Frag} {mg : PySem.Str → Option Value} {base : Heap} {Z : Adr}
def sp_Program_rows (Z : Adr) : Sp := mkSp (fun ((x, _) : Addr × List Row × List Int) => [.ref x]) (fun (x, rows, hs) H => ProgAt Z H x rows hs) (fun (_, rows, _) H v H' => ∃ t vs, v = .ref t ∧ H' = H ∧ H t = some (.tup vs) ∧ RowsAt H vs rows)
abbrev s_Program_rows : Stmt := inClass (top 53) 1
theorem sc_Program_rows : FnScope ["self"] ["self"] (C8.fnScope s_Program_rows) := C8.fnScope_by (by decide +kernel)
theorem c_Program_rows (T : Txt P w K mg base Z) : Pro P w K mg base 1 Z.prog "rows" (sp_Program_rows Z) :=
  proD (k := 0) T.p_Program_rows sc_Program_rows (fun _ _ _ _ _ _ us h => by obtain ⟨_, rfl⟩ := us1 (by exact h); rfl) (fun _ => rfl) (fun cdv f A outer s H0 H Q E a hr pre hq => by
    have S := sc_Program_rows
    obtain ⟨x, rows, hs⟩ := a
    obtain ⟨dx, t, e, vs, hx, ht, hv, he, _, _⟩ := pre
    have c1 := T.cl_Program
    have c2 := T.na_p_rows
    refine ⟨_, (pss_one (ps_ret (fldK (K := K) rfl (pv 0) rfl))), ?_⟩
    walk_at "rd"
    exact hq _ _ ⟨t, vs, rfl, rfl, ht, hv⟩)
def sp_Program_halves (Z : Adr) : Sp := mkSp (fun ((x, _) : Addr × List Row × List Int) => [.ref x]) (fun (x, rows, hs) H => ProgAt Z H x rows hs) (fun (_, _, hs) H v H' => ∃ e, v = .ref e ∧ H' = H ∧ H e = some (.tup (hs.map .int)))
abbrev s_Program_halves : Stmt := inClass (top 53) 2
theorem sc_Program_halves : FnScope ["self"] ["self"] (C8.fnScope s_Program_halves) := C8.fnScope_by (by decide +kernel)
theorem c_Program_halves (T : Txt P w K mg base Z) : Pro P w K mg base 1 Z.prog "halves" (sp_Program_halves Z) :=
  proD (k := 0) T.p_Program_halves sc_Program_halves (fun _ _ _ _ _ _ us h => by obtain ⟨_, rfl⟩ := us1 (by exact h); rfl) (fun _ => rfl) (fun cdv f A outer s H0 H Q E a hr pre hq => by
    have S := sc_Program_halves
    obtain ⟨x, rows, hs⟩ := a
    obtain ⟨dx, t, e, vs, hx, ht, hv, he, _, _⟩ := pre
    have c1 := T.cl_Program
    have c2 := T.na_p_halves
    refine ⟨_, (pss_one (ps_ret (fldK (K := K) rfl (pv 0) rfl))), ?_⟩
    walk_at "rd"
    exact hq _ _ ⟨e, rfl, rfl, he⟩)
def sp_Program_init (Z : Adr) : Sp := mkSp (fun ((_, x, _, t, _) : Hp × Addr × Addr × Addr × List V × List Row) => [.ref x, .ref t])
  (fun (H1, x, dx, t, vs, rows) H => H1 x = none ∧ H1 dx = none ∧ dx ≠ x ∧ H = upd (upd H1 dx (.own x)) x (.ins Z.prog dx []) ∧ H1 t = some (.tup vs) ∧ RowsAt H1 vs rows ∧ RowsOk rows)
  (fun (H1, x, _, _, _, rows) H v H' => v = .non ∧ Ex H1 H' ∧ ∃ hs, ProgAt Z H' x rows hs)
abbrev s_Program_init : Stmt := inClass (top 53) 0
theorem sc_Program_init : FnScope ["self", "rows", "at", "row"] ["self", "rows"] (C8.fnScope s_Program_init) := C8.fnScope_by (by decide +kernel)
theorem k_Program (T : Txt P w K mg base Z) : C8.Mak P w K mg base 5 "Program" Z.prog (sp_Program_init Z) [] :=
  makD (k := 4) T.k_Program sc_Program_init (fun _ _ _ _ _ _ us h => by obtain ⟨_, _, rfl⟩ := us2 (by exact h); rfl) (fun _ => rfl) (fun cdv f A outer s H0 H Q E a hr pre hq => by
    have S := sc_Program_init
    obtain ⟨H1, x, dx, t, vs, rows⟩ := a
    obtain ⟨nx, nd, dne, rfl, ht, hv, ro⟩ := pre
    have hv0 := hv
    have vl := paired_len hv
    have r1 := ro.1
    have r2 := ro.2.1
    obtain ⟨B, hB⟩ : ∃ B, upd (upd H1 dx (.own x)) x (.ins Z.prog dx []) = B := ⟨_, rfl⟩
    have eB : Ex H1 B := by rw [← hB]; exact ((Ex.refl _).mut nd).mut nx
    have hx : B x = some (.ins Z.prog dx []) := by rw [← hB]; exact upd_same
    rw [hB]
    have c1 := T.cl_Program
    have c2 := T.na_p_rows
    have c3 := T.na_p_halves
    have htB := eB _ _ ht
    have hvB := hv.ex eB
    refine ⟨_, (pss_cons (ps_if (PW.pt (pw_or (pt_not (pt_val (pe_callB (isI (K := K) rfl) (by rfl) T.n_isinstance (by decide +kernel) (pa_cons (pv 1) (pa_cons (pe_bltn (by rfl) T.n_tuple (by decide +kernel) (v := .ty "tuple") (u := .type "tuple") rfl) pa_nil))))) (pw_or1 (pt_cmpR (eqD (K := K) rfl hr.units) (pv 1) (pe_tup pa_nil) (nomark _))))) (pss_one ps_never) pss_nil)
  (pss_cons (ps_for PassesOwn.never rfl (pi_enumT (K := K) rfl (by rfl) T.n_enumerate (pa_cons (pv 1) pa_nil)) (pgT (K := K) (n := 2) rfl (by rfl) (pgs_cons (pg_name (i := 2) S.nd rfl (Or.inl rfl)) (pgs_cons (pg_name (i := 3) S.nd rfl (Or.inl rfl)) pgs_nil))) (pss_one (ps_if (PW.pt (pw_or (pt_cmpR op_eq (pv 2) (C8.pe_gc rfl T.g_MOST_ROWS) (nomark _)) (pw_or1 (pt_not (pt_val (C8.pe_c (c_is_row T) hr (by decide) rfl (pa_cons (pv 3) (pa_cons (pe_callB (lenS (K := K) rfl) (by rfl) T.n_len (by decide +kernel) (pa_cons (pv 1) pa_nil)) pa_nil)))))))) (pss_one ps_never) pss_nil)))
  (pss_cons (ps_fld (pv 0) (pv 1) rfl)
  (pss_one (ps_fld (pv 0) (pe_callTy (tupO (K := K) rfl) (by rfl) T.n_tuple (by decide +kernel) (pa_cons (pe_callB (cr_sortedSet rfl) (by rfl) T.n_sorted (by decide +kernel) (pa_cons (pe_scI (own := [("row", 3)]) rfl S.nd (piT (K := K) rfl (pv 1)) (blkOk_by (by kernel_rfl)) (fun _ _ _ _ _ => (pg_name (i := 3) S.nd rfl (by first | exact Or.inl rfl | exact Or.inr rfl))) (fun _ _ _ _ _ => (pts_one (pt_cmpR op_eq (pe_ix (ixT (K := K) rfl) (pv 3) pe_int (fun _ _ => rfl)) pe_str (nomark _)))) (fun _ _ _ _ _ => (pe_ix (ixT (K := K) rfl) (pv 3) pe_int (fun _ _ => rfl)))) pa_nil)) pa_nil)) rfl))))), ?_⟩
    walk_at "rd"
    refine ⟨by walk_at "sz", fun q nq => ?_⟩
    refine ⟨_, .tuple [], dp_rows (upd_old htB nq) (hvB.ex (Ex.new (Ex.refl _) nq)), .tup (sqT upd_same) .nil, rows_shaped ro, by decide +kernel, ?_⟩
    rw [rows_ne ro]
    walk_at "rd"
    have htq := upd_old (o' := .tup []) htB nq
    refine ⟨_, _, rfl, sqT htq, fun J wk => ?_⟩
    refine for_it wk (fun i σ H' => Hold (Ex (upd B q (.tup [])) H' ∧ ∃ (o1 o2 : Option V), σ = [some (.ref x), some (.ref t), o1, o2])) (.of ⟨Ex.refl _, _, _, rfl⟩) (fun i σ H' _ h => sqT (h.out.1 _ _ htq)) ?_ ?_
    · rintro i y σ H2 H3 hi hP ⟨u, a, b, rfl, nu, rfl, ha, hb⟩
      obtain ⟨e, o1, o2, rfl⟩ := hP.out
      cases ha
      obtain ⟨row, hrow⟩ : ∃ row, rows[i]? = some row := ⟨_, List.getElem?_eq_getElem (by omega)⟩
      have rv := paired_get hvB hb hrow
      have rv2 := rowV_ex rv ((Ex.new (Ex.refl _) nq).trans (e.new (o := .tup [V.int i, b]) nu))
      have ht3 : upd H2 u (.tup [V.int i, b]) t = some (.tup vs) := upd_old (e _ _ htq) nu
      obtain ⟨rp, rfl⟩ : ∃ rp, b = .ref rp := by
        cases row with
        | tell w => obtain ⟨p, e, _⟩ := rv; exact ⟨p, e⟩
        | look h es ts => obtain ⟨p, _, _, e, _⟩ := rv; exact ⟨p, e⟩
      walk_at "rd"
      rw [dInt, decide_eq_false (show ¬ (i : Int) = 20 by omega)]
      walk_at "rd"
      refine ⟨(rp, (rows.length : Int), row), by rw [vl]; rfl, ⟨rv2, ro.2.2 row (List.mem_of_getElem? hrow)⟩, ?_⟩
      rintro v H4 ⟨rfl, e4⟩
      walk_at "rd"
      exact .of ⟨(e.new nu).trans e4, _, _, rfl⟩
    · intro σ H' hP
      obtain ⟨e, o1, o2, rfl⟩ := hP.out
      have eB' : Ex B H' := (Ex.new (Ex.refl _) nq).trans e
      have hx' := eB' _ _ hx
      have ht' := eB' _ _ htB
      walk_at "rd"
      refine ⟨_, _, _, _, rfl, hx', c1, c2, by walk_at "sz", ?_⟩
      obtain ⟨H5, hH5⟩ : ∃ H5, upd H' x (.ins Z.prog dx (putF "p_rows" (.ref t) [])) = H5 := ⟨_, rfl⟩
      have e5 : Ex H1 H5 := by rw [← hH5]; exact (eB.trans eB').mut nx
      have hx5 : H5 x = some (.ins Z.prog dx [("p_rows", .ref t)]) := by rw [← hH5]; exact upd_same
      have ht5 := e5 _ _ ht
      have hv5 := hv.ex e5
      rw [hH5]
      walk_at "rd"
      refine ⟨⟨_, sqT ht5⟩, fun D nD => ?_⟩
      refine comp_it (u0 := fun D => SetO w D (fun _ => false) 0) (walk_tup (xs := vs)) (fun i H' => Hold (Ex H5 H' ∧ ∃ (S : Int → Bool) (n : Nat), H' D = some (SetO w D S n) ∧ n ≤ i ∧ ∀ k, S k = true ↔ ∃ es ts, Row.look k es ts ∈ rows.take i)) (.of ⟨(Ex.refl _).new nD, (fun _ => false), 0, upd_same, Nat.le_refl _, fun k => by simp⟩) (fun i H' _ h => sqT (h.out.1 _ _ ht5)) ?_ ?_
      · rintro i y H6 H7 hi hP ⟨rfl, hy⟩
        obtain ⟨e6, S, n, hD, nl, hS⟩ := hP.out
        obtain ⟨row, hrow⟩ : ∃ row, rows[i]? = some row := ⟨_, List.getElem?_eq_getElem (by omega)⟩
        have rv := rowV_ex (paired_get hv5 hy hrow) e6
        refine ⟨rfl, ?_⟩
        cases row with
        | tell x =>
          obtain ⟨p, rfl, hp⟩ := rv
          walk_at "rd"
          refine .of ⟨e6, S, n, hD, by omega, fun k => ?_⟩
          rw [take_more hrow, hS]
          simp
        | look h es ts =>
          obtain ⟨p, e1, t1, rfl, hp, _, _⟩ := rv
          walk_at "rd"
          refine ⟨h, S, n, rfl, hD, Nat.lt_of_le_of_lt (show n + 1 ≤ 30 by omega) (by decide), .of ⟨e6.mut nD, (fun j => S j || decide (j = h)), (if S h = true then n else n + 1), upd_same, by split <;> omega, fun k => ?_⟩⟩
          rw [take_more hrow, Bool.or_eq_true, hS, decide_eq_true_eq]
          simp only [List.mem_append, List.mem_singleton, Row.look.injEq]
          constructor
          · rintro (⟨es', ts', h⟩ | rfl)
            · exact ⟨es', ts', .inl h⟩
            · exact ⟨es, ts, .inr ⟨rfl, rfl, rfl⟩⟩
          · rintro ⟨es', ts', h | ⟨rfl, _, _⟩⟩
            · exact .inl ⟨es', ts', h⟩
            · exact .inr rfl
      · intro H6 hP
        obtain ⟨e6, S, n, hD, nl, hS⟩ := hP.out
        have hx6 := e6 _ _ hx5
        have ht6 := e6 _ _ ht5
        rw [show rows.take vs.length = rows by rw [vl, List.take_length]] at hS
        walk_at "rd"
        refine ⟨D, S, n, rfl, hD, by omega, fun ns p inc mem len np => ?_⟩
        walk_at "rd"
        refine ⟨_, _, rfl, .inl ⟨sqL upd_same, fun u nu => ?_⟩⟩
        have hx7 : upd (upd H6 p (.lst (ns.map V.int))) u (.tup (ns.map V.int)) x = some (.ins Z.prog dx [("p_rows", .ref t)]) := upd_old (upd_old hx6 np) nu
        walk_at "rd"
        refine ⟨_, _, _, _, rfl, hx7, c1, c3, by walk_at "sz", ?_⟩
        have e8 : Ex H1 (upd (upd (upd H6 p (.lst (ns.map V.int))) u (.tup (ns.map V.int))) x (.ins Z.prog dx [("p_rows", .ref t), ("p_halves", .ref u)])) := Ex.mut (((e5.trans e6).new np).new nu) nx
        have ux : u ≠ x := (ne_of_none (upd_old (o' := .lst (ns.map V.int)) hx6 np) nu).symm
        refine hq _ _ ⟨rfl, e8, ns, dx, t, u, vs, upd_same, e8 _ _ ht, hv0.ex e8, upd_off upd_same ux, ⟨fun k => (mem k).trans (hS k), inc, by omega⟩, ro⟩)
end
end Ff
end
section
set_option maxRecDepth 100000
set_option maxHeartbeats 4000000
/-! regions_by_path. -/
namespace Ff
open PySem PySem.Spec PyProof.Rows L2
local macro_rules | `(tactic| walk_at "ex") => `(tactic| first
  | exact Ex.refl _
  | with_reducible assumption
  | (refine Ex.new ?_ (by with_reducible assumption); walk_at "ex")
  | (refine Ex.mut ?_ (by walk_at "hn"); walk_at "ex")
  | (refine Ex.trans ?_ (by with_reducible assumption); walk_at "ex"))
local macro_rules | `(tactic| walk_at "hn") => `(tactic| first
  | with_reducible assumption
  | exact Ex.back (by with_reducible assumption) (by with_reducible assumption)
  | exact upd_none (by with_reducible assumption)
  | exact upd_none (upd_none (by with_reducible assumption))
  | exact Ex.back (by with_reducible assumption) (upd_none (by with_reducible assumption))
  | exact Ex.back (by with_reducible assumption) (Ex.back (by with_reducible assumption) (by with_reducible assumption)))
local macro_rules | `(tactic| walk_at "hp") => `(tactic| first
  | with_reducible assumption
  | with_reducible exact upd_same
  | (refine Ex.at (by with_reducible assumption) ?_; walk_at "ex")
  | (refine upd_old ?_ (by with_reducible assumption); walk_at "hp")
  | (refine upd_off ?_ (by with_reducible assumption); walk_at "hp"))
local macro_rules | `(tactic| walk_at "sd") => `(tactic| ((try dsimp only [CMul, CDiv, CPow]); first | exact True.intro | omega | (with_reducible assumption)))
local macro_rules | `(tactic| walk_at "sz") => `(tactic| exact Nat.le_of_ble_eq_true rfl)
local macro_rules | `(tactic| walk_at "is") => `(tactic| first
  | refine ⟨_, _, _, _, _, rfl, .ty _, .base (.int _), kt_int, ?_⟩
  | refine ⟨_, _, _, _, _, rfl, .ty _, .base (.int _), kt_intb, ?_⟩
  | refine ⟨_, _, _, _, _, rfl, .ty _, .base (.bl _), kt_bool, ?_⟩
  | refine ⟨_, _, _, _, _, rfl, .ty _, .base (.str _), kt_str, ?_⟩
  | refine ⟨_, _, _, _, _, rfl, .ty _, .base (.tup (by walk_at "hp")), kt_tup, ?_⟩
  | refine ⟨_, _, _, _, _, rfl, .ty _, .base (.dK (by walk_at "hp")), kt_dict, ?_⟩)
local macro_rules | `(tactic| walk_at "rd1") => `(tactic| first
  | refine ⟨_, rfl, ?_⟩
  | refine ⟨_, _, rfl, rfl, And.intro (by walk_at "sd") ?_⟩
  | refine ⟨_, _, rfl, rfl, ?_⟩
  | refine ⟨rfl, ?_⟩
  | refine ⟨_, _, _, _, rfl, rfl, sqT (by walk_at "hp"), rfl, ?_⟩
  | refine ⟨_, _, _, _, rfl, rfl, sqL (by walk_at "hp"), rfl, ?_⟩
  | refine ⟨_, _, rfl, sqT (by walk_at "hp"), rfl, ?_⟩
  | refine ⟨_, _, _, _, _, rfl, by walk_at "hp", by assumption, by assumption, rfl, ?_⟩
  | refine ⟨.inl ⟨rfl, _, sqL (by walk_at "hp")⟩, ?_⟩
  | refine ⟨_, _, rfl, .inl (sqL (by walk_at "hp")), ?_⟩
  | refine ⟨_, _, rfl, .inr (sqT (by walk_at "hp")), ?_⟩
  | refine ⟨(_, _), rfl, ?_⟩
  | refine ⟨(_, _, _), rfl, ?_⟩
  | refine ⟨(_, _, _, _), rfl, ?_⟩
  | refine ⟨_, _, rfl, ?_⟩
  | refine ⟨_, _, _, rfl, ?_⟩
  | walk_at "is")
local macro_rules | `(tactic| walk_at "rd") => `(tactic| repeat walk_at "rd1")

local macro_rules | `(tactic| walk_at "ib") => `(tactic| refine .inr ⟨_, rfl, ?_⟩)
local macro_rules | `(tactic| walk_at "ii") => `(tactic| refine .inl ⟨_, rfl, ?_⟩)
def keyF (rows : List Row) (r : Nat) : List Key := (pathF rows r).map Sum.inl
theorem key_ints (l : List Int) : (l.map (Sum.inl : Int → Key)).map kV = l.map V.int := by rw [List.map_map]; rfl
def GrpAt {κ : Type} [DecidableEq κ] (H0 H : Hp) (f : Nat → κ) (i : Nat) (ks : List (κ × Addr)) : Prop := ∀ p ∈ ks, H0 p.2 = none ∧ H p.2 = some (.lst ((grpL f i p.1).map .int))
theorem grpAt_old {κ : Type} [DecidableEq κ] {H0 H : Hp} {f : Nat → κ} {i : Nat} {ks : List (κ × Addr)} (g : Grp f i ks) (h : GrpAt H0 H f i ks) {a : Addr} (ha : (f i, a) ∈ ks) : GrpAt H0 (upd H a (.lst ((grpL f i (f i)).map .int ++ [.int (i : Nat)]))) f (i + 1) ks := by
  rintro ⟨k, b⟩ hp
  obtain ⟨h1, h2⟩ := h _ hp
  refine ⟨h1, ?_⟩
  dsimp only at h1 h2 ⊢
  by_cases q : k = f i
  · subst q
    have e := nodup_fst g.nd hp ha
    subst e
    rw [upd_same, grpL_succ, if_pos rfl, List.map_append]
    rfl
  · have ne : b ≠ a := fun e => by
      subst e
      exact q (nodup_snd g.na hp ha)
    rw [upd_ne ne, h2, grpL_succ, if_neg fun e => q e.symm]
theorem grpAt_new {κ : Type} [DecidableEq κ] {H0 H : Hp} {f : Nat → κ} {i : Nat} {ks : List (κ × Addr)} (g : Grp f i ks) (h : GrpAt H0 H f i ks) {z : Addr} (hz : H0 z = none) (hn : ∀ b, (f i, b) ∉ ks) (zn : ∀ k, (k, z) ∉ ks) : GrpAt H0 (upd H z (.lst [.int (i : Nat)])) f (i + 1) (ks ++ [(f i, z)]) := by
  rintro ⟨k, b⟩ hp
  rw [List.mem_append] at hp
  dsimp only
  rcases hp with hp | hp
  · obtain ⟨h1, h2⟩ := h _ hp
    dsimp only at h1 h2
    have ne : b ≠ z := fun e => by
      subst e
      exact zn k hp
    have q : f i ≠ k := fun e => by
      subst e
      exact hn b hp
    exact ⟨h1, by rw [upd_ne ne, h2, grpL_succ, if_neg q]⟩
  · simp at hp
    obtain ⟨rfl, rfl⟩ := hp
    refine ⟨hz, ?_⟩
    rw [upd_same, grpL_succ, if_pos rfl]
    have : grpL f i (f i) = [] := by
      cases e : grpL f i (f i) with
      | nil => rfl
      | cons x l =>
        have m : x ∈ grpL f i (f i) := by rw [e]; simp
        obtain ⟨r, _, hr, e2⟩ := grpL_mem.mp m
        obtain ⟨a, ha⟩ := g.all r hr
        rw [e2] at ha
        exact absurd ha (hn a)
    rw [this]
    rfl
section
variable {P : Program} {w : World} {K : PySem.W.Frag} {mg : PySem.Str → Option Value} {base : Heap} {Z : Adr}
theorem HalvesOk.bounds {rows : List Row} {hs : List Int} (h : HalvesOk rows hs) (ro : RowsOk rows) : ∀ n ∈ hs, 1 ≤ n ∧ n ≤ 1000 := by
  intro n hn
  obtain ⟨es, ts, hm⟩ := (h.mem n).mp hn
  have := ro.2.2 _ hm
  cases this with
  | look h1 h2 _ _ _ => exact ⟨h1, h2⟩
def sp_regions_by_path (Z : Adr) : Sp := mkSp (fun ((x, _) : Addr × List Row × List Int) => [.ref x]) (fun (x, rows, hs) H => ProgAt Z H x rows hs ∧ lcmL hs ≤ 5040)
  (fun (_, rows, hs) H v H' => ∃ t d ks, v = .ref t ∧ H' t = some (.tup [.int (lcmL hs), .ref d]) ∧ H d = none ∧ H' d = some (.dT (kvR ks)) ∧ Ex H H' ∧ Grp (keyF rows) (2 * lcmL hs + 1).toNat ks ∧ GrpAt H H' (keyF rows) (2 * lcmL hs + 1).toNat ks)
abbrev s_regions_by_path : Stmt := top 59
theorem sc_regions_by_path : FnScope ["program", "whole", "found", "region", "top", "bottom"] ["program"] (C8.fnScope s_regions_by_path) := C8.fnScope_by (by decide +kernel)
theorem c_regions_by_path (T : Txt P w K mg base Z) : C8.Cal P w K mg base 6 "regions_by_path" (sp_regions_by_path Z) [] :=
  calD (k := 5) T.d_regions_by_path sc_regions_by_path (fun _ _ _ _ _ _ us h => by obtain ⟨_, rfl⟩ := us1 (by exact h); rfl) (fun _ => rfl) (fun cdv f A outer s H0 H Q E a hr pre hq => by
    have S := sc_regions_by_path
    obtain ⟨x, rows, hs⟩ := a
    obtain ⟨hx, hl⟩ := pre
    obtain ⟨dx, tt, ee, vs, i1, ht, hv, he, hh, ro⟩ := id hx
    have L1 := lcmL_ge (l := hs) fun n hn => (hh.bounds ro n hn).1
    obtain ⟨L, hL⟩ : ∃ L, lcmL hs = L := ⟨_, rfl⟩
    have hq : ∀ v H', (∃ t d ks, v = .ref t ∧ H' t = some (.tup [.int L, .ref d]) ∧ H d = none ∧ H' d = some (.dT (kvR ks)) ∧ Ex H H' ∧ Grp (keyF rows) (2 * L + 1).toNat ks ∧ GrpAt H H' (keyF rows) (2 * L + 1).toNat ks) → Q v H' := by
      rw [← hL]
      exact fun v H' h => hq v H' h
    refine ⟨_, (pss_cons (ps_par (i := 1) (j := 2) rfl S.nd rfl rfl (by decide) rfl rfl (pa_cons (C8.pe_c (c_need_small T) hr (by decide) rfl (pa_cons (pe_pr (c_Program_halves T) hr (by decide) (pv 0)) pa_nil)) (pa_cons pe_dnewT pa_nil)) (by rfl))
  (pss_cons (ps_for PassesOwn.never rfl (pi_range1 (by rfl) T.n_range (pa_cons (pe_op op_add (pe_op op_mul pe_int (pv 1)) pe_int) pa_nil)) (pg_name (i := 3) S.nd rfl (Or.inl rfl)) (pss_cons (ps_asg (C8.pe_c (c_speed_in T) hr (by decide) rfl (pa_cons (pv 3) pa_nil)) (pgT (K := K) (n := 2) rfl (by rfl) (pgs_cons (pg_name (i := 4) S.nd rfl (Or.inl rfl)) (pgs_cons (pg_name (i := 5) S.nd rfl (Or.inl rfl)) pgs_nil))))
  (pss_one (ps_expr (pe_bm PySem.F.plainAttrs_list PySem.F.slot_list_append PySem.F.type_list_append mt_append (pe_bm PySem.F.plainAttrs_dict PySem.F.slot_dict_setdefault PySem.F.type_dict_setdefault (mt_sdT (hu_of hr)) (pv 2) (pa_cons (C8.pe_c (c_path_of T) hr (by decide) rfl (pa_cons (pe_pr (c_Program_rows T) hr (by decide) (pv 0)) (pa_cons (pv 4) (pa_cons (pv 5) pa_nil)))) (pa_cons (pe_lst pa_nil) pa_nil))) (pa_cons (pv 3) pa_nil))))))
  (pss_one (ps_ret (pe_tup (pa_cons (pv 1) (pa_cons (pv 2) pa_nil))))))), ?_⟩
    walk_at "rd"
    refine ⟨_, _, _, rfl, i1, (x, rows, hs), rfl, hx, ?_⟩
    rintro v H' ⟨e1, rfl, rfl, he1⟩
    walk_at "rd"
    refine ⟨(e1, hs), rfl, ⟨.inr he1, fun n hn => by have := hh.bounds ro n hn; omega, hl⟩, ?_⟩
    rintro v H' ⟨rv, rfl⟩
    rw [hL] at rv hl L1
    subst rv
    walk_at "rd"
    refine fun d nd => ?_
    walk_at "rd"
    refine ⟨by omega, by omega, ?_⟩
    refine for_it (walk_r0 (n := (2 * L + 1).toNat)) (fun i σ H1 => Hold (Ex H' H1 ∧ ∃ (ks : List (List Key × Addr)) (o1 o2 o3 : Option V), σ = [some (.ref x), some (.int L), some (.ref d), o1, o2, o3] ∧ H1 d = some (.dT (kvR ks)) ∧ Grp (keyF rows) i ks ∧ GrpAt H' H1 (keyF rows) i ks))
      (.of ⟨by walk_at "ex", [], _, _, _, rfl, upd_same, Grp.start, fun p h => by simp at h⟩) (fun _ _ _ _ _ => trivial) ?_ ?_
    · rintro i y σ H2 H3 hi hP ⟨rfl, rfl⟩
      obtain ⟨e, ks, o1, o2, o3, rfl, hd, g, ga⟩ := hP.out
      clear hP
      walk_at "rd"
      refine ⟨by omega, ?_⟩
      rintro v H4 ⟨t, b, ⟨sp, rfl, ns, e4, hsp⟩, t0, b1, b2, hs4⟩
      have e04 := e.trans e4
      have hd4 := e4 _ _ hd
      walk_at "rd"
      refine ⟨.inr (.inr (.inl ⟨rfl, .inr ⟨_, hd4⟩⟩)), ?_⟩
      walk_at "rd"
      refine ⟨_, _, _, rfl, e04 _ _ i1, (x, rows, hs), rfl, hx.ex e04, ?_⟩
      rintro v H5 ⟨rt, rvs, rfl, rfl, hrt, hrv⟩
      walk_at "rd"
      refine ⟨(rt, t, b, rvs, rows), rfl, ⟨hrt, hrv, ro, t0, b1, b2⟩, ?_⟩
      rintro v H6 ⟨pt, rfl, np, e6, hpt⟩
      rw [hs4] at hpt
      have e06 := e04.trans e6
      have hd6 := e6 _ _ hd4
      walk_at "rd"
      refine ⟨by walk_at "sz", fun z nz => ?_⟩
      have hd7 : upd H6 z (.lst []) d = some (.dT (kvR ks)) := upd_old hd6 nz
      have hpt7 : upd H6 z (.lst []) pt = some (.tup ((keyF rows i).map kV)) := by
        unfold keyF
        rw [key_ints]
        exact upd_old hpt nz
      have e07 : Ex H' (upd H6 z (.lst [])) := e06.new nz
      have ga6 : GrpAt H' (upd H6 z (.lst [])) (keyF rows) i ks := fun p hp => by
        obtain ⟨h1, h2⟩ := ga p hp
        exact ⟨h1, upd_old (e6 _ _ (e4 _ _ h2)) nz⟩
      have kl := g.ln
      refine ⟨d, kvR ks, keyF rows i, pt, .ref z, rfl, rfl, hd7, hpt7, szlt (by unfold kvR; rw [List.length_map]; omega), fun v hv => ?_, fun hv => ?_⟩
      · obtain ⟨a, rfl, ha⟩ := valV_some hv
        obtain ⟨h1, h2⟩ := ga6 _ ha
        dsimp only at h1 h2
        walk_at "rd"
        refine ⟨_, _, _, rfl, rfl, h2, szlt (by rw [List.length_map]; have := grpL_len (f := keyF rows) (i := i) (k := keyF rows i); omega), ?_⟩
        have ad : d ≠ a := ne_of hd7 h2 (fun z => nomatch z)
        exact .of ⟨e07.mut h1, ks, _, _, _, rfl, upd_off hd7 ad, g.old ha, grpAt_old g ga6 ha⟩
      · have hn := valV_none hv
        have zd : z ≠ d := (ne_of_none hd6 nz).symm
        have zn : ∀ k, (k, z) ∉ ks := fun k hk => by
          have h2 := (ga _ hk).2
          have := e6 _ _ (e4 _ _ h2)
          dsimp only at this
          rw [nz] at this
          cases this
        have hz8 : upd (upd H6 z (.lst [])) d (.dT (putK (kvR ks) (keyF rows i) (.ref z))) z = some (.lst []) := upd_off upd_same zd
        walk_at "rd"
        refine ⟨_, _, _, rfl, rfl, hz8, by walk_at "sz", ?_⟩
        have z0 : H' z = none := e06.back nz
        refine .of ⟨(e07.mut nd).mut z0, ks ++ [(keyF rows i, z)], _, _, _, rfl, ?_, g.new hn zn, ?_⟩
        · rw [upd_ne zd.symm, upd_same, putK_new hn]
        · refine grpAt_new g (fun p hp => ?_) z0 hn zn
          obtain ⟨h1, h2⟩ := ga6 p hp
          exact ⟨h1, upd_off h2 (ne_of h2 hd7 (fun z => nomatch z))⟩
    · intro σ H2 hP
      obtain ⟨e, ks, o1, o2, o3, rfl, hd, g, ga⟩ := hP.out
      walk_at "rd"
      refine ⟨by walk_at "sz", fun t nt => ?_⟩
      exact hq _ _ ⟨t, d, ks, rfl, upd_same, nd, upd_old hd nt, e.new nt, g, fun p hp => ⟨(ga p hp).1, upd_old (ga p hp).2 nt⟩⟩)
end
end Ff
end
section
set_option maxRecDepth 100000
set_option maxHeartbeats 4000000
/-! outcomes, first part: what is told. -/
namespace Ff
open PySem PySem.Spec PyProof.Rows L2
local macro_rules | `(tactic| walk_at "ex") => `(tactic| first
  | exact Ex.refl _
  | with_reducible assumption
  | (refine Ex.new ?_ (by with_reducible assumption); walk_at "ex")
  | (refine Ex.mut ?_ (by walk_at "hn"); walk_at "ex")
  | (refine Ex.trans ?_ (by with_reducible assumption); walk_at "ex"))
local macro_rules | `(tactic| walk_at "hn") => `(tactic| first
  | with_reducible assumption
  | exact Ex.back (by with_reducible assumption) (by with_reducible assumption)
  | exact upd_none (by with_reducible assumption)
  | exact upd_none (upd_none (by with_reducible assumption))
  | exact Ex.back (by with_reducible assumption) (upd_none (by with_reducible assumption))
  | exact Ex.back (by with_reducible assumption) (Ex.back (by with_reducible assumption) (by with_reducible assumption)))
local macro_rules | `(tactic| walk_at "hp") => `(tactic| first
  | with_reducible assumption
  | with_reducible exact upd_same
  | (refine Ex.at (by with_reducible assumption) ?_; walk_at "ex")
  | (refine upd_old ?_ (by with_reducible assumption); walk_at "hp")
  | (refine upd_off ?_ (by with_reducible assumption); walk_at "hp"))
local macro_rules | `(tactic| walk_at "sd") => `(tactic| ((try dsimp only [CMul, CDiv, CPow]); first | exact True.intro | omega | (with_reducible assumption)))
local macro_rules | `(tactic| walk_at "sz") => `(tactic| exact Nat.le_of_ble_eq_true rfl)
local macro_rules | `(tactic| walk_at "is") => `(tactic| first
  | refine ⟨_, _, _, _, _, rfl, .ty _, .base (.int _), kt_int, ?_⟩
  | refine ⟨_, _, _, _, _, rfl, .ty _, .base (.int _), kt_intb, ?_⟩
  | refine ⟨_, _, _, _, _, rfl, .ty _, .base (.bl _), kt_bool, ?_⟩
  | refine ⟨_, _, _, _, _, rfl, .ty _, .base (.str _), kt_str, ?_⟩
  | refine ⟨_, _, _, _, _, rfl, .ty _, .base (.tup (by walk_at "hp")), kt_tup, ?_⟩
  | refine ⟨_, _, _, _, _, rfl, .ty _, .base (.dK (by walk_at "hp")), kt_dict, ?_⟩)
local macro_rules | `(tactic| walk_at "rd1") => `(tactic| first
  | refine ⟨_, rfl, ?_⟩
  | refine ⟨_, _, rfl, rfl, And.intro (by walk_at "sd") ?_⟩
  | refine ⟨_, _, rfl, rfl, ?_⟩
  | refine ⟨rfl, ?_⟩
  | refine ⟨_, _, _, _, rfl, rfl, sqT (by walk_at "hp"), rfl, ?_⟩
  | refine ⟨_, _, _, _, rfl, rfl, sqL (by walk_at "hp"), rfl, ?_⟩
  | refine ⟨_, _, rfl, sqT (by walk_at "hp"), rfl, ?_⟩
  | refine ⟨_, _, _, _, _, rfl, by walk_at "hp", by assumption, by assumption, rfl, ?_⟩
  | refine ⟨.inl ⟨rfl, _, sqL (by walk_at "hp")⟩, ?_⟩
  | refine ⟨_, _, rfl, .inl (sqL (by walk_at "hp")), ?_⟩
  | refine ⟨_, _, rfl, .inr (sqT (by walk_at "hp")), ?_⟩
  | refine ⟨(_, _), rfl, ?_⟩
  | refine ⟨(_, _, _), rfl, ?_⟩
  | refine ⟨(_, _, _, _), rfl, ?_⟩
  | refine ⟨_, _, rfl, ?_⟩
  | refine ⟨_, _, _, rfl, ?_⟩
  | walk_at "is")
local macro_rules | `(tactic| walk_at "rd") => `(tactic| repeat walk_at "rd1")

local macro_rules | `(tactic| walk_at "ib") => `(tactic| refine .inr ⟨_, rfl, ?_⟩)
local macro_rules | `(tactic| walk_at "ii") => `(tactic| refine .inl ⟨_, rfl, ?_⟩)
theorem walk_Ti {d : Addr} {o : Obj} {kvs : List (List Key × V)} : Walk (ItTi d o kvs) kvs.length (fun H => H d = some (.frz o (.dT kvs))) (fun i H x H' => ∃ T q k v, kvs[i]? = some (k, v) ∧ H q = some (.tup (k.map kV)) ∧ x = .ref T ∧ H T = none ∧ H' = upd H T (.tup [.ref q, v])) :=
  ⟨fun _ _ hi q => ⟨q, hi⟩, fun _ q => ⟨q, rfl⟩, fun _ _ _ _ _ _ y => y⟩
def TolAt (H0 H : Hp) (F : Nat → Option PySem.Str) (Dn : Nat → Prop) (tk : List (Option PySem.Str × Addr)) : Prop := ∀ p ∈ tk, H0 p.2 = none ∧ ∃ xs : List Int, H p.2 = some (.lst (xs.map .int)) ∧ TolL F Dn p.1 xs
theorem inl_inj {a b : List Int} (h : a.map (Sum.inl : Int → Key) = b.map Sum.inl) : a = b := by
  induction a generalizing b with
  | nil => cases b with
    | nil => rfl
    | cons y b => simp at h
  | cons x a ih => cases b with
    | nil => simp at h
    | cons y b =>
      simp only [List.map_cons, List.cons.injEq, Sum.inl.injEq] at h
      rw [h.1, ih h.2]
/-- one group more: under its word there were numbers before -/
theorem Tol.step {N : Nat} {F : Nat → Option PySem.Str} {Dn : Nat → Prop} {tk : List (Option PySem.Str × Addr)} {S : Nat → Prop} {wk : Option PySem.Str} (t : Tol N F Dn tk) (hS : ∀ r, S r → r < N ∧ F r = wk) {a : Addr} (ha : (wk, a) ∈ tk) : Tol N F (fun r => Dn r ∨ S r) tk := by
  refine ⟨t.nd, t.na, fun r hr => ?_, fun k b hb => ?_, fun r hr => ?_⟩
  · rcases hr with hr | hr
    · exact t.all r hr
    · exact ⟨a, by rw [(hS r hr).2]; exact ha⟩
  · obtain ⟨r, h1, h2⟩ := t.som k b hb
    exact ⟨r, .inl h1, h2⟩
  · rcases hr with hr | hr
    · exact t.lt r hr
    · exact (hS r hr).1
theorem Tol.more {N : Nat} {F : Nat → Option PySem.Str} {Dn : Nat → Prop} {tk : List (Option PySem.Str × Addr)} {S : Nat → Prop} {wk : Option PySem.Str} (t : Tol N F Dn tk) (hS : ∀ r, S r → r < N ∧ F r = wk) (r0 : Nat) (h0 : S r0) {a : Addr} (hn : ∀ b, (wk, b) ∉ tk) (ha : ∀ k, (k, a) ∉ tk) : Tol N F (fun r => Dn r ∨ S r) (tk ++ [(wk, a)]) := by
  refine ⟨?_, ?_, fun r hr => ?_, fun k b hb => ?_, fun r hr => ?_⟩
  · rw [List.map_append, List.nodup_append]
    refine ⟨t.nd, by simp, fun x hx y hy => ?_⟩
    obtain ⟨p, hp, rfl⟩ := List.mem_map.mp hx
    simp at hy
    subst hy
    intro e
    exact hn p.2 (by rw [← e]; exact hp)
  · rw [List.map_append, List.nodup_append]
    refine ⟨t.na, by simp, fun x hx y hy => ?_⟩
    obtain ⟨p, hp, rfl⟩ := List.mem_map.mp hx
    simp at hy
    subst hy
    intro e
    exact ha p.1 (by rw [← e]; exact hp)
  · rcases hr with hr | hr
    · obtain ⟨b, hb⟩ := t.all r hr
      exact ⟨b, List.mem_append_left _ hb⟩
    · exact ⟨a, by rw [(hS r hr).2]; simp⟩
  · rw [List.mem_append] at hb
    rcases hb with hb | hb
    · obtain ⟨r, h1, h2⟩ := t.som k b hb
      exact ⟨r, .inl h1, h2⟩
    · simp at hb
      exact ⟨r0, .inr h0, by rw [(hS r0 h0).2]; exact hb.1.symm⟩
  · rcases hr with hr | hr
    · exact t.lt r hr
    · exact (hS r hr).1
theorem TolL.grow {F : Nat → Option PySem.Str} {Dn S : Nat → Prop} {wk : Option PySem.Str} {xs g : List Int} (h : TolL F Dn wk xs) (hg : g.Nodup) (gm : ∀ y, y ∈ g ↔ ∃ r : Nat, y = r ∧ S r) (hS : ∀ r, S r → F r = wk) (dis : ∀ r, Dn r → ¬ S r) : TolL F (fun r => Dn r ∨ S r) wk (xs ++ g) := by
  refine ⟨?_, fun y => ?_⟩
  · rw [List.nodup_append]
    refine ⟨h.1, hg, fun x hx y hy e => ?_⟩
    subst e
    obtain ⟨r, e1, d1, _⟩ := (h.2 x).mp hx
    obtain ⟨r', e2, s2⟩ := (gm x).mp hy
    have : r = r' := by omega
    subst this
    exact dis r d1 s2
  · rw [List.mem_append, h.2, gm]
    constructor
    · rintro (⟨r, e, d, f⟩ | ⟨r, e, s⟩)
      · exact ⟨r, e, .inl d, f⟩
      · exact ⟨r, e, .inr s, hS r s⟩
    · rintro ⟨r, e, d | s, f⟩
      · exact .inl ⟨r, e, d, f⟩
      · exact .inr ⟨r, e, s⟩
theorem TolL.same {F : Nat → Option PySem.Str} {Dn S : Nat → Prop} {k wk : Option PySem.Str} {xs : List Int} (h : TolL F Dn k xs) (hS : ∀ r, S r → F r = wk) (ne : k ≠ wk) : TolL F (fun r => Dn r ∨ S r) k xs := by
  refine ⟨h.1, fun y => (h.2 y).trans ⟨?_, ?_⟩⟩
  · rintro ⟨r, e, d, f⟩
    exact ⟨r, e, .inl d, f⟩
  · rintro ⟨r, e, d | s, f⟩
    · exact ⟨r, e, d, f⟩
    · exact absurd (f.symm.trans (hS r s)) ne
theorem TolL.eqv {F : Nat → Option PySem.Str} {A B : Nat → Prop} {k : Option PySem.Str} {xs : List Int} (h : TolL F A k xs) (e : ∀ r, A r ↔ B r) : TolL F B k xs := ⟨h.1, fun y => (h.2 y).trans ⟨fun ⟨r, a, b, c⟩ => ⟨r, a, (e r).mp b, c⟩, fun ⟨r, a, b, c⟩ => ⟨r, a, (e r).mpr b, c⟩⟩⟩
theorem Tol.eqv {N : Nat} {F : Nat → Option PySem.Str} {A B : Nat → Prop} {tk : List (Option PySem.Str × Addr)} (t : Tol N F A tk) (e : ∀ r, A r ↔ B r) : Tol N F B tk :=
  ⟨t.nd, t.na, fun r h => t.all r ((e r).mpr h), fun k a h => by obtain ⟨r, h1, h2⟩ := t.som k a h; exact ⟨r, (e r).mp h1, h2⟩, fun r h => t.lt r ((e r).mpr h)⟩
theorem step_in {rows : List Row} (ro : RowsOk rows) {s a b : Int} (h : stepR rows s a = some b) : 0 ≤ b ∧ b < rows.length := by
  unfold stepR at h
  cases q : rows[a.toNat]? with
  | none => rw [q] at h; cases h
  | some r =>
    rw [q] at h
    have ok := ro.2.2 r (List.mem_of_getElem? q)
    cases ok with
    | tell _ => cases h
    | look h1 h2 en l ht =>
      have e := Option.some.inj h
      rw [← e]
      exact ht _ (goalS_get l).2
theorem path_form {rows : List Row} (ro : RowsOk rows) (s : Int) : ∃ (q : List Int) (z : Int), pathF rows s = q ++ [z] ∧ 0 ≤ z ∧ z < rows.length :=
  pathGo_form (fun a b _ _ h => step_in ro h) rows.length [0] 0 rfl (fun x hx => by have := ro.1; simp at hx; omega)
end Ff
end
section
set_option maxRecDepth 100000
set_option maxHeartbeats 4000000
/-! outcomes. -/
namespace Ff
open PySem PySem.Spec PyProof.Rows L2
local macro_rules | `(tactic| walk_at "ex") => `(tactic| first
  | exact Ex.refl _
  | with_reducible assumption
  | (refine Ex.new ?_ (by with_reducible assumption); walk_at "ex")
  | (refine Ex.mut ?_ (by walk_at "hn"); walk_at "ex")
  | (refine Ex.trans ?_ (by with_reducible assumption); walk_at "ex"))
local macro_rules | `(tactic| walk_at "hn") => `(tactic| first
  | with_reducible assumption
  | exact Ex.back (by with_reducible assumption) (by with_reducible assumption)
  | exact upd_none (by with_reducible assumption)
  | exact upd_none (upd_none (by with_reducible assumption))
  | exact Ex.back (by with_reducible assumption) (upd_none (by with_reducible assumption))
  | exact Ex.back (by with_reducible assumption) (Ex.back (by with_reducible assumption) (by with_reducible assumption)))
local macro_rules | `(tactic| walk_at "hp") => `(tactic| first
  | with_reducible assumption
  | with_reducible exact upd_same
  | (refine Ex.at (by with_reducible assumption) ?_; walk_at "ex")
  | (refine upd_old ?_ (by with_reducible assumption); walk_at "hp")
  | (refine upd_off ?_ (by with_reducible assumption); walk_at "hp"))
local macro_rules | `(tactic| walk_at "sd") => `(tactic| ((try dsimp only [CMul, CDiv, CPow]); first | exact True.intro | omega | (with_reducible assumption)))
local macro_rules | `(tactic| walk_at "sz") => `(tactic| exact Nat.le_of_ble_eq_true rfl)
local macro_rules | `(tactic| walk_at "is") => `(tactic| first
  | refine ⟨_, _, _, _, _, rfl, .ty _, .base (.int _), kt_int, ?_⟩
  | refine ⟨_, _, _, _, _, rfl, .ty _, .base (.int _), kt_intb, ?_⟩
  | refine ⟨_, _, _, _, _, rfl, .ty _, .base (.bl _), kt_bool, ?_⟩
  | refine ⟨_, _, _, _, _, rfl, .ty _, .base (.str _), kt_str, ?_⟩
  | refine ⟨_, _, _, _, _, rfl, .ty _, .base (.tup (by walk_at "hp")), kt_tup, ?_⟩
  | refine ⟨_, _, _, _, _, rfl, .ty _, .base (.dK (by walk_at "hp")), kt_dict, ?_⟩)
local macro_rules | `(tactic| walk_at "rd1") => `(tactic| first
  | refine ⟨_, rfl, ?_⟩
  | refine ⟨_, _, rfl, rfl, And.intro (by walk_at "sd") ?_⟩
  | refine ⟨_, _, rfl, rfl, ?_⟩
  | refine ⟨rfl, ?_⟩
  | refine ⟨_, _, _, _, rfl, rfl, sqT (by walk_at "hp"), rfl, ?_⟩
  | refine ⟨_, _, _, _, rfl, rfl, sqL (by walk_at "hp"), rfl, ?_⟩
  | refine ⟨_, _, rfl, sqT (by walk_at "hp"), rfl, ?_⟩
  | refine ⟨_, _, _, _, _, rfl, by walk_at "hp", by assumption, by assumption, rfl, ?_⟩
  | refine ⟨.inl ⟨rfl, _, sqL (by walk_at "hp")⟩, ?_⟩
  | refine ⟨_, _, rfl, .inl (sqL (by walk_at "hp")), ?_⟩
  | refine ⟨_, _, rfl, .inr (sqT (by walk_at "hp")), ?_⟩
  | refine ⟨(_, _), rfl, ?_⟩
  | refine ⟨(_, _, _), rfl, ?_⟩
  | refine ⟨(_, _, _, _), rfl, ?_⟩
  | refine ⟨_, _, rfl, ?_⟩
  | refine ⟨_, _, _, rfl, ?_⟩
  | walk_at "is")
local macro_rules | `(tactic| walk_at "rd") => `(tactic| repeat walk_at "rd1")

local macro_rules | `(tactic| walk_at "ib") => `(tactic| refine .inr ⟨_, rfl, ?_⟩)
local macro_rules | `(tactic| walk_at "ii") => `(tactic| refine .inl ⟨_, rfl, ?_⟩)
/-- a dict of patterns under words -/
def DictP (Z : Adr) (P : Program) (w : World) (L : Int) (F : Option PySem.Str → Int → Prop) (H : Hp) (v : V) : Prop := ∃ d kvs, v = .ref d ∧ H d = some (DO P w d kvs) ∧ (kvs.map Prod.fst).Nodup ∧ kvs.length ≤ 30 ∧
  (∀ k, k ∈ kvs.map Prod.fst ↔ ∃ s, 0 ≤ s ∧ s ≤ 2 * L ∧ F k s) ∧ ∀ k u, (k, u) ∈ kvs → ∃ x p, u = .ref x ∧ p ∣ L ∧ PatAt Z H x p (F k)
theorem do_ne {P : Program} {w : World} {d : Addr} {kvs : List (Wd × V)} {xs : List V} : DO P w d kvs ≠ HO.lst xs := by
  unfold DO
  intro h
  cases h
theorem wV_str {k : Option PySem.Str} (h : k ≠ none) : ∃ z, k = some z ∧ wV k = .str z := by
  cases k with
  | none => exact absurd rfl h
  | some z => exact ⟨z, rfl, rfl⟩
theorem do_mut {P : Program} {w : World} {d : Addr} {kvs : List (Wd × V)} : Mut (some (DO P w d kvs)) := by
  unfold DO
  exact True.intro
theorem valV_in {ks : List (Option PySem.Str × Addr)} {k : Option PySem.Str} {a : Addr} (nd : (ks.map Prod.fst).Nodup) (h : (k, a) ∈ ks) : valV (kvR ks) k = some (.ref a) := by
  cases q : valV (kvR ks) k with
  | none => exact absurd h (valV_none q a)
  | some v =>
    obtain ⟨b, rfl, hb⟩ := valV_some q
    rw [nodup_fst nd h hb]
theorem putK_fresh {κ : Type} [DecidableEq κ] {kvs : List (κ × V)} {k : κ} {v : V} (h : k ∉ kvs.map Prod.fst) : putK kvs k v = kvs ++ [(k, v)] := by
  unfold putK
  rw [if_neg]
  rw [List.any_eq_true]
  rintro ⟨x, hx, e⟩
  exact h (List.mem_map.mpr ⟨x, hx, of_decide_eq_true e⟩)
/-- the order of the words: None ahead, if it is one -/
theorem ord_vals (b : Bool) (ys : List PySem.Str) : (List.replicate (if b = true then (1 : Int) else 0).toNat [V.non]).flatten ++ ys.map V.str = ((if b = true then [none] else []) ++ ys.map some : List (Option PySem.Str)).map wV := by
  cases b <;> simp [wV] <;> rfl
theorem ord_facts {tk : List (Option PySem.Str × Addr)} (nd : (tk.map Prod.fst).Nodup) {ys : List PySem.Str} (perm : ys.Perm (tk.filterMap Prod.fst)) :
    ((if (valV (kvR tk) none).isSome = true then [none] else []) ++ ys.map some : List (Option PySem.Str)).Nodup ∧ ∀ k, k ∈ ((if (valV (kvR tk) none).isSome = true then [none] else []) ++ ys.map some : List (Option PySem.Str)) ↔ ∃ a, (k, a) ∈ tk := by
  have hn : (valV (kvR tk) none).isSome = true ↔ ∃ a, ((none : Option PySem.Str), a) ∈ tk := by
    constructor
    · intro h
      obtain ⟨v, hv⟩ := Option.isSome_iff_exists.mp h
      obtain ⟨a, _, ha⟩ := valV_some hv
      exact ⟨a, ha⟩
    · rintro ⟨a, ha⟩
      rw [valV_in nd ha]
      rfl
  have hy : ∀ z, z ∈ ys ↔ ∃ a, (some z, a) ∈ tk := by
    intro z
    rw [perm.mem_iff, List.mem_filterMap]
    constructor
    · rintro ⟨⟨k, a⟩, h, e⟩
      dsimp only at e
      subst e
      exact ⟨a, h⟩
    · rintro ⟨a, h⟩
      exact ⟨_, h, rfl⟩
  have ynd : ys.Nodup := by
    rw [perm.nodup_iff]
    have go : ∀ tk : List (Option PySem.Str × Addr), (tk.map Prod.fst).Nodup → (tk.filterMap Prod.fst).Nodup := by
      intro tk
      induction tk with
      | nil => intro _; simp
      | cons p l ih =>
        intro h
        rw [List.map_cons, List.nodup_cons] at h
        obtain ⟨k, a⟩ := p
        cases k with
        | none => simpa using ih h.2
        | some z =>
          have e : ((some z, a) :: l).filterMap Prod.fst = z :: l.filterMap (Prod.fst : Option PySem.Str × Addr → Option PySem.Str) := by simp [List.filterMap_cons]
          rw [e, List.nodup_cons]
          refine ⟨fun hz => h.1 ?_, ih h.2⟩
          obtain ⟨p, hp, e⟩ := List.mem_filterMap.mp hz
          exact List.mem_map.mpr ⟨p, hp, e⟩
    exact go tk nd
  constructor
  · rw [List.nodup_append]
    refine ⟨by split <;> simp, ?_, fun x hx y hy e => ?_⟩
    · exact List.Pairwise.map some (fun a b h e => h (Option.some.inj e)) ynd
    · subst e
      obtain ⟨z, _, rfl⟩ := List.mem_map.mp hy
      split at hx
      · simp at hx
      · simp at hx
  · intro k
    rw [List.mem_append]
    cases k with
    | none =>
      rw [← hn]
      constructor
      · rintro (h | h)
        · split at h
          · assumption
          · simp at h
        · simp at h
      · intro h
        rw [if_pos h]
        simp
    | some z =>
      rw [← hy]
      constructor
      · rintro (h | h)
        · split at h <;> simp at h
        · obtain ⟨z', h1, h2⟩ := List.mem_map.mp h
          cases h2
          exact h1
      · intro h
        exact .inr (List.mem_map.mpr ⟨z, h, rfl⟩)
section
variable {P : Program} {w : World} {K : PySem.W.Frag} {mg : PySem.Str → Option Value} {base : Heap} {Z : Adr}
def sp_outcomes (P : Program) (w : World) (Z : Adr) : Sp := mkSp (fun ((x, _) : Addr × List Row × List Int) => [.ref x]) (fun (x, rows, hs) H => ProgAt Z H x rows hs ∧ lcmL hs ≤ 5040)
  (fun (_, rows, hs) H v H' => Ex H H' ∧ DictP Z P w (lcmL hs) (fun k s => outW rows s = k) H' v)
abbrev s_outcomes : Stmt := top 60
theorem sc_outcomes : FnScope ["program", "whole", "found", "told", "path", "regions", "order", "word"] ["program"] (C8.fnScope s_outcomes) := C8.fnScope_by (by decide +kernel)
theorem c_outcomes (T : Txt P w K mg base Z) : C8.Cal P w K mg base 7 "outcomes" (sp_outcomes P w Z) [] :=
  calD (k := 6) T.d_outcomes sc_outcomes (fun _ _ _ _ _ _ us h => by obtain ⟨_, rfl⟩ := us1 (by exact h); rfl) (fun _ => rfl) (fun cdv f A outer s H0 H Q E a hr pre hq => by
    have S := sc_outcomes
    obtain ⟨x, rows, hs⟩ := a
    obtain ⟨hx, hl⟩ := pre
    obtain ⟨dx, tt, ee, vs, i1, ht, hv, he, hh, ro⟩ := id hx
    have L1 := lcmL_ge (l := hs) fun n hn => (hh.bounds ro n hn).1
    obtain ⟨L, hL⟩ : ∃ L, lcmL hs = L := ⟨_, rfl⟩
    have hq : ∀ v H', Ex H H' → DictP Z P w L (fun k s => outW rows s = k) H' v → Q v H' := by
      rw [← hL]
      exact fun v H' a b => hq v H' ⟨a, b⟩
    have hdv : ∀ h es ts, Row.look h es ts ∈ rows → 1 ≤ h ∧ h ∣ L := fun h es ts hm => by
      have hm := (hh.mem h).mpr ⟨es, ts, hm⟩
      exact ⟨(hh.bounds ro h hm).1, by rw [← hL]; exact lcmL_dvd hm⟩
    refine ⟨_, (pss_cons (ps_asg (C8.pe_c (c_regions_by_path T) hr (by decide) rfl (pa_cons (pv 0) pa_nil)) (pgT (K := K) (n := 2) rfl (by rfl) (pgs_cons (pg_name (i := 1) S.nd rfl (Or.inr rfl)) (pgs_cons (pg_name (i := 2) S.nd rfl (Or.inl rfl)) pgs_nil))))
  (pss_cons (ps_set (i := 3) S.nd rfl (Or.inr rfl) pe_newO)
  (pss_cons (ps_lock (ps_for PassesOwn.never rfl (pi_itemsT (pv 2)) (pgT (K := K) (n := 2) rfl (by rfl) (pgs_cons (pg_name (i := 4) S.nd rfl (Or.inl rfl)) (pgs_cons (pg_name (i := 5) S.nd rfl (Or.inl rfl)) pgs_nil))) (pss_one (ps_expr (pe_bm PySem.F.plainAttrs_list PySem.F.slot_list_extend PySem.F.type_list_extend mt_extend (pe_bmO PySem.F.slot_dict_setdefault PySem.F.type_dict_setdefault mt_sdO (pv 3) (pa_cons (C8.pe_c (c_word_of T) hr (by decide) rfl (pa_cons (pe_pr (c_Program_rows T) hr (by decide) (pv 0)) (pa_cons (pv 4) pa_nil))) (pa_cons (pe_lst pa_nil) pa_nil))) (pa_cons (pv 5) pa_nil))))))
  (pss_cons (ps_set (i := 6) S.nd rfl (Or.inl rfl) (pe_op op_cat (pe_op op_rep (pe_lst (pa_cons pe_non pa_nil)) (pe_callTy call_int1 (by rfl) T.n_int (by decide +kernel) (pa_cons (pe_cmpR op_inO pe_non (pv 3) (by rfl)) pa_nil))) (pe_callB (srtS (K := K) rfl) (by rfl) T.n_sorted (by decide +kernel) (pa_cons (pe_lock (pe_lc (own := [("word", 7)]) rfl S.nd (pi_keysO (pv 3)) (blkOk_by (by kernel_rfl)) (fun _ _ _ _ _ => (pg_name (i := 7) S.nd rfl (by first | exact Or.inl rfl | exact Or.inr rfl))) (fun _ _ _ _ _ => (pts_one (pt_cmpR op_notN (pv 7) pe_non (nomark _)))) (fun _ _ _ _ _ => (pv 7)))) pa_nil))))
  (pss_one (ps_ret (pe_dcO (own := [("word", 7)]) rfl S.nd (piL (K := K) rfl (pv 6)) (blkOk_by (by kernel_rfl)) (fun _ _ _ _ _ => (pg_name (i := 7) S.nd rfl (by first | exact Or.inl rfl | exact Or.inr rfl))) (fun _ _ _ _ _ => pts_nil) (fun _ _ _ _ _ => (pv 7)) (fun _ _ _ _ _ => (C8.pe_mk (k_Pattern T) hr (by decide) rfl (pa_cons (pv 1) (pa_cons (C8.pe_c (c_pieces_of T) hr (by decide) rfl (pa_cons (pe_callB (srtI (K := K) rfl) (by rfl) T.n_sorted (by decide +kernel) (pa_cons (getO (P := P) (w := w) rfl rfl (pv 3) (pv 7) (fun _ _ => rfl)) pa_nil)) pa_nil)) pa_nil))))))))))), ?_⟩
    walk_at "rd"
    refine ⟨(x, rows, hs), rfl, ⟨hx, hl⟩, ?_⟩
    rintro v H1 ⟨t, d, ks, rfl, htu, nd, hd, e1, g, ga⟩
    rw [hL] at htu g ga hl L1
    obtain ⟨N, hN⟩ : ∃ N, (2 * L + 1).toNat = N := ⟨_, rfl⟩
    rw [hN] at g ga
    walk_at "rd"
    refine fun tl ntl => ?_
    have tld : tl ≠ d := (ne_of_none hd ntl).symm
    walk_at "rd"
    have hd2 : upd H1 tl (DO P w tl []) d = some (.dT (kvR ks)) := upd_old hd ntl
    refine ⟨d, _, hd2, trivial, fun od => ?_⟩
    walk_at "rd"
    refine ⟨_, _, _, rfl, upd_same, ?_⟩
    obtain ⟨Bd, hBd⟩ : ∃ Bd, upd H1 d (.frz od (.dT (kvR ks))) = Bd := ⟨_, rfl⟩
    have eBd : ∀ a o, a ≠ d → H1 a = some o → Bd a = some o := fun a o ne h => by rw [← hBd, upd_ne ne]; exact h
    have hBdd : Bd d = some (.frz od (.dT (kvR ks))) := by rw [← hBd]; exact upd_same
    have ntlB : Bd tl = none := by rw [← hBd, upd_ne tld]; exact ntl
    have e0 : Ex Bd (upd (upd H1 tl (DO P w tl [])) d (.frz od (.dT (kvR ks)))) := fun a o h => by
      rw [← hBd] at h
      by_cases q : a = d
      · subst q
        rw [upd_same] at h ⊢
        exact h
      · rw [upd_ne q] at h ⊢
        exact upd_old h ntl
    have htl0 : upd (upd H1 tl (DO P w tl [])) d (.frz od (.dT (kvR ks))) tl = some (DO P w tl (kvR [])) := by rw [upd_ne tld]; exact upd_same
    have xd : x ≠ d := fun z => by
      have := e1 _ _ i1
      rw [z, hd] at this
      cases this
    have hxB : ProgAt Z Bd x rows hs := by
      obtain ⟨dx, tt, ee, vs, i1, ht, hv, he, hh, ro⟩ := hx.ex e1
      refine ⟨dx, tt, ee, vs, eBd _ _ xd i1, eBd _ _ (ne_of ht hd (fun z => nomatch z)) ht, ?_, eBd _ _ (ne_of he hd (fun z => nomatch z)) he, hh, ro⟩
      refine paired_map (fun v r h => ?_) hv
      cases r with
      | tell w => obtain ⟨p, a, b⟩ := h; exact ⟨p, a, eBd _ _ (ne_of b hd (fun z => nomatch z)) b⟩
      | look h es ts => obtain ⟨p, q, t, a, b, c, dd⟩ := h; exact ⟨p, q, t, a, eBd _ _ (ne_of b hd (fun z => nomatch z)) b, eBd _ _ (ne_of c hd (fun z => nomatch z)) c, eBd _ _ (ne_of dd hd (fun z => nomatch z)) dd⟩
    obtain ⟨dx', tt', ee', vs', i1', ht', hv', he', _, _⟩ := id hxB
    let F : Nat → Option PySem.Str := fun r => outW rows r
    let Dn : Nat → Nat → Prop := fun j r => r < N ∧ ∃ (i : Nat) (a : Addr), i < j ∧ ks[i]? = some (keyF rows r, a)
    have Nle : N ≤ 20000 := by omega
    have ksl : (kvR ks).length = ks.length := by unfold kvR; rw [List.length_map]
    refine for_it (walk_Ti (d := d) (o := od) (kvs := kvR ks)) (fun j σ H' => Hold (Ex Bd H' ∧ ∃ (tk : List (Option PySem.Str × Addr)) (o1 o2 o3 o4 : Option V), σ = [some (.ref x), some (.int L), some (.ref d), some (.ref tl), o1, o2, o3, o4] ∧ H' tl = some (DO P w tl (kvR tk)) ∧ Tol N F (Dn j) tk ∧ TolAt Bd H' F (Dn j) tk ∧ tk.length ≤ j))
      (.of ⟨e0, [], _, _, _, _, rfl, htl0, ⟨by simp, by simp, fun r h => by obtain ⟨_, i, _, hi, _⟩ := h; omega, fun k a h => by simp at h, fun r h => h.1⟩, fun p h => by simp at h, by simp⟩) (fun j σ H' _ h => h.out.1 _ _ hBdd) ?_ ?_
    · rintro j y σ H2 H3 hj hP ⟨T1, q, k, v, hkv, hqk, rfl, nT, rfl⟩
      obtain ⟨e, tk, o1, o2, o3, o4, rfl, htl, tol, tat, tkl⟩ := hP.out
      clear hP
      obtain ⟨⟨k', a⟩, hka, ekv⟩ := map_get hkv
      simp only [Prod.mk.injEq] at ekv
      obtain ⟨rfl, rfl⟩ := ekv
      have kam := List.mem_of_getElem? hka
      obtain ⟨r0, hr0, hk0⟩ := g.som k a kam
      obtain ⟨pa, z, hpz, z0, z1⟩ := path_form ro (r0 : Int)
      have hqv : H2 q = some (.tup ((pa ++ [z]).map .int)) := by
        rw [hqk, ← hk0]
        unfold keyF
        rw [key_ints, hpz]
      obtain ⟨wk, hwk⟩ : ∃ wk, wordAt rows (pa ++ [z]) = wk := ⟨_, rfl⟩
      have same : ∀ r, keyF rows r = k → F r = wk := fun r hr => by
        have : pathF rows (r : Int) = pathF rows (r0 : Int) := inl_inj (hr.trans hk0.symm)
        show wordAt rows (pathF rows r) = wk
        rw [this, hpz, hwk]
      obtain ⟨gn, gl⟩ := ga _ kam
      dsimp only at gn gl
      have ad : a ≠ d := fun z => by rw [z, hd] at gl; cases gl
      have gl2 : H2 a = some (.lst ((grpL (keyF rows) N k).map .int)) := e _ _ (eBd _ _ ad gl)
      walk_at "rd"
      refine ⟨⟨tl, _, rfl, .inl (upd_old htl nT)⟩, ?_⟩
      walk_at "rd"
      have hx3 := hxB.ex (e.new (o := .tup [V.ref q, V.ref a]) nT)
      refine ⟨_, _, _, rfl, upd_old (e _ _ i1') nT, (x, rows, hs), rfl, hx3, ?_⟩
      rintro v H4 ⟨rt, rvs, rfl, rfl, hrt, hrv⟩
      walk_at "rd"
      refine ⟨(rt, q, rvs, rows, pa, z), rfl, ⟨hrt, hrv, upd_old hqv nT, z0, z1⟩, ?_⟩
      rintro v H5 ⟨rfl, rfl⟩
      rw [hwk]
      walk_at "rd"
      refine ⟨by walk_at "sz", fun zl nzl => ?_⟩
      have htl6 : upd (upd H2 T1 (.tup [V.ref q, V.ref a])) zl (.lst []) tl = some (DO P w tl (kvR tk)) := upd_old (upd_old htl nT) nzl
      have gl6 : upd (upd H2 T1 (.tup [V.ref q, V.ref a])) zl (.lst []) a = some (.lst ((grpL (keyF rows) N k).map .int)) := upd_old (upd_old gl2 nT) nzl
      have e6 : Ex Bd (upd (upd H2 T1 (.tup [V.ref q, V.ref a])) zl (.lst [])) := (e.new nT).new nzl
      have tat6 : TolAt Bd (upd (upd H2 T1 (.tup [V.ref q, V.ref a])) zl (.lst [])) F (Dn j) tk := fun p hp => by
        obtain ⟨h1, xs, h2, h3⟩ := tat p hp
        exact ⟨h1, xs, upd_old (upd_old h2 nT) nzl, h3⟩
      let S : Nat → Prop := fun r => r < N ∧ keyF rows r = k
      have hS : ∀ r, S r → r < N ∧ F r = wk := fun r h => ⟨h.1, same r h.2⟩
      have dn : ∀ r, (Dn j r ∨ S r) ↔ Dn (j + 1) r := fun r => by
        constructor
        · rintro (⟨h1, i, b, h2, h3⟩ | ⟨h1, h2⟩)
          · exact ⟨h1, i, b, by omega, h3⟩
          · exact ⟨h1, j, a, by omega, by rw [h2]; exact hka⟩
        · rintro ⟨h1, i, b, h2, h3⟩
          by_cases w : i < j
          · exact .inl ⟨h1, i, b, w, h3⟩
          · have : i = j := by omega
            subst this
            rw [hka] at h3
            cases h3
            exact .inr ⟨h1, rfl⟩
      have dis : ∀ r, Dn j r → ¬ S r := fun r h1 h2 => by
        obtain ⟨_, i, b, hi, h3⟩ := h1
        rw [h2.2] at h3
        have hi' := (List.getElem?_eq_some_iff.mp h3)
        have hj' := (List.getElem?_eq_some_iff.mp hka)
        have := (List.pairwise_iff_getElem.mp g.nd) i j (by rw [List.length_map]; exact hi'.1) (by rw [List.length_map]; exact hj'.1) hi
        rw [List.getElem_map, List.getElem_map, hi'.2, hj'.2] at this
        exact this rfl
      have gnd : (grpL (keyF rows) N k).Nodup := by
        refine List.Pairwise.imp ?_ (grpL_inc (f := keyF rows) (i := N) (k := k))
        intro a b h
        omega
      have gm : ∀ y, y ∈ grpL (keyF rows) N k ↔ ∃ r : Nat, y = r ∧ S r := fun y => by
        rw [grpL_mem]
      have glen := grpL_len (f := keyF rows) (i := N) (k := k)
      refine ⟨tl, kvR tk, wk, .ref zl, rfl, rfl, htl6, szlt (by unfold kvR; rw [List.length_map]; have := g.ln; rw [ksl] at hj; omega), fun v hv => ?_, fun hv => ?_⟩
      · obtain ⟨b, rfl, hb⟩ := valV_some hv
        obtain ⟨h1, xs, h2, h3⟩ := tat6 _ hb
        dsimp only at h1 h2 h3
        have xl := h3.len tol.lt
        have ba : a ≠ b := fun z => by
          subst z
          rw [← hBd, upd_ne ad, gl] at h1
          cases h1
        walk_at "rd"
        refine ⟨_, _, _, _, rfl, rfl, h2, gl6, szL (by rw [List.length_map, List.length_map]; omega), ?_⟩
        have tb : tl ≠ b := ne_of htl6 h2 do_ne
        refine .of ⟨e6.mut h1, tk, _, _, _, _, rfl, upd_off htl6 tb, (tol.step hS hb).eqv dn, ?_, by omega⟩
        rintro ⟨k2, b2⟩ hp
        obtain ⟨p1, ys, p2, p3⟩ := tat6 _ hp
        dsimp only at p1 p2 p3 ⊢
        refine ⟨p1, ?_⟩
        by_cases w : k2 = wk
        · subst w
          have := nodup_fst tol.nd hp hb
          subst this
          exact ⟨xs ++ grpL (keyF rows) N k, by rw [upd_same, List.map_append], (h3.grow gnd gm (fun r h => (hS r h).2) dis).eqv dn⟩
        · have ne : b2 ≠ b := fun e => by
            subst e
            exact w (nodup_snd tol.na hp hb)
          exact ⟨ys, upd_off p2 ne, (p3.same (fun r h => (hS r h).2) w).eqv dn⟩
      · have hn := valV_none hv
        have zt : zl ≠ tl := (ne_of_none (upd_old htl nT) nzl).symm
        have za : zl ≠ a := (ne_of_none (upd_old gl2 nT) nzl).symm
        have zn : ∀ k, (k, zl) ∉ tk := fun k hk => by
          obtain ⟨_, xs, h2, _⟩ := tat _ hk
          have := upd_old (o' := .tup [V.ref q, V.ref a]) h2 nT
          dsimp only at this
          rw [nzl] at this
          cases this
        have hz8 : upd (upd (upd H2 T1 (.tup [V.ref q, V.ref a])) zl (.lst [])) tl (DO P w tl (putK (kvR tk) wk (.ref zl))) zl = some (.lst []) := upd_off upd_same zt
        have at_ : a ≠ tl := ne_of gl6 htl6 do_ne.symm
        walk_at "rd"
        refine ⟨_, _, _, _, rfl, rfl, hz8, upd_off gl6 at_, szL (by rw [List.length_map]; show 0 + _ ≤ _; omega), ?_⟩
        have z0 : Bd zl = none := (e.new nT).back nzl
        refine .of ⟨(e6.mut ntlB).mut z0, tk ++ [(wk, zl)], _, _, _, _, rfl, ?_, (tol.more hS r0 ⟨hr0, hk0⟩ hn zn).eqv dn, ?_, by simp; omega⟩
        · rw [upd_ne zt.symm, upd_same, putK_new hn]
          rfl
        · rintro ⟨k2, b2⟩ hp
          rw [List.mem_append] at hp
          rcases hp with hp | hp
          · obtain ⟨p1, ys, p2, p3⟩ := tat6 _ hp
            dsimp only at p1 p2 p3 ⊢
            have w : k2 ≠ wk := fun e => by subst e; exact hn b2 hp
            have n1 : b2 ≠ tl := ne_of p2 htl6 do_ne.symm
            have n2 : b2 ≠ zl := fun z => by subst z; exact zn k2 hp
            exact ⟨p1, ys, upd_off (upd_off p2 n1) n2, (p3.same (fun r h => (hS r h).2) w).eqv dn⟩
          · simp at hp
            obtain ⟨rfl, rfl⟩ := hp
            refine ⟨z0, grpL (keyF rows) N k, upd_same, ?_⟩
            have h0 : TolL F (Dn j) k2 [] := ⟨by simp, fun y => by
              constructor
              · intro h; simp at h
              · rintro ⟨r, _, h1, h2⟩
                obtain ⟨b, hb⟩ := tol.all r h1
                rw [h2] at hb
                exact absurd hb (hn b)⟩
            exact (h0.grow gnd gm (fun r h => (hS r h).2) dis).eqv dn
    · intro σ H2 hP
      obtain ⟨e, tk, o1, o2, o3, o4, rfl, htl, tol, tat, tkl⟩ := hP.out
      refine ⟨e _ _ hBdd, ?_⟩
      obtain ⟨Hu, hHu⟩ : ∃ Hu, upd H2 d (.dT (kvR ks)) = Hu := ⟨_, rfl⟩
      have eU : Ex H1 Hu := by rw [← hHu]; exact Ex.unlock (by rw [hBd]; exact e) hd
      have htlU : Hu tl = some (DO P w tl (kvR tk)) := by rw [← hHu]; exact upd_off htl tld
      have dnF : ∀ r, Dn (kvR ks).length r ↔ r < N := fun r => by
        constructor
        · exact fun h => h.1
        · intro h
          obtain ⟨a, ha⟩ := g.all r h
          obtain ⟨i, hi, ei⟩ := List.getElem_of_mem ha
          exact ⟨h, i, a, by rw [ksl]; exact hi, by rw [List.getElem?_eq_getElem hi, ei]⟩
      have tolF := tol.eqv dnF
      have tatF : ∀ p ∈ tk, ∃ xs : List Int, Hu p.2 = some (.lst (xs.map .int)) ∧ TolL F (fun r => r < N) p.1 xs := fun p hp => by
        obtain ⟨h1, xs, h2, h3⟩ := tat p hp
        refine ⟨xs, ?_, h3.eqv dnF⟩
        rw [← hHu]
        exact upd_off h2 fun z => by rw [z, hBdd] at h1; cases h1
      have ksR : (kvR tk).length = tk.length := by unfold kvR; rw [List.length_map]
      have tk21 : tk.length ≤ 21 := by
        have h1 := nodup_sub (tk.map Prod.fst) (wordsOf rows) tolF.nd fun k hk => by
          obtain ⟨p, hp, rfl⟩ := List.mem_map.mp hk
          obtain ⟨r, _, h2⟩ := tolF.som p.1 p.2 hp
          rw [← h2]
          exact wordAt_mem rows _
        have h2 := wordsOf_len rows
        have h3 := ro.2.1
        rw [List.length_map] at h1
        omega
      have kn : ∀ k, (∃ a, (k, a) ∈ tk) ↔ ∃ s : Int, 0 ≤ s ∧ s ≤ 2 * L ∧ outW rows s = k := fun k => by
        constructor
        · rintro ⟨a, ha⟩
          obtain ⟨r, h1, h2⟩ := tolF.som k a ha
          exact ⟨r, by omega, by omega, h2⟩
        · rintro ⟨s, h1, h2, h3⟩
          obtain ⟨a, ha⟩ := tolF.all s.toNat (by omega)
          refine ⟨a, ?_⟩
          have : F s.toNat = k := by
            show outW rows ((s.toNat : Nat) : Int) = k
            rw [show ((s.toNat : Nat) : Int) = s by omega, h3]
          rw [← this]
          exact ha
      rw [hHu]
      clear hP tat tol e htl
      walk_at "rd"
      refine ⟨by walk_at "sz", fun n0 nn0 => ?_⟩
      walk_at "rd"
      refine ⟨tl, _, none, rfl, rfl, .inl (upd_old htlU nn0), ?_⟩
      walk_at "rd"
      walk_at "ib"
      refine ⟨_, _, _, rfl, rfl, upd_same, by split <;> omega, by split <;> omega, by split <;> decide, fun n1 nn1 => ?_⟩
      walk_at "rd"
      have htl2 := upd_old (o' := .lst (List.replicate (if (valV (kvR tk) none).isSome = true then (1 : Int) else 0).toNat [V.non]).flatten) (upd_old (o' := .lst [V.non]) htlU nn0) nn1
      obtain ⟨H3, hH3⟩ : ∃ H3, upd (upd Hu n0 (.lst [V.non])) n1 (.lst (List.replicate (if (valV (kvR tk) none).isSome = true then (1 : Int) else 0).toNat [V.non]).flatten) = H3 := ⟨_, rfl⟩
      have e3 : Ex Hu H3 := by rw [← hH3]; exact ((Ex.refl _).new nn0).new nn1
      have n1v : H3 n1 = some (.lst (List.replicate (if (valV (kvR tk) none).isSome = true then (1 : Int) else 0).toNat [V.non]).flatten) := by rw [← hH3]; exact upd_same
      rw [hH3] at htl2
      rw [show (upd (upd Hu n0 (.lst [V.non])) n1 (.lst (List.replicate (if (valV (kvR tk) none).isSome = true then (1 : Int) else 0).toNat [V.non]).flatten)) = H3 from hH3]
      refine ⟨tl, _, htl2, do_mut, fun od2 => ?_⟩
      walk_at "rd"
      refine ⟨_, _, _, rfl, upd_same, fun D nD => ?_⟩
      refine lcE (walkO (P := P) (w := w) (d := tl) (o := od2) (kvs := kvR tk)) nD (by unfold kvR; rw [List.length_map]; omega) (fun i => ((tk[i]?).bind Prod.fst).isSome) (fun i y _ => ∃ p b, tk[i]? = some p ∧ p.1 = some b ∧ y = .str b) (fun _ r => r) (fun _ r => r) (fun H e => e _ _ upd_same) ?_ ?_
      · rintro i y H4 H5 hi e4 ⟨rfl, k, v, hkv, rfl⟩ S Z hS hZ
        obtain ⟨⟨k', a⟩, hka, ekv⟩ := map_get hkv
        simp only [Prod.mk.injEq] at ekv
        obtain ⟨rfl, rfl⟩ := ekv
        refine ⟨rfl, ?_⟩
        cases k with
        | none =>
          walk_at "rd"
          exact hZ _ (Ex.refl _) (by rw [hka]; rfl)
        | some z =>
          walk_at "rd"
          exact hS _ _ (Ex.refl _) (by rw [hka]; rfl) ⟨_, z, hka, rfl, rfl⟩
      · intro H4 ys e4 hD got
        unfold Got at got
        rw [ksR] at got
        have hz := got_filterMap (l := tk) (g := Prod.fst) (h := V.str) tk.length ys (Nat.le_refl _) got
        rw [List.take_length] at hz
        subst hz
        refine ⟨e4 _ _ upd_same, ?_⟩
        have Dtl : D ≠ tl := fun z => by rw [z, upd_same] at nD; cases nD
        obtain ⟨H5, hH5⟩ : ∃ H5, upd H4 tl (DO P w tl (kvR tk)) = H5 := ⟨_, rfl⟩
        have e5 : Ex H3 H5 := by rw [← hH5]; exact Ex.unlock e4 htl2
        have hD5 : H5 D = some (.lst ((tk.filterMap Prod.fst).map V.str)) := by rw [← hH5]; exact upd_off hD Dtl
        have n1v5 := e5 _ _ n1v
        rw [show upd H4 tl (DO P w tl (kvR tk)) = H5 from hH5]
        walk_at "rd"
        refine ⟨D, tk.filterMap Prod.fst, rfl, sqL hD5, by have := List.length_filterMap_le (Prod.fst : Option PySem.Str × Addr → Option PySem.Str) tk; omega, fun ys p perm srt np => ?_⟩
        have ylen : ys.length ≤ 21 := by
          have h1 := perm.length_eq
          have := List.length_filterMap_le (Prod.fst : Option PySem.Str × Addr → Option PySem.Str) tk
          omega
        obtain ⟨ond, omem⟩ := ord_facts tolF.nd perm
        obtain ⟨ord, hord⟩ : ∃ ord, ((if (valV (kvR tk) none).isSome = true then [none] else []) ++ ys.map some : List (Option PySem.Str)) = ord := ⟨_, rfl⟩
        have ov := ord_vals (valV (kvR tk) none).isSome ys
        rw [hord] at ond omem ov
        have ol : ord.length ≤ 22 := by
          rw [← hord]
          rw [List.length_append, List.length_map]
          split <;> simp <;> omega
        refine ⟨_, _, _, _, rfl, rfl, upd_old n1v5 np, upd_same, szL (by rw [← List.length_append, ov, List.length_map]; omega), fun po npo => ?_⟩
        rw [ov]
        obtain ⟨H6, hH6⟩ : ∃ H6, upd (upd H5 p (.lst (ys.map V.str))) po (.lst (ord.map wV)) = H6 := ⟨_, rfl⟩
        have e56 : Ex H5 H6 := by rw [← hH6]; exact ((Ex.refl _).new np).new npo
        have hpo : H6 po = some (.lst (ord.map wV)) := by rw [← hH6]; exact upd_same
        rw [show upd (upd H5 p (.lst (ys.map V.str))) po (.lst (ord.map wV)) = H6 from hH6]
        have eU6 : Ex Hu H6 := (e3.trans e5).trans e56
        have htl6 := eU6 _ _ htlU
        walk_at "rd"
        refine ⟨⟨_, sqL hpo⟩, fun D2 nD2 => ?_⟩
        refine comp_it (u0 := fun D => DO P w D []) (walk_list (xs := ord.map wV)) (fun i H' => Hold (Ex H6 H' ∧ ∃ (kvs : List (Wd × V)), H' D2 = some (DO P w D2 kvs) ∧ kvs.map Prod.fst = ord.take i ∧ ∀ k u, (k, u) ∈ kvs → ∃ x p, u = .ref x ∧ p ∣ L ∧ PatAt Z H' x p (fun s => outW rows s = k)))
          (.of ⟨(Ex.refl _).new nD2, [], upd_same, rfl, fun k u h => by simp at h⟩) (fun i H' _ h => sqL (h.out.1 _ _ hpo)) ?_ ?_
        · rintro i y H7 H8 hi hP ⟨rfl, hy⟩
          obtain ⟨e7, kvs, hD7, kfst, kpat⟩ := hP.out
          obtain ⟨k, hk, rfl⟩ := map_get hy
          have kord := List.mem_of_getElem? hk
          obtain ⟨a, ha⟩ := (omem k).mp kord
          obtain ⟨xs, hxs, txs⟩ := tatF _ ha
          dsimp only at hxs txs
          have eU7 := eU6.trans e7
          refine ⟨rfl, ?_⟩
          walk_at "rd"
          refine ⟨tl, kvR tk, k, .ref a, rfl, rfl, .inl (eU7 _ _ htlU), valV_in tolF.nd ha, ?_⟩
          walk_at "rd"
          refine ⟨a, xs, rfl, sqL (eU7 _ _ hxs), fun ns q nperm ninc nq => ?_⟩
          have xl := txs.len (N := N) fun r h => h
          have nnd : ns.Nodup := nperm.nodup_iff.mpr txs.1
          have slt : ns.Pairwise (· < ·) := by
            refine List.Pairwise.imp₂ ?_ ninc nnd
            intro a b h1 h2
            omega
          have nmem : ∀ y, y ∈ ns ↔ ∃ r : Nat, y = r ∧ r < N ∧ outW rows r = k := fun y => (nperm.mem_iff).trans (txs.2 y)
          walk_at "rd"
          refine ⟨(q, ns), rfl, ⟨upd_same, slt, by rw [nperm.length_eq]; omega⟩, ?_⟩
          rintro v H9 ⟨pp, vs9, ps9, rfl, npp, e9, hpp, hv9, sp9, ok9, ln9⟩
          have e79 : Ex H8 H9 := ((Ex.refl _).new nq).trans e9
          walk_at "rd"
          refine fun z dz nz ndz dne => ?_
          refine ⟨(H9, z, dz, L, pp, vs9, ps9), rfl, ⟨nz, ndz, dne, rfl, L1, hl, hpp, hv9, fun y hy => ?_, by rw [nperm.length_eq] at ln9; omega⟩, ?_⟩
          · obtain ⟨a, z, rfl, q1, q2, q3⟩ := ok9 y hy
            obtain ⟨r1, rfl, h1, _⟩ := (nmem a).mp q1
            obtain ⟨r2, rfl, h2, _⟩ := (nmem z).mp q2
            exact pcOf_ok (by omega) q3 (by omega)
          · rintro v H10 ⟨rfl, e10, r, hr, h10⟩
            refine ⟨rfl, ?_⟩
            have e710 := e79.trans e10
            have hD10 := e710 _ _ hD7
            have kl : kvs.length ≤ 30 := by
              have := congrArg List.length kfst
              rw [List.length_map, List.length_take] at this
              omega
            have knew : k ∉ kvs.map Prod.fst := by
              rw [kfst]
              intro h
              obtain ⟨j, hj, ej⟩ := List.getElem_of_mem h
              rw [List.length_take] at hj
              rw [List.getElem_take] at ej
              have hk' := List.getElem?_eq_some_iff.mp hk
              have := (List.pairwise_iff_getElem.mp ond) j i (by omega) hk'.1 (by omega)
              rw [ej, hk'.2] at this
              exact this rfl
            refine ⟨kvs, k, rfl, hD10, szlt (by omega), .of ⟨(e7.trans e710).mut nD2, kvs ++ [(k, .ref z)], ?_, ?_, ?_⟩⟩
            · rw [upd_same, putK_fresh knew]
              rfl
            · rw [List.map_append, kfst, take_more hk]
              rfl
            · have pn : ∀ {x p M}, PatAt Z H10 x p M → PatAt Z (upd H10 D2 (DO P w D2 (putK kvs k (.ref z)))) x p M := fun h => by
                obtain ⟨dx, t, vs, ps, h1, h2, h3, h4⟩ := h
                have dn : ∀ {a o}, H10 a = some o → DO P w D2 kvs ≠ o → upd H10 D2 (DO P w D2 (putK kvs k (.ref z))) a = some o := fun h1 h2 => upd_off h1 fun e => by
                  subst e
                  rw [hD10] at h1
                  exact h2 (Option.some.inj h1)
                exact ⟨dx, t, vs, ps, dn h1 (by unfold DO; intro h; cases h), dn h2 (by unfold DO; intro h; cases h), paired_map (fun _ _ ⟨p, a, b⟩ => ⟨p, a, dn b (by unfold DO; intro h; cases h)⟩) h3, h4⟩
              intro k2 u hu
              rw [List.mem_append] at hu
              rcases hu with hu | hu
              · obtain ⟨x, p, rfl, hp, hx⟩ := kpat k2 u hu
                exact ⟨x, p, rfl, hp, pn (hx.ex e710)⟩
              · simp at hu
                obtain ⟨rfl, rfl⟩ := hu
                refine ⟨z, r, rfl, hr, pn (h10.congr fun s s0 => ?_)⟩
                have f := fold_rng (h := L) s L1
                rw [sp9, nmem]
                have fo : outW rows (fold L s) = outW rows s := by
                  unfold outW
                  rw [pathF_fold hdv]
                rw [← fo]
                constructor
                · rintro ⟨r, e, _, h⟩
                  rw [e]
                  exact h
                · intro h
                  exact ⟨(fold L s).toNat, by omega, by omega, by rw [show (((fold L s).toNat : Nat) : Int) = fold L s by omega]; exact h⟩
        · intro H7 hP
          obtain ⟨e7, kvs, hD7, kfst, kpat⟩ := hP.out
          rw [List.length_map, List.take_length] at kfst
          have kl : kvs.length ≤ 30 := by
            have := congrArg List.length kfst
            rw [List.length_map] at this
            omega
          exact hq _ _ (((e1.trans eU).trans eU6).trans e7) ⟨D2, kvs, rfl, hD7, by rw [kfst]; exact ond, kl, fun k => by rw [kfst, omem, kn], kpat⟩)
end
end Ff
end
section
set_option maxRecDepth 100000
set_option maxHeartbeats 4000000
/-! cells_of, number_at, ways_at. -/
namespace Ff
open PySem PySem.Spec PyProof.Rows L2
local macro_rules | `(tactic| walk_at "ex") => `(tactic| first
  | exact Ex.refl _
  | with_reducible assumption
  | (refine Ex.new ?_ (by with_reducible assumption); walk_at "ex")
  | (refine Ex.mut ?_ (by walk_at "hn"); walk_at "ex")
  | (refine Ex.trans ?_ (by with_reducible assumption); walk_at "ex"))
local macro_rules | `(tactic| walk_at "hn") => `(tactic| first
  | with_reducible assumption
  | exact Ex.back (by with_reducible assumption) (by with_reducible assumption)
  | exact upd_none (by with_reducible assumption)
  | exact upd_none (upd_none (by with_reducible assumption))
  | exact Ex.back (by with_reducible assumption) (upd_none (by with_reducible assumption))
  | exact Ex.back (by with_reducible assumption) (Ex.back (by with_reducible assumption) (by with_reducible assumption)))
local macro_rules | `(tactic| walk_at "hp") => `(tactic| first
  | with_reducible assumption
  | with_reducible exact upd_same
  | (refine Ex.at (by with_reducible assumption) ?_; walk_at "ex")
  | (refine upd_old ?_ (by with_reducible assumption); walk_at "hp")
  | (refine upd_off ?_ (by with_reducible assumption); walk_at "hp"))
local macro_rules | `(tactic| walk_at "sd") => `(tactic| ((try dsimp only [CMul, CDiv, CPow]); first | exact True.intro | omega | (with_reducible assumption)))
local macro_rules | `(tactic| walk_at "sz") => `(tactic| exact Nat.le_of_ble_eq_true rfl)
local macro_rules | `(tactic| walk_at "is") => `(tactic| first
  | refine ⟨_, _, _, _, _, rfl, .ty _, .base (.int _), kt_int, ?_⟩
  | refine ⟨_, _, _, _, _, rfl, .ty _, .base (.int _), kt_intb, ?_⟩
  | refine ⟨_, _, _, _, _, rfl, .ty _, .base (.bl _), kt_bool, ?_⟩
  | refine ⟨_, _, _, _, _, rfl, .ty _, .base (.str _), kt_str, ?_⟩
  | refine ⟨_, _, _, _, _, rfl, .ty _, .base (.tup (by walk_at "hp")), kt_tup, ?_⟩
  | refine ⟨_, _, _, _, _, rfl, .ty _, .base (.dK (by walk_at "hp")), kt_dict, ?_⟩)
local macro_rules | `(tactic| walk_at "rd1") => `(tactic| first
  | refine ⟨_, rfl, ?_⟩
  | refine ⟨_, _, rfl, rfl, And.intro (by walk_at "sd") ?_⟩
  | refine ⟨_, _, rfl, rfl, ?_⟩
  | refine ⟨rfl, ?_⟩
  | refine ⟨_, _, _, _, rfl, rfl, sqT (by walk_at "hp"), rfl, ?_⟩
  | refine ⟨_, _, _, _, rfl, rfl, sqL (by walk_at "hp"), rfl, ?_⟩
  | refine ⟨_, _, rfl, sqT (by walk_at "hp"), rfl, ?_⟩
  | refine ⟨_, _, _, _, _, rfl, by walk_at "hp", by assumption, by assumption, rfl, ?_⟩
  | refine ⟨.inl ⟨rfl, _, sqL (by walk_at "hp")⟩, ?_⟩
  | refine ⟨_, _, rfl, .inl (sqL (by walk_at "hp")), ?_⟩
  | refine ⟨_, _, rfl, .inr (sqT (by walk_at "hp")), ?_⟩
  | refine ⟨(_, _), rfl, ?_⟩
  | refine ⟨(_, _, _), rfl, ?_⟩
  | refine ⟨(_, _, _, _), rfl, ?_⟩
  | refine ⟨_, _, rfl, ?_⟩
  | refine ⟨_, _, _, rfl, ?_⟩
  | walk_at "is")
local macro_rules | `(tactic| walk_at "rd") => `(tactic| repeat walk_at "rd1")

local macro_rules | `(tactic| walk_at "ib") => `(tactic| refine .inr ⟨_, rfl, ?_⟩)
local macro_rules | `(tactic| walk_at "ii") => `(tactic| refine .inl ⟨_, rfl, ?_⟩)
def PairAt (H : Hp) (c : Int × Int) (v : V) : Prop := ∃ u, v = .ref u ∧ H u = some (.tup [.int c.1, .int c.2])
theorem PairAt.ex {H H' : Hp} {c : Int × Int} {v : V} (h : PairAt H c v) (e : Ex H H') : PairAt H' c v := by
  obtain ⟨u, a, b⟩ := h
  exact ⟨u, a, e _ _ b⟩
theorem PairAt.mut {H : Hp} {c : Int × Int} {v : V} {f : Addr} {xs : List V} {o : HO} (h : PairAt H c v) (hf : H f = some (.lst xs)) : PairAt (upd H f o) c v := by
  obtain ⟨u, a, b⟩ := h
  exact ⟨u, a, upd_off b (ne_of b hf (fun z => nomatch z))⟩
theorem paired_append {α β : Type} {F : α → β → Prop} {a b : List α} {x y : List β} (h1 : Paired F a x) (h2 : Paired F b y) : Paired F (a ++ b) (x ++ y) := by
  induction h1 with
  | nil => exact h2
  | cons r t ih => exact .cons r ih
section
variable {P : Program} {w : World} {K : PySem.W.Frag} {mg : PySem.Str → Option Value} {base : Heap} {Z : Adr}
def sp_number_at : Sp := mkSp (fun (k : Int) => [.int k]) (fun k _ => 0 ≤ k) (fun _ H v H' => ∃ p, v = .ref p ∧ Ex H H' ∧ ∃ xs, H' p = some (.tup xs))
abbrev s_number_at : Stmt := top 78
theorem sc_number_at : FnScope ["spot"] ["spot"] (C8.fnScope s_number_at) := C8.fnScope_by (by decide +kernel)
theorem c_number_at (T : Txt P w K mg base Z) : C8.Cal P w K mg base 3 "number_at" sp_number_at [] :=
  calD (k := 2) T.d_number_at sc_number_at (fun _ _ _ _ _ _ us h => by obtain ⟨_, rfl⟩ := us1 (by exact h); rfl) (fun _ => rfl) (fun cdv f A outer s H0 H Q E a hr pre hq => by
    have S := sc_number_at
    refine ⟨_, (pss_one (ps_ret (C8.pe_c (c_lowest T) hr (by decide) rfl (pa_cons (pv 0) (pa_cons pe_int pa_nil))))), ?_⟩
    walk_at "rd"
    refine ⟨⟨pre, by omega, by omega⟩, ?_⟩
    rintro v H' ⟨p, rfl, np, e, hp⟩
    exact hq _ _ ⟨p, rfl, e, _, hp⟩)
def sp_cells_of : Sp := mkSp (fun ((h, e, _) : Int × Addr × List Int) => [.int h, .ref e]) (fun (h, e, es) H => H e = some (.tup (es.map .int)) ∧ es.length ≤ 12)
  (fun (h, _, es) H v H' => ∃ p vs, v = .ref p ∧ H p = none ∧ Ex H H' ∧ H' p = some (.lst vs) ∧ Paired (PairAt H') (cellsF h es) vs)
abbrev s_cells_of : Stmt := top 71
theorem sc_cells_of : FnScope ["half", "ends", "found", "first", "end"] ["half", "ends"] (C8.fnScope s_cells_of) := C8.fnScope_by (by decide +kernel)
theorem c_cells_of (T : Txt P w K mg base Z) : C8.Cal P w K mg base 1 "cells_of" sp_cells_of [] :=
  calD (k := 0) T.d_cells_of sc_cells_of (fun _ _ _ _ _ _ us h => by obtain ⟨_, _, rfl⟩ := us2 (by exact h); rfl) (fun _ => rfl) (fun cdv f A outer s H0 H Q E a hr pre hq => by
    have S := sc_cells_of
    obtain ⟨h, e, es⟩ := a
    obtain ⟨he, ln⟩ := pre
    refine ⟨_, (pss_cons (ps_par (i := 2) (j := 3) rfl S.nd rfl rfl (by decide) rfl rfl (pa_cons (pe_lst pa_nil) (pa_cons pe_int pa_nil)) (by rfl))
  (pss_cons (ps_for PassesOwn.never rfl (piT (K := K) rfl (pv 1)) (pg_name (i := 4) S.nd rfl (Or.inl rfl)) (pss_cons (ps_set (i := 2) S.nd rfl (Or.inl rfl) (pe_op op_cat (pv 2) (pe_lst (pa_cons (pe_tup (pa_cons (pv 3) (pa_cons (pe_op op_sub (pe_op op_mul pe_int (pv 4)) pe_int) pa_nil))) (pa_cons (pe_tup (pa_cons (pe_op op_mul pe_int (pv 4)) (pa_cons (pe_op op_mul pe_int (pv 4)) pa_nil))) pa_nil)))))
  (pss_one (ps_set (i := 3) S.nd rfl (Or.inl rfl) (pe_op op_add (pe_op op_mul pe_int (pv 4)) pe_int)))))
  (pss_one (ps_ret (pe_op op_cat (pv 2) (pe_lst (pa_cons (pe_tup (pa_cons (pv 3) (pa_cons (pe_op op_mul pe_int (pv 0)) pa_nil))) pa_nil))))))), ?_⟩
    walk_at "rd"
    refine ⟨by walk_at "sz", fun f0 nf0 => ?_⟩
    walk_at "rd"
    refine ⟨⟨_, sqT (by walk_at "hp")⟩, ?_⟩
    refine for_it (walk_tup (xs := es.map V.int)) (fun i σ H' => Hold (Ex H H' ∧ ∃ (f : Addr) (vs : List V) (o : Option V), σ = [some (.int h), some (.ref e), some (.ref f), some (.int ((es.take i).foldl cst ([], 0)).2), o] ∧ H f = none ∧ H' f = some (.lst vs) ∧ Paired (PairAt H') ((es.take i).foldl cst ([], 0)).1 vs ∧ vs.length = 2 * i))
      (.of ⟨by walk_at "ex", f0, [], _, rfl, nf0, upd_same, .nil, rfl⟩) (fun i σ H' _ h => sqT (h.out.1 _ _ he)) ?_ ?_
    · rintro i y σ H2 H3 hi hP ⟨rfl, hy⟩
      obtain ⟨e2, f, vs, o, rfl, nf, hf, hv, vl⟩ := hP.out
      clear hP
      obtain ⟨x, hx, rfl⟩ := map_get hy
      have hi : i < (es.map V.int).length := hi
      rw [List.length_map] at hi
      have st : (es.take (i + 1)).foldl cst ([], 0) = cst ((es.take i).foldl cst ([], 0)) x := by
        rw [take_more hx, List.foldl_append]
        rfl
      obtain ⟨⟨acc, fs⟩, hac⟩ : ∃ c, (es.take i).foldl cst ([], 0) = c := ⟨_, rfl⟩
      rw [hac] at st hv ⊢
      dsimp only at hv
      walk_at "rd"
      refine ⟨by walk_at "sz", fun t1 n1 => ?_⟩
      walk_at "rd"
      refine ⟨by walk_at "sz", fun t2 n2 => ?_⟩
      walk_at "rd"
      refine ⟨by walk_at "sz", fun l nl => ?_⟩
      refine ⟨_, _, _, _, rfl, rfl, upd_old (upd_old (upd_old hf n1) n2) nl, upd_same, szL (by rw [vl]; show 2 * i + 2 ≤ _; omega), fun p np => ?_⟩
      walk_at "rd"
      have e3 := ((((Ex.refl H3).new (o := .tup [V.int fs, .int (2 * x - 1)]) n1).new (o := .tup [V.int (2 * x), .int (2 * x)]) n2).new (o := .lst [V.ref t1, V.ref t2]) nl).new (o := .lst (vs ++ [V.ref t1, V.ref t2])) np
      refine .of ⟨e2.trans e3, p, vs ++ [.ref t1, .ref t2], some (.int x), ?_, (e2.trans ((((Ex.refl H3).new n1).new n2).new nl)).back np, upd_same, ?_, by simp; omega⟩
      · rw [st]
        rfl
      · rw [st]
        refine paired_append (paired_map (fun _ _ q => q.ex e3) hv) (.cons ⟨t1, rfl, ?_⟩ (.cons ⟨t2, rfl, ?_⟩ .nil))
        · exact upd_old (upd_old (upd_old upd_same n2) nl) np
        · exact upd_old (upd_old upd_same nl) np
    · intro σ H2 hP
      obtain ⟨e2, f, vs, o, rfl, nf, hf, hv, vl⟩ := hP.out
      rw [List.length_map, List.take_length] at hv ⊢
      walk_at "rd"
      refine ⟨by walk_at "sz", fun t1 n1 => ?_⟩
      walk_at "rd"
      refine ⟨by walk_at "sz", fun l nl => ?_⟩
      rw [List.length_map] at vl
      refine ⟨_, _, _, _, rfl, rfl, upd_old (upd_old hf n1) nl, upd_same, szL (by rw [vl]; show 2 * es.length + 1 ≤ _; omega), fun p np => ?_⟩
      have e3 := (((Ex.refl H2).new (o := .tup [V.int (es.foldl cst ([], 0)).2, .int (2 * h)]) n1).new (o := .lst [V.ref t1]) nl).new (o := .lst (vs ++ [V.ref t1])) np
      refine hq _ _ ⟨p, vs ++ [.ref t1], rfl, (e2.trans (((Ex.refl H2).new n1).new nl)).back np, e2.trans e3, upd_same, ?_⟩
      unfold cellsF
      exact paired_append (paired_map (fun _ _ q => q.ex e3) hv) (.cons ⟨t1, rfl, upd_old (upd_old upd_same nl) np⟩ .nil))
theorem walk_LT {K : PySem.W.Frag} {a b : Addr} {xs ys : List V} (hn : xs.length = ys.length) : Walk (ItLT K a b) xs.length (fun H => SqL K H a xs ∧ SqT K H b ys) (YPair (fun i => xs[i]?) (fun i => ys[i]?)) := by
  refine ⟨fun i H hi h => ⟨xs, ys, h.1, h.2, hi, by omega⟩, fun H h => ⟨xs, ys, h.1, h.2, by omega⟩, fun i H x H' _ h y => ?_⟩
  obtain ⟨T, x, z, h1, h2, h3, h4, h5⟩ := y
  exact ⟨T, x, z, h1, h2, h3, h4 xs h.1, h5 ys h.2⟩
theorem max3_of {m a b c : Int} (h : m ∈ [a, b, c]) (l : ∀ y, y ∈ [a, b, c] → y ≤ m) : m = max a (max b c) := by
  have h1 := l a (by simp)
  have h2 := l b (by simp)
  have h3 := l c (by simp)
  simp at h
  omega
theorem min3_of {m a b c : Int} (h : m ∈ [a, b, c]) (l : ∀ y, y ∈ [a, b, c] → m ≤ y) : m = min a (min b c) := by
  have h1 := l a (by simp)
  have h2 := l b (by simp)
  have h3 := l c (by simp)
  simp at h
  omega
/-- the ways that the cells below j give -/
structure WaySt (h : Int) (es ts : List Int) (here d : Int) (j : Nat) (ws : List (Int × Int)) : Prop where
  ok : ∀ t, (∃ r, (r, t) ∈ ws) ↔ ∃ (i : Nat) (a b : Int), i < j ∧ (cellsF h es)[i]? = some (a, b) ∧ ts[i]? = some t ∧ max a (max (here - 2 * d) 0) ≤ min b (min (here + 2 * d) (2 * h))
  pos : ∀ w ∈ ws, 0 ≤ w.1
  ln : ws.length ≤ j
theorem WaySt.done {h : Int} {es ts : List Int} {s d : Int} {ws : List (Int × Int)} (c : WaySt h es ts (fold h s) d (cellsF h es).length ws) (hp : es.Pairwise (· < ·)) (h0 : ∀ e ∈ es, 0 ≤ e ∧ e ≤ h) (hh : 1 ≤ h) (l : ts.length = 2 * es.length + 1) (t : Int) : (∃ r, (r, t) ∈ ws) ↔ Tg (.look h es ts) s d t := by
  rw [c.ok]
  have cl := cellsF_len hp h0
  constructor
  · rintro ⟨i, a, b, hi, hc, ht, hm⟩
    refine ⟨max a (max (fold h s - 2 * d) 0), by omega, by omega, by omega, by omega, ?_⟩
    have := (cellsF_at hp h0 hc (s := max a (max (fold h s - 2 * d) 0)) (by omega) (by omega)).mp ⟨by omega, by omega⟩
    rw [this, Int.toNat_natCast]
    exact ht
  · rintro ⟨x, x0, x1, x2, x3, ht⟩
    have r := cellS_rng es x
    obtain ⟨⟨a, b⟩, hc⟩ : ∃ p, (cellsF h es)[(cellS es x).toNat]? = some p := ⟨_, List.getElem?_eq_getElem (by omega)⟩
    have := (cellsF_at hp h0 hc x0 x1).mpr (by omega)
    exact ⟨(cellS es x).toNat, a, b, by omega, hc, ht, by omega⟩
theorem WaySt.skip {h : Int} {es ts : List Int} {here d : Int} {j : Nat} {ws : List (Int × Int)} {a b : Int} (c : WaySt h es ts here d j ws) (hc : (cellsF h es)[j]? = some (a, b)) (hn : ¬ max a (max (here - 2 * d) 0) ≤ min b (min (here + 2 * d) (2 * h))) : WaySt h es ts here d (j + 1) ws := by
  refine ⟨fun t => (c.ok t).trans ⟨?_, ?_⟩, c.pos, by have := c.ln; omega⟩
  · rintro ⟨i, a', b', hi, h1, h2, h3⟩
    exact ⟨i, a', b', by omega, h1, h2, h3⟩
  · rintro ⟨i, a', b', hi, h1, h2, h3⟩
    refine ⟨i, a', b', ?_, h1, h2, h3⟩
    by_cases q : i = j
    · subst q
      rw [hc] at h1
      cases h1
      exact absurd h3 hn
    · omega
theorem WaySt.take {h : Int} {es ts : List Int} {here d : Int} {j : Nat} {ws : List (Int × Int)} {a b t r : Int} (c : WaySt h es ts here d j ws) (hc : (cellsF h es)[j]? = some (a, b)) (ht : ts[j]? = some t) (hn : max a (max (here - 2 * d) 0) ≤ min b (min (here + 2 * d) (2 * h))) (hr : 0 ≤ r) : WaySt h es ts here d (j + 1) (ws ++ [(r, t)]) := by
  refine ⟨fun t' => ⟨?_, ?_⟩, fun w hw => ?_, by have := c.ln; simp; omega⟩
  · rintro ⟨r', h'⟩
    rw [List.mem_append] at h'
    rcases h' with h' | h'
    · obtain ⟨i, a', b', hi, h1, h2, h3⟩ := (c.ok t').mp ⟨r', h'⟩
      exact ⟨i, a', b', by omega, h1, h2, h3⟩
    · simp at h'
      obtain ⟨rfl, rfl⟩ := h'
      exact ⟨j, a, b, by omega, hc, ht, hn⟩
  · rintro ⟨i, a', b', hi, h1, h2, h3⟩
    by_cases q : i = j
    · subst q
      rw [ht] at h2
      cases h2
      exact ⟨r, by simp⟩
    · obtain ⟨r', h'⟩ := (c.ok t').mpr ⟨i, a', b', by omega, h1, h2, h3⟩
      exact ⟨r', List.mem_append_left _ h'⟩
  · rw [List.mem_append] at hw
    rcases hw with hw | hw
    · exact c.pos w hw
    · simp at hw
      rw [hw]
      exact hr
def sp_ways_at : Sp := mkSp (fun ((p, s, d, _) : Addr × Int × Int × Int × List Int × List Int) => [.ref p, .int s, .int d]) (fun (p, s, d, h, es, ts) H => rowV H (.ref p) (.look h es ts) ∧ 1 ≤ h ∧ h ≤ 1000 ∧ EndsOk h es ∧ ts.length = 2 * es.length + 1)
  (fun (_, s, d, h, es, ts) H v H' => ∃ q vs ws, v = .ref q ∧ H q = none ∧ Ex H H' ∧ H' q = some (.lst vs) ∧ Paired (PairAt H') ws vs ∧ (∀ t, (∃ r, (r, t) ∈ ws) ↔ Tg (.look h es ts) s d t) ∧ (∀ w ∈ ws, 0 ≤ w.1) ∧ ws.length ≤ 25)
abbrev s_ways_at : Stmt := top 72
theorem sc_ways_at : FnScope ["row", "spot", "doubt", "word", "half", "ends", "targets", "here", "found", "first", "last", "target", "low", "high"] ["row", "spot", "doubt"] (C8.fnScope s_ways_at) := C8.fnScope_by (by decide +kernel)
theorem c_ways_at (T : Txt P w K mg base Z) : C8.Cal P w K mg base 2 "ways_at" sp_ways_at [] :=
  calD (k := 1) T.d_ways_at sc_ways_at (fun _ _ _ _ _ _ us h => by obtain ⟨_, _, _, rfl⟩ := us3 (by exact h); rfl) (fun _ => rfl) (fun cdv f A outer s H0 H Q E a hr pre hq => by
    have S := sc_ways_at
    obtain ⟨p, s, d, h, es, ts⟩ := a
    obtain ⟨⟨q, e, t, ee, hp, he, ht⟩, h1, h2, en, tl⟩ := pre
    cases ee
    have eln := en.ln
    have cl := cellsF_len en.inc en.rng
    refine ⟨_, (pss_cons (ps_asg (pv 0) (pgT (K := K) (n := 4) rfl (by rfl) (pgs_cons (pg_name (i := 3) S.nd rfl (Or.inl rfl)) (pgs_cons (pg_name (i := 4) S.nd rfl (Or.inl rfl)) (pgs_cons (pg_name (i := 5) S.nd rfl (Or.inl rfl)) (pgs_cons (pg_name (i := 6) S.nd rfl (Or.inl rfl)) pgs_nil))))))
  (pss_cons (ps_par (i := 7) (j := 8) rfl S.nd rfl rfl (by decide) rfl rfl (pa_cons (C8.pe_c (c_folded_spot T) hr (by decide) rfl (pa_cons (pv 4) (pa_cons (pv 1) pa_nil))) (pa_cons (pe_lst pa_nil) pa_nil)) (by rfl))
  (pss_cons (ps_for PassesOwn.never rfl (pi_zipLT (by rfl) T.n_zip (pa_cons (C8.pe_c (c_cells_of T) hr (by decide) rfl (pa_cons (pv 4) (pa_cons (pv 5) pa_nil))) (pa_cons (pv 6) pa_nil))) (pgT (K := K) (n := 2) rfl (by rfl) (pgs_cons (pgT (K := K) (n := 2) rfl (by rfl) (pgs_cons (pg_name (i := 9) S.nd rfl (Or.inl rfl)) (pgs_cons (pg_name (i := 10) S.nd rfl (Or.inl rfl)) pgs_nil))) (pgs_cons (pg_name (i := 11) S.nd rfl (Or.inl rfl)) pgs_nil))) (pss_cons (ps_par (i := 12) (j := 13) rfl S.nd rfl rfl (by decide) rfl rfl (pa_cons (pe_callB (crMax (K := K) rfl rfl) (by rfl) T.n_max (by decide +kernel) (pa_cons (pe_lst (pa_cons (pv 9) (pa_cons (pe_op op_sub (pv 7) (pe_op op_mul pe_int (pv 2))) (pa_cons pe_int pa_nil)))) pa_nil)) (pa_cons (pe_callB (crMin (K := K) rfl rfl) (by rfl) T.n_min (by decide +kernel) (pa_cons (pe_lst (pa_cons (pv 10) (pa_cons (pe_op op_add (pv 7) (pe_op op_mul pe_int (pv 2))) (pa_cons (pe_op op_mul pe_int (pv 4)) pa_nil)))) pa_nil)) pa_nil)) (by rfl))
  (pss_one (ps_if (pt_cmpR op_le (pv 12) (pv 13) (nomark _)) (pss_one (ps_expr (pe_bm PySem.F.plainAttrs_list PySem.F.slot_list_append PySem.F.type_list_append mt_append (pv 8) (pa_cons (pe_tup (pa_cons (pe_callB (crMin (K := K) rfl rfl) (by rfl) T.n_min (by decide +kernel) (pa_cons (pe_lst (pa_cons (pv 13) (pa_cons (pe_callB (crMax (K := K) rfl rfl) (by rfl) T.n_max (by decide +kernel) (pa_cons (pe_lst (pa_cons (pv 12) (pa_cons (pv 7) pa_nil))) pa_nil)) pa_nil))) pa_nil)) (pa_cons (pv 11) pa_nil))) pa_nil)))) pss_nil))))
  (pss_one (ps_ret (pv 8)))))), ?_⟩
    walk_at "rd"
    refine ⟨⟨h1, by omega⟩, ?_⟩
    rintro v H1 ⟨rfl, e1⟩
    obtain ⟨here, hhere⟩ : ∃ x, fold h s = x := ⟨_, rfl⟩
    rw [hhere]
    have he1 := e1 _ _ he
    have ht1 := e1 _ _ ht
    walk_at "rd"
    refine ⟨by walk_at "sz", fun f nf => ?_⟩
    walk_at "rd"
    refine ⟨(h, e, es), rfl, ⟨upd_old he1 nf, eln⟩, ?_⟩
    rintro v H2 ⟨c, cs, rfl, nc, e2, hc, hcs⟩
    have csl := paired_len hcs
    have hf2 := e2 _ _ (upd_same (H := H1) (a := f) (o := .lst []))
    have ht2 := e2 _ _ (upd_old (o' := .lst []) ht1 nf)
    have hfn : H f = none := e1.back nf
    have cf : c ≠ f := fun z => by rw [z, upd_same] at nc; cases nc
    walk_at "rd"
    refine ⟨_, _, _, _, rfl, sqL hc, sqT ht2, ?_⟩
    have e12 : Ex H1 H2 := ((Ex.refl _).new nf).trans e2
    -- f is the one that changes: all else stands as in H1, or is c or a cell
    refine for_it (walk_LT (K := K) (a := c) (b := t) (xs := cs) (ys := ts.map V.int) (by rw [List.length_map]; omega)) (fun j σ H' => Hold (Ex H1 H' ∧ H' c = some (.lst cs) ∧ Paired (PairAt H') (cellsF h es) cs ∧ ∃ (vs : List V) (ws : List (Int × Int)) (o3 o9 o10 o11 o12 o13 : Option V),
        σ = [some (.ref p), some (.int s), some (.int d), o3, some (.int h), some (.ref e), some (.ref t), some (.int here), some (.ref f), o9, o10, o11, o12, o13] ∧ H' f = some (.lst vs) ∧ Paired (PairAt H') ws vs ∧ WaySt h es ts here d j ws))
      (.of ⟨e12, hc, hcs, [], [], _, _, _, _, _, _, rfl, hf2, .nil, ⟨fun t => ⟨fun ⟨r, h⟩ => by simp at h, fun ⟨i, _, _, h, _⟩ => by omega⟩, by simp, by simp⟩⟩) (fun j σ H' _ h => ⟨sqL h.out.2.1, sqT (h.out.1 _ _ ht1)⟩) ?_ ?_
    · rintro j y σ H3 H4 hj hP ⟨T1, cv, tv, rfl, nT, rfl, hcv, htv⟩
      obtain ⟨e3, hc3, hcs3, vs, ws, o3, o9, o10, o11, o12, o13, rfl, hf3, hws, st⟩ := hP.out
      clear hP
      obtain ⟨⟨a, b⟩, hab⟩ : ∃ x, (cellsF h es)[j]? = some x := ⟨_, List.getElem?_eq_getElem (by omega)⟩
      obtain ⟨cu, rfl, hcu⟩ := paired_get hcs3 hab hcv
      obtain ⟨tg, htg, rfl⟩ := map_get htv
      have hcu4 := upd_old (o' := .tup [V.ref cu, .int tg]) hcu nT
      dsimp only at hcu4
      have e34 := (Ex.refl H3).new (o := .tup [V.ref cu, .int tg]) nT
      have wl := st.ln
      have wvl := paired_len hws
      walk_at "rd"
      refine ⟨by walk_at "sz", fun p1 n1 => ?_⟩
      refine ⟨_, [_, _, _], rfl, sqL upd_same, Nat.zero_lt_succ _, fun m m1 m2 => ?_⟩
      have hm := max3_of m1 m2
      subst hm
      walk_at "rd"
      refine ⟨by walk_at "sz", fun p2 n2 => ?_⟩
      refine ⟨_, [_, _, _], rfl, sqL upd_same, Nat.zero_lt_succ _, fun m m1 m2 => ?_⟩
      have hm := min3_of m1 m2
      subst hm
      walk_at "rd"
      have e5 := (e34.new (o := .lst [V.int a, .int (here - 2 * d), .int 0]) n1).new (o := .lst [V.int b, .int (here + 2 * d), .int (2 * h)]) n2
      have hf5 := e5 _ _ hf3
      have hc5 := e5 _ _ hc3
      refine iteD (fun z => ?_) (fun z => ?_)
      · walk_at "rd"
        refine ⟨by walk_at "sz", fun p3 n3 => ?_⟩
        refine ⟨_, [_, _], rfl, sqL upd_same, Nat.zero_lt_succ _, fun m m1 m2 => ?_⟩
        have hm := max2_of m1 m2
        subst hm
        walk_at "rd"
        refine ⟨by walk_at "sz", fun p4 n4 => ?_⟩
        refine ⟨_, [_, _], rfl, sqL upd_same, Nat.zero_lt_succ _, fun m m1 m2 => ?_⟩
        have hm := min2_of m1 m2
        subst hm
        walk_at "rd"
        refine ⟨by walk_at "sz", fun p5 n5 => ?_⟩
        have e6 := ((e5.new (o := .lst [V.int (max a (max (here - 2 * d) 0)), .int here]) n3).new (o := .lst [V.int (min b (min (here + 2 * d) (2 * h))), .int (max (max a (max (here - 2 * d) 0)) here)]) n4).new (o := .tup [V.int (min (min b (min (here + 2 * d) (2 * h))) (max (max a (max (here - 2 * d) 0)) here)), .int tg]) n5
        have hf6 := e6 _ _ hf3
        refine ⟨_, _, _, rfl, rfl, hf6, szlt (by omega), ?_⟩
        have p5f : p5 ≠ f := (ne_of_none (upd_old (upd_old hf5 n3) n4) n5).symm
        refine .of ⟨(e3.trans e6).mut nf, upd_off (e6 _ _ hc3) cf, paired_map (fun _ _ q => (q.ex e6).mut hf6) hcs3, vs ++ [.ref p5], ws ++ [(min (min b (min (here + 2 * d) (2 * h))) (max (max a (max (here - 2 * d) 0)) here), tg)], _, _, _, _, _, _, rfl, upd_same, ?_, st.take hab htg z (by omega)⟩
        exact paired_app ⟨p5, rfl, upd_off upd_same p5f⟩ (paired_map (fun _ _ q => (q.ex e6).mut hf6) hws)
      · exact .of ⟨e3.trans e5, hc5, paired_map (fun _ _ q => q.ex e5) hcs3, vs, ws, _, _, _, _, _, _, rfl, hf5, paired_map (fun _ _ q => q.ex e5) hws, st.skip hab z⟩
    · intro σ H3 hP
      obtain ⟨e3, hc3, hcs3, vs, ws, o3, o9, o10, o11, o12, o13, rfl, hf3, hws, st⟩ := hP.out
      rw [← csl, ← hhere] at st
      have wl := st.ln
      walk_at "rd"
      exact hq _ _ ⟨f, vs, ws, rfl, hfn, e1.trans e3, hf3, hws, st.done en.inc en.rng h1 tl, st.pos, by omega⟩)
end
end Ff
end
section
set_option maxRecDepth 100000
set_option maxHeartbeats 4000000
/-! targets_at, reached. -/
namespace Ff
open PySem PySem.Spec PyProof.Rows L2
local macro_rules | `(tactic| walk_at "ex") => `(tactic| first
  | exact Ex.refl _
  | with_reducible assumption
  | (refine Ex.new ?_ (by with_reducible assumption); walk_at "ex")
  | (refine Ex.mut ?_ (by walk_at "hn"); walk_at "ex")
  | (refine Ex.trans ?_ (by with_reducible assumption); walk_at "ex"))
local macro_rules | `(tactic| walk_at "hn") => `(tactic| first
  | with_reducible assumption
  | exact Ex.back (by with_reducible assumption) (by with_reducible assumption)
  | exact upd_none (by with_reducible assumption)
  | exact upd_none (upd_none (by with_reducible assumption))
  | exact Ex.back (by with_reducible assumption) (upd_none (by with_reducible assumption))
  | exact Ex.back (by with_reducible assumption) (Ex.back (by with_reducible assumption) (by with_reducible assumption)))
local macro_rules | `(tactic| walk_at "hp") => `(tactic| first
  | with_reducible assumption
  | with_reducible exact upd_same
  | (refine Ex.at (by with_reducible assumption) ?_; walk_at "ex")
  | (refine upd_old ?_ (by with_reducible assumption); walk_at "hp")
  | (refine upd_off ?_ (by with_reducible assumption); walk_at "hp"))
local macro_rules | `(tactic| walk_at "sd") => `(tactic| ((try dsimp only [CMul, CDiv, CPow]); first | exact True.intro | omega | (with_reducible assumption)))
local macro_rules | `(tactic| walk_at "sz") => `(tactic| exact Nat.le_of_ble_eq_true rfl)
local macro_rules | `(tactic| walk_at "is") => `(tactic| first
  | refine ⟨_, _, _, _, _, rfl, .ty _, .base (.int _), kt_int, ?_⟩
  | refine ⟨_, _, _, _, _, rfl, .ty _, .base (.int _), kt_intb, ?_⟩
  | refine ⟨_, _, _, _, _, rfl, .ty _, .base (.bl _), kt_bool, ?_⟩
  | refine ⟨_, _, _, _, _, rfl, .ty _, .base (.str _), kt_str, ?_⟩
  | refine ⟨_, _, _, _, _, rfl, .ty _, .base (.tup (by walk_at "hp")), kt_tup, ?_⟩
  | refine ⟨_, _, _, _, _, rfl, .ty _, .base (.dK (by walk_at "hp")), kt_dict, ?_⟩)
local macro_rules | `(tactic| walk_at "rd1") => `(tactic| first
  | refine ⟨_, rfl, ?_⟩
  | refine ⟨_, _, rfl, rfl, And.intro (by walk_at "sd") ?_⟩
  | refine ⟨_, _, rfl, rfl, ?_⟩
  | refine ⟨rfl, ?_⟩
  | refine ⟨_, _, _, _, rfl, rfl, sqT (by walk_at "hp"), rfl, ?_⟩
  | refine ⟨_, _, _, _, rfl, rfl, sqL (by walk_at "hp"), rfl, ?_⟩
  | refine ⟨_, _, rfl, sqT (by walk_at "hp"), rfl, ?_⟩
  | refine ⟨_, _, _, _, _, rfl, by walk_at "hp", by assumption, by assumption, rfl, ?_⟩
  | refine ⟨.inl ⟨rfl, _, sqL (by walk_at "hp")⟩, ?_⟩
  | refine ⟨_, _, rfl, .inl (sqL (by walk_at "hp")), ?_⟩
  | refine ⟨_, _, rfl, .inr (sqT (by walk_at "hp")), ?_⟩
  | refine ⟨(_, _), rfl, ?_⟩
  | refine ⟨(_, _, _), rfl, ?_⟩
  | refine ⟨(_, _, _, _), rfl, ?_⟩
  | refine ⟨_, _, rfl, ?_⟩
  | refine ⟨_, _, _, rfl, ?_⟩
  | walk_at "is")
local macro_rules | `(tactic| walk_at "rd") => `(tactic| repeat walk_at "rd1")

local macro_rules | `(tactic| walk_at "ib") => `(tactic| refine .inr ⟨_, rfl, ?_⟩)
local macro_rules | `(tactic| walk_at "ii") => `(tactic| refine .inl ⟨_, rfl, ?_⟩)
def ListAt (H : Hp) (l : List Int) (v : V) : Prop := ∃ u, v = .ref u ∧ H u = some (.lst (l.map .int))
theorem ListAt.ex {H H' : Hp} {l : List Int} {v : V} (h : ListAt H l v) (e : Ex H H') : ListAt H' l v := by
  obtain ⟨u, a, b⟩ := h
  exact ⟨u, a, e _ _ b⟩
structure TsOk (n : Nat) (T : List (List Int)) : Prop where
  len : T.length = n
  n1 : 1 ≤ n
  n2 : n ≤ 20
  rng : ∀ l ∈ T, ∀ t ∈ l, 0 ≤ t ∧ t < n
section
variable {P : Program} {w : World} {K : PySem.W.Frag} {mg : PySem.Str → Option Value} {base : Heap} {Z : Adr}
theorem TOk.ts {rows : List Row} {s d : Int} {T : List (List Int)} (h : TOk rows s d T) (ro : RowsOk rows) : TsOk rows.length T := by
  refine ⟨h.1, ro.1, ro.2.1, fun l hl t ht => ?_⟩
  obtain ⟨i, hi, e⟩ := List.getElem_of_mem hl
  obtain ⟨r, hr⟩ : ∃ r, rows[i]? = some r := ⟨_, List.getElem?_eq_getElem (by have := h.1; omega)⟩
  have tg := (h.2.1 i l r (by rw [List.getElem?_eq_getElem hi, e]) hr t).mp ht
  have ok := ro.2.2 r (List.mem_of_getElem? hr)
  cases ok with
  | tell _ => exact tg.elim
  | look _ _ _ _ hts =>
    obtain ⟨x, _, _, _, _, hx⟩ := tg
    exact hts t (List.mem_of_getElem? hx)
def sp_targets_at (Z : Adr) : Sp := mkSp (fun ((x, s, d, _) : Addr × Int × Int × List Row × List Int) => [.ref x, .int s, .int d]) (fun (x, s, d, rows, hs) H => ProgAt Z H x rows hs)
  (fun (_, s, d, rows, _) H v H' => ∃ p vs T, v = .ref p ∧ H p = none ∧ Ex H H' ∧ H' p = some (.lst vs) ∧ Paired (fun l v => ∃ u, v = V.ref u ∧ H u = none ∧ H' u = some (.lst (l.map .int))) T vs ∧ TOk rows s d T)
abbrev s_targets_at : Stmt := top 73
theorem sc_targets_at : FnScope ["program", "spot", "doubt", "found", "row", "ways", "reading", "target"] ["program", "spot", "doubt"] (C8.fnScope s_targets_at) := C8.fnScope_by (by decide +kernel)
theorem c_targets_at (T : Txt P w K mg base Z) : C8.Cal P w K mg base 3 "targets_at" (sp_targets_at Z) [] :=
  calD (k := 2) T.d_targets_at sc_targets_at (fun _ _ _ _ _ _ us h => by obtain ⟨_, _, _, rfl⟩ := us3 (by exact h); rfl) (fun _ => rfl) (fun cdv f A outer s H0 H Q E a hr pre hq => by
    have S := sc_targets_at
    obtain ⟨x, s, d, rows, hs⟩ := a
    have hx : ProgAt Z H x rows hs := pre
    obtain ⟨dx, tt, ee, vs0, i1, ht, hv0, he, hh, ro⟩ := id hx
    refine ⟨_, (pss_cons (ps_set (i := 3) S.nd rfl (Or.inl rfl) (pe_lst pa_nil))
  (pss_cons (ps_for PassesOwn.never rfl (piT (K := K) rfl (pe_pr (c_Program_rows T) hr (by decide) (pv 0))) (pg_name (i := 4) S.nd rfl (Or.inl rfl)) (pss_cons (ps_set (i := 5) S.nd rfl (Or.inl rfl) (pe_ifExp (pt_cmpR op_eq (pe_ix (ixT (K := K) rfl) (pv 4) pe_int (fun _ _ => rfl)) pe_str (nomark _)) (C8.pe_c (c_ways_at T) hr (by decide) rfl (pa_cons (pv 4) (pa_cons (pv 1) (pa_cons (pv 2) pa_nil)))) (pe_lst pa_nil)))
  (pss_one (ps_expr (pe_bm PySem.F.plainAttrs_list PySem.F.slot_list_append PySem.F.type_list_append mt_append (pv 3) (pa_cons (pe_lc (own := [("reading", 6), ("target", 7)]) rfl S.nd (piL (K := K) rfl (pv 5)) (blkOk_by (by kernel_rfl)) (fun _ _ _ _ _ => (pgT (K := K) (n := 2) rfl (by rfl) (pgs_cons (pg_name (i := 6) S.nd rfl (by first | exact Or.inl rfl | exact Or.inr rfl)) (pgs_cons (pg_name (i := 7) S.nd rfl (by first | exact Or.inl rfl | exact Or.inr rfl)) pgs_nil)))) (fun _ _ _ _ _ => pts_nil) (fun _ _ _ _ _ => (pv 7))) pa_nil))))))
  (pss_one (ps_ret (pv 3))))), ?_⟩
    walk_at "rd"
    refine ⟨by walk_at "sz", fun f nf => ?_⟩
    walk_at "rd"
    refine ⟨_, _, _, rfl, upd_old i1 nf, (x, rows, hs), rfl, hx.ex ((Ex.refl _).new nf), ?_⟩
    rintro v H' ⟨rt, vs, rfl, rfl, hrt, hrv⟩
    have vl := paired_len hrv
    have r2 := ro.2.1
    walk_at "rd"
    refine ⟨⟨_, sqT hrt⟩, ?_⟩
    have rtf : rt ≠ f := fun z => by rw [z, upd_same] at hrt; cases hrt
    have hrt0 : H rt = some (.tup vs) := by rw [upd_ne rtf] at hrt; exact hrt
    have hrv0 : RowsAt H vs rows := by
      have back : ∀ {a : Addr} {xs : List V}, upd H f (.lst []) a = some (.tup xs) → H a = some (.tup xs) := fun {a xs} h => by
        by_cases z : a = f
        · rw [z, upd_same] at h
          cases h
        · rw [upd_ne z] at h
          exact h
      refine paired_map (fun v r h => ?_) hrv
      cases r with
      | tell w => obtain ⟨p, a, b⟩ := h; exact ⟨p, a, back b⟩
      | look h es ts => obtain ⟨p, q, t, a, b, c, dd⟩ := h; exact ⟨p, q, t, a, back b, back c, back dd⟩
    refine for_it (walk_tup (xs := vs)) (fun i σ H' => Hold (Ex H H' ∧ ∃ (us : List V) (T : List (List Int)) (o4 o5 o6 o7 : Option V), σ = [some (.ref x), some (.int s), some (.int d), some (.ref f), o4, o5, o6, o7] ∧ H' f = some (.lst us) ∧ Paired (fun l v => ∃ u, v = V.ref u ∧ u ≠ f ∧ H u = none ∧ H' u = some (.lst (l.map .int))) T us ∧ T.length = i ∧ (∀ (j : Nat) l r, T[j]? = some l → rows[j]? = some r → ∀ t, t ∈ l ↔ Tg r s d t) ∧ ∀ l ∈ T, l.length ≤ 100))
      (.of ⟨(Ex.refl _).new nf, [], [], _, _, _, _, rfl, upd_same, .nil, rfl, fun j l r h => by simp at h, by simp⟩) (fun i σ H' _ h => sqT (h.out.1 _ _ hrt0)) ?_ ?_
    · rintro i y σ H2 H3 hi hP ⟨rfl, hy⟩
      obtain ⟨e, us, T, o4, o5, o6, o7, rfl, hf, hT, Tl, hTg, hTl⟩ := hP.out
      clear hP
      obtain ⟨row, hrow⟩ : ∃ row, rows[i]? = some row := ⟨_, List.getElem?_eq_getElem (by omega)⟩
      have rv := rowV_ex (paired_get hrv0 hy hrow) e
      have ok := ro.2.2 row (List.mem_of_getElem? hrow)
      have ul := paired_len hT
      -- the end of a turn: a new list D of the targets ws
      have fin : ∀ (H5 : Hp) (D : Addr) (l : List Int) (a4 a5 a6 a7 : Option V), Ex H3 H5 → H3 D = none → H5 D = some (.lst (l.map .int)) → (∀ t, t ∈ l ↔ Tg row s d t) → l.length ≤ 100 →
          Hold (Ex H (upd H5 f (.lst (us ++ [V.ref D]))) ∧ ∃ (us' : List V) (T : List (List Int)) (o4 o5 o6 o7 : Option V), [some (V.ref x), some (.int s), some (.int d), some (.ref f), a4, a5, a6, a7] = [some (.ref x), some (.int s), some (.int d), some (.ref f), o4, o5, o6, o7] ∧ upd H5 f (.lst (us ++ [V.ref D])) f = some (.lst us') ∧ Paired (fun l v => ∃ u, v = V.ref u ∧ u ≠ f ∧ H u = none ∧ upd H5 f (.lst (us ++ [V.ref D])) u = some (.lst (l.map .int))) T us' ∧ T.length = i + 1 ∧ (∀ (j : Nat) l r, T[j]? = some l → rows[j]? = some r → ∀ t, t ∈ l ↔ Tg r s d t) ∧ ∀ l ∈ T, l.length ≤ 100) := by
        intro H5 D l a4 a5 a6 a7 e5 nD hD hl hln
        have Df : D ≠ f := fun z => by rw [z, hf] at nD; cases nD
        refine .of ⟨(e.trans e5).mut nf, us ++ [.ref D], T ++ [l], _, _, _, _, rfl, upd_same, ?_, by simp [Tl], fun j l' r hj hr t => ?_, fun l' hl' => by rw [List.mem_append] at hl'; rcases hl' with h | h; exact hTl l' h; simp at h; rw [h]; exact hln⟩
        · exact paired_app ⟨D, rfl, Df, e.back nD, upd_off hD Df⟩ (paired_map (fun _ _ ⟨u, a, b, n, c⟩ => ⟨u, a, b, n, upd_off (e5 _ _ c) b⟩) hT)
        · by_cases q : j < T.length
          · rw [List.getElem?_append_left q] at hj
            exact hTg j l' r hj hr t
          · rw [List.getElem?_append_right (by omega)] at hj
            have h0 : j - T.length = 0 := by
              rcases Nat.eq_zero_or_pos (j - T.length) with h | h
              · exact h
              · rw [List.getElem?_eq_none_iff.mpr (by simp; omega)] at hj
                cases hj
            rw [h0] at hj
            simp at hj
            subst hj
            have : j = i := by omega
            subst this
            rw [hrow] at hr
            cases hr
            exact hl t
      cases row with
      | tell w0 =>
        obtain ⟨p, rfl, hp⟩ := rv
        walk_at "rd"
        refine ⟨by walk_at "sz", fun p1 n1 => ?_⟩
        walk_at "rd"
        refine ⟨⟨_, sqL upd_same⟩, fun D nD => ?_⟩
        refine lcE (walk_list (xs := ([] : List V))) nD (by walk_at "sz") (fun _ => true) (fun i y _ => False) (fun _ r => r) (fun _ r => r) (fun H e => sqL (e _ _ upd_same)) ?_ ?_
        · intro j y H4 H5 hj
          exact absurd hj (by simp)
        · intro H4 ys e4 hD got
          have yl := paired_len got
          have hz : ys = [] := List.length_eq_zero_iff.mp (by rw [← yl]; rfl)
          subst hz
          walk_at "rd"
          refine ⟨_, _, _, rfl, rfl, e4 _ _ (upd_old hf n1), szlt (by omega), ?_⟩
          exact fin H4 D [] _ _ _ _ (((Ex.refl _).new n1).trans e4) (upd_none nD) hD (fun t => ⟨fun h => by simp at h, fun h => h.elim⟩) (by simp)
      | look h es ts =>
        cases ok with
        | look h1 h2 en l ht =>
          have rv2 := rv
          obtain ⟨p, e1, t1, rfl, hp, _, _⟩ := rv
          walk_at "rd"
          refine ⟨(p, s, d, h, es, ts), rfl, ⟨rv2, h1, h2, en, l⟩, ?_⟩
          rintro v H4 ⟨q, wvs, ws, rfl, nq, e4, hq4, hws, hTg4, wpos, wln⟩
          have wl := paired_len hws
          walk_at "rd"
          refine ⟨⟨_, sqL hq4⟩, fun D nD => ?_⟩
          refine lcE (walk_list (xs := wvs)) nD (by omega) (fun _ => true) (fun i y _ => ∃ c, ws[i]? = some c ∧ y = .int c.2) (fun _ r => r) (fun _ r => r) (fun H e => sqL (e _ _ hq4)) ?_ ?_
          · rintro j y H5 H6 hj e5 ⟨rfl, hy⟩ S Z hS hZ
            obtain ⟨c, hc⟩ : ∃ c, ws[j]? = some c := ⟨_, List.getElem?_eq_getElem (by omega)⟩
            obtain ⟨u, rfl, hu⟩ := paired_get hws hc hy
            have hu5 := e5 _ _ hu
            walk_at "rd"
            exact hS _ _ (Ex.refl _) rfl ⟨c, hc, rfl⟩
          · intro H5 ys e5 hD got
            unfold Got at got
            rw [range_all, ← wl] at got
            have hz := got_list (H := H5) got
            subst hz
            have hD : H5 D = some (.lst ((ws.map Prod.snd).map .int)) := by rw [hD, List.map_map]; rfl
            walk_at "rd"
            refine ⟨_, _, _, rfl, rfl, e5 _ _ (e4 _ _ hf), szlt (by omega), ?_⟩
            have hDe : HO.lst (ws.map fun x => V.int x.2) = .lst ((ws.map Prod.snd).map .int) := by rw [List.map_map]; rfl
            refine fin H5 D (ws.map Prod.snd) _ _ _ _ (e4.trans e5) (e4.back nD) hD (fun t => ?_) (by rw [List.length_map]; omega)
            rw [← hTg4 t, List.mem_map]
            constructor
            · rintro ⟨⟨r, t'⟩, h, rfl⟩
              exact ⟨r, h⟩
            · rintro ⟨r, h⟩
              exact ⟨(r, t), h, rfl⟩
    · intro σ H2 hP
      obtain ⟨e, us, T, o4, o5, o6, o7, rfl, hf, hT, Tl, hTg, hTl⟩ := hP.out
      walk_at "rd"
      exact hq _ _ ⟨f, us, T, rfl, nf, e, hf, paired_map (fun _ _ ⟨u, a, b, n, c⟩ => ⟨u, a, n, c⟩) hT, by rw [Tl, vl], hTg, hTl⟩)
end
end Ff
end
section
set_option maxRecDepth 100000
set_option maxHeartbeats 4000000
/-! reached, lasting. -/
namespace Ff
open PySem PySem.Spec PyProof.Rows L2
local macro_rules | `(tactic| walk_at "ex") => `(tactic| first
  | exact Ex.refl _
  | with_reducible assumption
  | (refine Ex.new ?_ (by with_reducible assumption); walk_at "ex")
  | (refine Ex.mut ?_ (by walk_at "hn"); walk_at "ex")
  | (refine Ex.trans ?_ (by with_reducible assumption); walk_at "ex"))
local macro_rules | `(tactic| walk_at "hn") => `(tactic| first
  | with_reducible assumption
  | exact Ex.back (by with_reducible assumption) (by with_reducible assumption)
  | exact upd_none (by with_reducible assumption)
  | exact upd_none (upd_none (by with_reducible assumption))
  | exact Ex.back (by with_reducible assumption) (upd_none (by with_reducible assumption))
  | exact Ex.back (by with_reducible assumption) (Ex.back (by with_reducible assumption) (by with_reducible assumption)))
local macro_rules | `(tactic| walk_at "hp") => `(tactic| first
  | with_reducible assumption
  | with_reducible exact upd_same
  | (refine Ex.at (by with_reducible assumption) ?_; walk_at "ex")
  | (refine upd_old ?_ (by with_reducible assumption); walk_at "hp")
  | (refine upd_off ?_ (by with_reducible assumption); walk_at "hp"))
local macro_rules | `(tactic| walk_at "sd") => `(tactic| ((try dsimp only [CMul, CDiv, CPow]); first | exact True.intro | omega | (with_reducible assumption)))
local macro_rules | `(tactic| walk_at "sz") => `(tactic| exact Nat.le_of_ble_eq_true rfl)
local macro_rules | `(tactic| walk_at "is") => `(tactic| first
  | refine ⟨_, _, _, _, _, rfl, .ty _, .base (.int _), kt_int, ?_⟩
  | refine ⟨_, _, _, _, _, rfl, .ty _, .base (.int _), kt_intb, ?_⟩
  | refine ⟨_, _, _, _, _, rfl, .ty _, .base (.bl _), kt_bool, ?_⟩
  | refine ⟨_, _, _, _, _, rfl, .ty _, .base (.str _), kt_str, ?_⟩
  | refine ⟨_, _, _, _, _, rfl, .ty _, .base (.tup (by walk_at "hp")), kt_tup, ?_⟩
  | refine ⟨_, _, _, _, _, rfl, .ty _, .base (.dK (by walk_at "hp")), kt_dict, ?_⟩)
local macro_rules | `(tactic| walk_at "rd1") => `(tactic| first
  | refine ⟨_, rfl, ?_⟩
  | refine ⟨_, _, rfl, rfl, And.intro (by walk_at "sd") ?_⟩
  | refine ⟨_, _, rfl, rfl, ?_⟩
  | refine ⟨rfl, ?_⟩
  | refine ⟨_, _, _, _, rfl, rfl, sqT (by walk_at "hp"), rfl, ?_⟩
  | refine ⟨_, _, _, _, rfl, rfl, sqL (by walk_at "hp"), rfl, ?_⟩
  | refine ⟨_, _, rfl, sqT (by walk_at "hp"), rfl, ?_⟩
  | refine ⟨_, _, _, _, _, rfl, by walk_at "hp", by assumption, by assumption, rfl, ?_⟩
  | refine ⟨.inl ⟨rfl, _, sqL (by walk_at "hp")⟩, ?_⟩
  | refine ⟨_, _, rfl, .inl (sqL (by walk_at "hp")), ?_⟩
  | refine ⟨_, _, rfl, .inr (sqT (by walk_at "hp")), ?_⟩
  | refine ⟨(_, _), rfl, ?_⟩
  | refine ⟨(_, _, _), rfl, ?_⟩
  | refine ⟨(_, _, _, _), rfl, ?_⟩
  | refine ⟨_, _, rfl, ?_⟩
  | refine ⟨_, _, _, rfl, ?_⟩
  | walk_at "is")
local macro_rules | `(tactic| walk_at "rd") => `(tactic| repeat walk_at "rd1")

local macro_rules | `(tactic| walk_at "ib") => `(tactic| refine .inr ⟨_, rfl, ?_⟩)
local macro_rules | `(tactic| walk_at "ii") => `(tactic| refine .inl ⟨_, rfl, ?_⟩)
def knV (fl : List Int) : List (Key × V) := fl.map fun t => ((Sum.inl t : Key), V.bl true)
theorem knV_in {fl : List Int} {t : Int} : (valV (knV fl) (Sum.inl t)).isSome = decide (t ∈ fl) := by
  by_cases q : t ∈ fl
  · rw [decide_eq_true q]
    unfold valV
    cases h : (knV fl).find? fun kv => decide (kv.1 = Sum.inl t) with
    | some p => rfl
    | none =>
      have := List.find?_eq_none.mp h (Sum.inl t, V.bl true) (List.mem_map.mpr ⟨t, q, rfl⟩)
      simp at this
  · rw [decide_eq_false q]
    unfold valV
    cases h : (knV fl).find? fun kv => decide (kv.1 = Sum.inl t) with
    | none => rfl
    | some p =>
      have m := List.mem_of_find?_eq_some h
      have e0 := List.find?_some h
      obtain ⟨x, hx, rfl⟩ := List.mem_map.mp m
      simp at e0
      subst e0
      exact absurd hx q
theorem knV_put {fl : List Int} {t : Int} (h : t ∉ fl) : putK (knV fl) (Sum.inl t) (.bl true) = knV (fl ++ [t]) := by
  rw [putK_fresh]
  · unfold knV
    rw [List.map_append]
    rfl
  · intro m
    obtain ⟨p, hp, e⟩ := List.mem_map.mp m
    obtain ⟨x, hx, rfl⟩ := List.mem_map.mp hp
    cases e
    exact h hx
structure RSt (n : Nat) (T : List (List Int)) (fl : List Int) (a : Nat) : Prop where
  nd : fl.Nodup
  rng : ∀ x ∈ fl, 0 ≤ x ∧ x < (n : Int)
  zero : 0 ∈ fl
  re : ∀ x ∈ fl, Reach T x
  le : a ≤ fl.length
  done : ∀ (j : Nat) x l, j < a → fl[j]? = some x → T[x.toNat]? = some l → ∀ t ∈ l, t ∈ fl
theorem RSt.all {n : Nat} {T : List (List Int)} {fl : List Int} (s : RSt n T fl fl.length) : ∀ x, Reach T x → x ∈ fl := by
  intro x h
  induction h with
  | zero => exact s.zero
  | step _ _ hl ht ih =>
    obtain ⟨j, hj, e⟩ := List.getElem_of_mem ih
    exact s.done j _ _ hj (by rw [List.getElem?_eq_getElem hj, e]) hl _ ht
section
variable {P : Program} {w : World} {K : PySem.W.Frag} {mg : PySem.Str → Option Value} {base : Heap} {Z : Adr}
def sp_reached : Sp := mkSp (fun ((p, _) : Addr × List V × List (List Int) × Nat) => [.ref p]) (fun (p, vs, T, n) H => H p = some (.lst vs) ∧ Paired (ListAt H) T vs ∧ TsOk n T)
  (fun (_, _, T, n) H v H2 => ∃ (q : Addr) (l : List Int), v = .ref q ∧ H q = none ∧ Ex H H2 ∧ H2 q = some (.lst (l.map V.int)) ∧ (∀ k, k ∈ l ↔ Reach T k) ∧ (∀ k ∈ l, 0 ≤ k ∧ k < (n : Int)) ∧ l.length ≤ n)
abbrev s_reached : Stmt := top 74
theorem sc_reached : FnScope ["targets", "found", "known", "at", "target"] ["targets"] (C8.fnScope s_reached) := C8.fnScope_by (by decide +kernel)
theorem c_reached (T : Txt P w K mg base Z) : C8.Cal P w K mg base 1 "reached" sp_reached [] :=
  calD (k := 0) T.d_reached sc_reached (fun _ _ _ _ _ _ us h => by obtain ⟨_, rfl⟩ := us1 (by exact h); rfl) (fun _ => rfl) (fun cdv f A outer s H0 H Q E a hr pre hq => by
    have S := sc_reached
    obtain ⟨p, vs, Ts, n⟩ := a
    obtain ⟨hp, hT, tn, n1, n2, rng⟩ := pre
    have vl := paired_len hT
    refine ⟨_, (pss_cons (ps_par3 (i := 1) (j := 2) (l := 3) rfl S.nd rfl rfl rfl (by decide) (by decide) (by decide) rfl rfl rfl (pa_cons (pe_lst (pa_cons pe_int pa_nil)) (pa_cons (pe_disp (pps_cons pe_int pe_bl pps_nil) (by rfl) (by rfl) (fun z => by cases z) (by decide)) (pa_cons pe_int pa_nil))) (by rfl))
  (pss_cons (ps_while PassesOwn.never (pt_cmpR op_lt (pv 3) (pe_callB (lenS (K := K) rfl) (by rfl) T.n_len (by decide +kernel) (pa_cons (pv 1) pa_nil)) (nomark _)) (pss_cons (ps_for PassesOwn.never rfl (piL (K := K) rfl (pe_ix (ixL (K := K) rfl) (pv 0) (pe_ix (ixL (K := K) rfl) (pv 1) (pv 3) (fun _ _ => rfl)) (fun _ _ => rfl))) (pg_name (i := 4) S.nd rfl (Or.inl rfl)) (pss_one (ps_if (pt_cmp (pc_dnotin (hu_of hr) (pv 4) (pv 2))) (pss_cons (ps_dput (hu_of hr) (pv 2) (pv 4) pe_bl rfl)
  (pss_one (ps_expr (pe_bm PySem.F.plainAttrs_list PySem.F.slot_list_append PySem.F.type_list_append mt_append (pv 1) (pa_cons (pv 4) pa_nil))))) pss_nil)))
  (pss_one (ps_aug (i := 3) S.nd rfl (Or.inl rfl) pe_int ip_add))))
  (pss_one (ps_ret (pe_callB (srtI (K := K) rfl) (by rfl) T.n_sorted (by decide +kernel) (pa_cons (pv 1) pa_nil)))))), ?_⟩
    walk_at "rd"
    refine ⟨by walk_at "sz", fun f nf => ?_⟩
    walk_at "rd"
    refine fun k nk => ?_
    walk_at "rd"
    refine ⟨upd_same, [(.inl 0, .bl true)], rfl, by decide, ?_⟩
    walk_at "rd"
    have fk : f ≠ k := fun z => by rw [← z, upd_same] at nk; cases nk
    have kn : H k = none := upd_none nk
    refine ⟨fun m σ H' => ∃ (fl : List Int) (a : Nat) (o : Option V), σ = [some (.ref p), some (.ref f), some (.ref k), some (.int (a : Int)), o] ∧ Ex H H' ∧ H' f = some (.lst (fl.map .int)) ∧ H' k = some (.dK (knV fl)) ∧ RSt n Ts fl a ∧ m = n + 1 - a,
      ⟨_, [0], 0, _, rfl, ((((Ex.refl _).new nf).new nk).mut kn), upd_off (upd_off upd_same fk) fk, upd_same, ⟨by simp, by simp; omega, by simp, fun x h => by simp at h; rw [h]; exact .zero, by simp, fun j x l h => by omega⟩, rfl⟩, ?_⟩
    rintro m σ H1 ⟨fl, a, o, rfl, e1, hf, hk, st, rfl⟩
    have fll := nodup_le n fl st.nd st.rng
    walk_at "rd"
    rw [List.length_map]
    refine iteD (fun z => ?_) (fun z => ?_)
    · have za : a < fl.length := by omega
      obtain ⟨x, hx⟩ : ∃ x, fl[a]? = some x := ⟨_, List.getElem?_eq_getElem za⟩
      have xr := st.rng x (List.mem_of_getElem? hx)
      obtain ⟨l, hl⟩ : ∃ l, Ts[x.toNat]? = some l := ⟨_, List.getElem?_eq_getElem (by omega)⟩
      obtain ⟨v, hv⟩ : ∃ v, vs[x.toNat]? = some v := ⟨_, List.getElem?_eq_getElem (by omega)⟩
      obtain ⟨u, rfl, hu⟩ := paired_get hT hl hv
      have lr := rng l (List.mem_of_getElem? hl)
      have hp1 := e1 _ _ hp
      have hu1 := e1 _ _ hu
      have ax : atI (fl.map V.int) (a : Int) = some (.int x) := atI_nat (by rw [List.getElem?_map, hx]; rfl)
      have av : atI vs x = some (.ref u) := atI_nat' xr.1 hv
      refine ⟨fun σ2 H2 => Hold (∃ (fl : List Int) (o : Option V), σ2 = [some (.ref p), some (.ref f), some (.ref k), some (.int ((a : Int) + 1)), o] ∧ Ex H H2 ∧ H2 f = some (.lst (fl.map .int)) ∧ H2 k = some (.dK (knV fl)) ∧ RSt n Ts fl (a + 1)), ?_, ?_⟩
      · intro σ2 H2 hP
        obtain ⟨fl2, o2, rfl, e2, hf2, hk2, st2⟩ := hP.out
        exact ⟨n + 1 - (a + 1), by omega, fl2, a + 1, o2, rfl, e2, hf2, hk2, st2, rfl⟩
      · walk_at "rd"
        refine ⟨_, _, _, _, rfl, rfl, sqL hf, ax, ?_⟩
        refine ⟨_, _, _, _, rfl, rfl, sqL hp1, av, ?_⟩
        walk_at "rd"
        refine ⟨⟨_, sqL hu1⟩, ?_⟩
        refine for_it (walk_list (xs := l.map V.int)) (fun i σ2 H2 => Hold (∃ (more : List Int) (o : Option V), σ2 = [some (.ref p), some (.ref f), some (.ref k), some (.int (a : Int)), o] ∧ Ex H H2 ∧ H2 f = some (.lst ((fl ++ more).map .int)) ∧ H2 k = some (.dK (knV (fl ++ more))) ∧ (fl ++ more).Nodup ∧ (∀ y ∈ more, y ∈ l) ∧ ∀ y ∈ l.take i, y ∈ fl ++ more))
          (.of ⟨[], _, rfl, e1, by rw [List.append_nil]; exact hf, by rw [List.append_nil]; exact hk, by rw [List.append_nil]; exact st.nd, by simp, by simp⟩) (fun i σ2 H2 _ h => by obtain ⟨_, _, _, e, _⟩ := h.out; exact sqL (e _ _ hu)) ?_ ?_
        · rintro i y σ2 H2 H3 hi hP ⟨rfl, hy⟩
          obtain ⟨more, o2, rfl, e2, hf2, hk2, nd2, ml, tk⟩ := hP.out
          obtain ⟨t, ht, rfl⟩ := map_get hy
          have tl := List.mem_of_getElem? ht
          have fl2 := nodup_le n (fl ++ more) nd2 fun y hy => by
            rw [List.mem_append] at hy
            rcases hy with hy | hy
            · exact st.rng y hy
            · exact lr y (ml y hy)
          walk_at "rd"
          refine ⟨k, _, rfl, .inl ⟨_, Sum.inl t, .inl hk2, rfl, rfl⟩, ?_⟩
          walk_at "rd"
          rw [knV_in]
          by_cases q : t ∈ fl ++ more
          · rw [decide_eq_true q]
            walk_at "rd"
            refine .of ⟨more, _, rfl, e2, hf2, hk2, nd2, ml, fun y hy => ?_⟩
            rw [take_more ht, List.mem_append] at hy
            rcases hy with hy | hy
            · exact tk y hy
            · simp at hy
              rw [hy]
              exact q
          · rw [decide_eq_false q]
            walk_at "rd"
            refine ⟨k, _, rfl, .inl ⟨_, Sum.inl t, hk2, rfl, szlt (by unfold knV; rw [List.length_map]; omega), rfl⟩, ?_⟩
            walk_at "rd"
            refine ⟨_, _, _, rfl, rfl, upd_off hf2 fk, szlt (by rw [List.length_map]; omega), ?_⟩
            refine .of ⟨more ++ [t], _, rfl, (e2.mut kn).mut nf, ?_, ?_, ?_, fun y hy => ?_, fun y hy => ?_⟩
            · rw [upd_same, ← List.append_assoc, List.map_append (l₂ := [t])]
              rfl
            · rw [upd_ne fk.symm, upd_same, knV_put q, List.append_assoc]
            · rw [← List.append_assoc, List.nodup_append]
              exact ⟨nd2, by simp, fun x hx y hy => by simp at hy; subst hy; intro h; subst h; exact q hx⟩
            · rw [List.mem_append] at hy
              rcases hy with hy | hy
              · exact ml y hy
              · simp at hy
                rw [hy]
                exact tl
            · rw [take_more ht, List.mem_append] at hy
              rw [← List.append_assoc, List.mem_append]
              rcases hy with hy | hy
              · exact .inl (tk y hy)
              · exact .inr hy
        · intro σ2 H2 hP
          obtain ⟨more, o2, rfl, e2, hf2, hk2, nd2, ml, tk⟩ := hP.out
          rw [List.length_map, List.take_length] at tk
          walk_at "rd"
          refine .of ⟨fl ++ more, _, rfl, e2, hf2, hk2, nd2, fun y hy => ?_, List.mem_append_left _ st.zero, fun y hy => ?_, by rw [List.length_append]; omega, fun j y l' hj hy hl' t ht => ?_⟩
          · rw [List.mem_append] at hy
            rcases hy with hy | hy
            · exact st.rng y hy
            · exact lr y (ml y hy)
          · rw [List.mem_append] at hy
            rcases hy with hy | hy
            · exact st.re y hy
            · exact .step (st.re x (List.mem_of_getElem? hx)) xr.1 hl (ml y hy)
          · rw [List.getElem?_append_left (by omega)] at hy
            by_cases q : j < a
            · exact List.mem_append_left _ (st.done j y l' q hy hl' t ht)
            · have : j = a := by omega
              subst this
              rw [hx] at hy
              cases hy
              rw [hl] at hl'
              cases hl'
              exact tk t ht
    · walk_at "rd"
      refine ⟨f, fl, rfl, sqL hf, fun ns q perm inc nq => ?_⟩
      have ea : a = fl.length := by have := st.le; omega
      subst ea
      exact hq _ _ ⟨q, ns, rfl, e1.back nq, e1.new nq, upd_same, fun k => perm.mem_iff.trans ⟨st.re k, st.all k⟩, fun k hk => st.rng k (perm.mem_iff.mp hk), by rw [perm.length_eq]; exact fll⟩)
end
end Ff
end
section
set_option maxRecDepth 100000
set_option maxHeartbeats 4000000
/-! lasting, kinds_of. -/
namespace Ff
open PySem PySem.Spec PyProof.Rows L2
local macro_rules | `(tactic| walk_at "ex") => `(tactic| first
  | exact Ex.refl _
  | with_reducible assumption
  | (refine Ex.new ?_ (by with_reducible assumption); walk_at "ex")
  | (refine Ex.mut ?_ (by walk_at "hn"); walk_at "ex")
  | (refine Ex.trans ?_ (by with_reducible assumption); walk_at "ex"))
local macro_rules | `(tactic| walk_at "hn") => `(tactic| first
  | with_reducible assumption
  | exact Ex.back (by with_reducible assumption) (by with_reducible assumption)
  | exact upd_none (by with_reducible assumption)
  | exact upd_none (upd_none (by with_reducible assumption))
  | exact Ex.back (by with_reducible assumption) (upd_none (by with_reducible assumption))
  | exact Ex.back (by with_reducible assumption) (Ex.back (by with_reducible assumption) (by with_reducible assumption)))
local macro_rules | `(tactic| walk_at "hp") => `(tactic| first
  | with_reducible assumption
  | with_reducible exact upd_same
  | (refine Ex.at (by with_reducible assumption) ?_; walk_at "ex")
  | (refine upd_old ?_ (by with_reducible assumption); walk_at "hp")
  | (refine upd_off ?_ (by with_reducible assumption); walk_at "hp"))
local macro_rules | `(tactic| walk_at "sd") => `(tactic| ((try dsimp only [CMul, CDiv, CPow]); first | exact True.intro | omega | (with_reducible assumption)))
local macro_rules | `(tactic| walk_at "sz") => `(tactic| exact Nat.le_of_ble_eq_true rfl)
local macro_rules | `(tactic| walk_at "is") => `(tactic| first
  | refine ⟨_, _, _, _, _, rfl, .ty _, .base (.int _), kt_int, ?_⟩
  | refine ⟨_, _, _, _, _, rfl, .ty _, .base (.int _), kt_intb, ?_⟩
  | refine ⟨_, _, _, _, _, rfl, .ty _, .base (.bl _), kt_bool, ?_⟩
  | refine ⟨_, _, _, _, _, rfl, .ty _, .base (.str _), kt_str, ?_⟩
  | refine ⟨_, _, _, _, _, rfl, .ty _, .base (.tup (by walk_at "hp")), kt_tup, ?_⟩
  | refine ⟨_, _, _, _, _, rfl, .ty _, .base (.dK (by walk_at "hp")), kt_dict, ?_⟩)
local macro_rules | `(tactic| walk_at "rd1") => `(tactic| first
  | refine ⟨_, rfl, ?_⟩
  | refine ⟨_, _, rfl, rfl, And.intro (by walk_at "sd") ?_⟩
  | refine ⟨_, _, rfl, rfl, ?_⟩
  | refine ⟨rfl, ?_⟩
  | refine ⟨_, _, _, _, rfl, rfl, sqT (by walk_at "hp"), rfl, ?_⟩
  | refine ⟨_, _, _, _, rfl, rfl, sqL (by walk_at "hp"), rfl, ?_⟩
  | refine ⟨_, _, rfl, sqT (by walk_at "hp"), rfl, ?_⟩
  | refine ⟨_, _, _, _, _, rfl, by walk_at "hp", by assumption, by assumption, rfl, ?_⟩
  | refine ⟨.inl ⟨rfl, _, sqL (by walk_at "hp")⟩, ?_⟩
  | refine ⟨_, _, rfl, .inl (sqL (by walk_at "hp")), ?_⟩
  | refine ⟨_, _, rfl, .inr (sqT (by walk_at "hp")), ?_⟩
  | refine ⟨(_, _), rfl, ?_⟩
  | refine ⟨(_, _, _), rfl, ?_⟩
  | refine ⟨(_, _, _, _), rfl, ?_⟩
  | refine ⟨_, _, rfl, ?_⟩
  | refine ⟨_, _, _, rfl, ?_⟩
  | walk_at "is")
local macro_rules | `(tactic| walk_at "rd") => `(tactic| repeat walk_at "rd1")

local macro_rules | `(tactic| walk_at "ib") => `(tactic| refine .inr ⟨_, rfl, ?_⟩)
local macro_rules | `(tactic| walk_at "ii") => `(tactic| refine .inl ⟨_, rfl, ?_⟩)
def condL (T : List (List Int)) (l : List Int) (k : Int) : Bool := ((T[k.toNat]?).getD []).any fun t => decide (t ∈ l)
/-- closed within these rows: each of its rows leads to one of it -/
def Closed (T : List (List Int)) (rs : List Int) (S : Int → Prop) : Prop := ∀ k, S k → k ∈ rs ∧ ∃ l t, T[k.toNat]? = some l ∧ t ∈ l ∧ S t
structure LSt (T : List (List Int)) (rs l : List Int) (many : Int) : Prop where
  sub : ∀ k ∈ l, k ∈ rs
  big : ∀ S, Closed T rs S → ∀ k, S k → k ∈ l
  last : many = -1 ∨ ∃ l0 : List Int, many = l0.length ∧ l = l0.filter (condL T l0)
theorem LSt.step {T : List (List Int)} {rs l : List Int} {many : Int} (s : LSt T rs l many) : LSt T rs (l.filter (condL T l)) l.length := by
  refine ⟨fun k hk => s.sub k (List.mem_filter.mp hk).1, fun S hS k hk => ?_, .inr ⟨l, rfl, rfl⟩⟩
  rw [List.mem_filter]
  refine ⟨s.big S hS k hk, ?_⟩
  obtain ⟨_, tl, t, h1, h2, h3⟩ := hS k hk
  unfold condL
  rw [h1, List.any_eq_true]
  exact ⟨t, h2, decide_eq_true (s.big S hS t h3)⟩
theorem LSt.done {T : List (List Int)} {rs l : List Int} (s : LSt T rs l l.length) : ∀ k ∈ l, ∃ tl t, T[k.toNat]? = some tl ∧ t ∈ tl ∧ t ∈ l := by
  rcases s.last with h | ⟨l0, h1, h2⟩
  · omega
  · have e : l = l0 := by
      rw [h2]
      exact List.filter_eq_self.mpr (List.length_filter_eq_length_iff.mp (by rw [← h2]; omega))
    intro k hk
    have hk2 := hk
    rw [h2, List.mem_filter] at hk2
    have c := hk2.2
    unfold condL at c
    rw [List.any_eq_true] at c
    obtain ⟨t, ht, hd⟩ := c
    cases q : T[k.toNat]? with
    | none => rw [q] at ht; simp at ht
    | some tl =>
      rw [q] at ht
      exact ⟨tl, t, rfl, ht, by rw [e]; exact of_decide_eq_true hd⟩
theorem got_filter {l : List Int} {c : Int → Bool} {ys : List V} (p : Paired (fun i y => ∃ x, l[i]? = some x ∧ c x = true ∧ y = .int x) ((List.range l.length).filter fun i => ((l[i]?).map c).getD false) ys) : ys = (l.filter c).map .int := by
  have e : (fun (i : Nat) => ((l[i]?).map c).getD false) = (fun (i : Nat) => ((l[i]?).bind fun x => if c x = true then some x else none).isSome) := by
    funext i
    cases l[i]? with
    | none => rfl
    | some x =>
      show c x = (if c x = true then some x else none).isSome
      cases c x <;> rfl
  rw [e] at p
  have := got_filterMap (l := l) (g := fun x => if c x = true then some x else none) (h := V.int) l.length ys (Nat.le_refl _) (paired_map (fun i y ⟨x, a, b, d⟩ => ⟨x, x, a, by rw [if_pos b], d⟩) p)
  rw [this, List.take_length]
  congr 1
  clear p this e
  induction l with
  | nil => rfl
  | cons x l ih =>
    by_cases q : c x = true
    · simp [q, ih]
    · simp [q, ih]
section
variable {P : Program} {w : World} {K : PySem.W.Frag} {mg : PySem.Str → Option Value} {base : Heap} {Z : Adr}
def sp_lasting : Sp := mkSp (fun ((p, r, _) : Addr × Addr × List V × List (List Int) × List Int × Nat) => [.ref p, .ref r]) (fun (p, r, vs, T, rs, n) H => H p = some (.lst vs) ∧ Paired (ListAt H) T vs ∧ TsOk n T ∧ H r = some (.lst (rs.map .int)) ∧ (∀ k ∈ rs, 0 ≤ k ∧ k < (n : Int)) ∧ rs.length ≤ n ∧ ∀ l ∈ T, l.length ≤ 100)
  (fun (_, _, _, T, rs, _) H v H2 => ∃ (q : Addr) (l : List Int), v = .ref q ∧ H q = none ∧ Ex H H2 ∧ H2 q = some (.lst (l.map V.int)) ∧ (∀ k ∈ l, k ∈ rs) ∧ (∀ S, Closed T rs S → ∀ k, S k → k ∈ l) ∧ (∀ k ∈ l, ∃ tl t, T[k.toNat]? = some tl ∧ t ∈ tl ∧ t ∈ l) ∧ l.length ≤ rs.length)
abbrev s_lasting : Stmt := top 75
theorem sc_lasting : FnScope ["targets", "rows", "left", "many", "row", "target"] ["targets", "rows"] (C8.fnScope s_lasting) := C8.fnScope_by (by decide +kernel)
theorem c_lasting (T : Txt P w K mg base Z) : C8.Cal P w K mg base 1 "lasting" sp_lasting [] :=
  calD (k := 0) T.d_lasting sc_lasting (fun _ _ _ _ _ _ us h => by obtain ⟨_, _, rfl⟩ := us2 (by exact h); rfl) (fun _ => rfl) (fun cdv f A outer s H0 H Q E a hr pre hq => by
    have S := sc_lasting
    obtain ⟨p, r, vs, Ts, rs, n⟩ := a
    obtain ⟨hp, hT, ⟨tn, n1, n2, rng⟩, hr0, rr, rl, ll⟩ := pre
    have vl := paired_len hT
    refine ⟨_, (pss_cons (ps_asg (pe_tup (pa_cons (pe_callTy (lstO (K := K) rfl) (by rfl) T.n_list (by decide +kernel) (pa_cons (pv 1) pa_nil)) (pa_cons (pe_un un_neg pe_int) pa_nil))) (pgT (K := K) (n := 2) rfl (by rfl) (pgs_cons (pg_name (i := 2) S.nd rfl (Or.inr rfl)) (pgs_cons (pg_name (i := 3) S.nd rfl (Or.inl rfl)) pgs_nil))))
  (pss_cons (ps_while PassesOwn.never (pt_cmpR op_ne (pe_callB (lenS (K := K) rfl) (by rfl) T.n_len (by decide +kernel) (pa_cons (pv 2) pa_nil)) (pv 3) (nomark _)) (pss_cons (ps_set (i := 3) S.nd rfl (Or.inl rfl) (pe_callB (lenS (K := K) rfl) (by rfl) T.n_len (by decide +kernel) (pa_cons (pv 2) pa_nil)))
  (pss_one (ps_set (i := 2) S.nd rfl (Or.inr rfl) (pe_lc (own := [("row", 4)]) rfl S.nd (piL (K := K) rfl (pv 2)) (blkOk_by (by kernel_rfl)) (fun _ _ _ _ _ => (pg_name (i := 4) S.nd rfl (by first | exact Or.inl rfl | exact Or.inr rfl))) (fun _ _ _ _ _ => (pts_one (pt_val (pe_callB (crAny (K := K) rfl rfl) (by rfl) T.n_any (by decide +kernel) (pa_cons (pe_lc (own := [("target", 5)]) rfl S.nd (piL (K := K) rfl (pe_ix (ixL (K := K) rfl) (pv 0) (pv 4) (fun _ _ => rfl))) (blkOk_by (by kernel_rfl)) (fun _ _ _ _ _ => (pg_name (i := 5) S.nd rfl (by first | exact Or.inl rfl | exact Or.inr rfl))) (fun _ _ _ _ _ => pts_nil) (fun _ _ _ _ _ => (pe_cmpR (inS (K := K) rfl) (pv 5) (pv 2) (by rfl)))) pa_nil))))) (fun _ _ _ _ _ => (pv 4)))))))
  (pss_one (ps_ret (pv 2))))), ?_⟩
    walk_at "rd"
    refine fun l0 nl0 => ?_
    walk_at "rd"
    refine ⟨by walk_at "sz", fun t0 nt0 => ?_⟩
    walk_at "rd"
    refine ⟨fun m σ H' => ∃ (lp : Addr) (l : List Int) (many : Int) (o4 o5 : Option V), σ = [some (.ref p), some (.ref r), some (.ref lp), some (.int many), o4, o5] ∧ Ex H H' ∧ H lp = none ∧ H' lp = some (.lst (l.map .int)) ∧ LSt Ts rs l many ∧ l.length ≤ rs.length ∧ m = if (l.length : Int) = many then 0 else l.length + 1,
      ⟨_, l0, rs, -1, _, _, rfl, ((Ex.refl _).new nl0).new nt0, nl0, upd_old upd_same nt0, ⟨fun k h => h, fun S hS k hk => (hS k hk).1, .inl rfl⟩, Nat.le_refl _, rfl⟩, ?_⟩
    rintro m σ H1 ⟨lp, l, many, o4, o5, rfl, e1, nlp, hl, st, len, rfl⟩
    walk_at "rd"
    rw [List.length_map, dInt]
    by_cases z : (l.length : Int) = many
    · rw [decide_eq_true z]
      walk_at "rd"
      subst z
      exact hq _ _ ⟨lp, l, rfl, nlp, e1, hl, st.sub, st.big, st.done, len⟩
    · rw [decide_eq_false z, if_neg z]
      refine ⟨fun σ2 H2 => Hold (∃ (lp : Addr) (l2 : List Int) (many : Int) (o4 o5 : Option V), σ2 = [some (.ref p), some (.ref r), some (.ref lp), some (.int many), o4, o5] ∧ Ex H H2 ∧ H lp = none ∧ H2 lp = some (.lst (l2.map .int)) ∧ LSt Ts rs l2 many ∧ l2.length ≤ l.length ∧ many = l.length), ?_, ?_⟩
      · intro σ2 H2 hP
        obtain ⟨lp2, l2, many2, a4, a5, rfl, e2, nlp2, hl2, st2, len2, hm⟩ := hP.out
        refine ⟨if (l2.length : Int) = many2 then 0 else l2.length + 1, ?_, lp2, l2, many2, a4, a5, rfl, e2, nlp2, hl2, st2, by omega, rfl⟩
        split <;> omega
      · walk_at "rd"
        refine ⟨⟨_, sqL hl⟩, fun D nD => ?_⟩
        refine lcE (walk_list (xs := l.map V.int)) nD (by rw [List.length_map]; omega) (fun i => ((l[i]?).map (condL Ts l)).getD false) (fun i y _ => ∃ x, l[i]? = some x ∧ condL Ts l x = true ∧ y = .int x) (fun _ r => r) (fun _ r => r) (fun H e => sqL (e _ _ hl)) ?_ ?_
        · rintro i y H4 H5 hi e4 ⟨rfl, hy⟩ S Z hS hZ
          obtain ⟨x, hx, rfl⟩ := map_get hy
          have xr := rr x (st.sub x (List.mem_of_getElem? hx))
          obtain ⟨tl, htl⟩ : ∃ tl, Ts[x.toNat]? = some tl := ⟨_, List.getElem?_eq_getElem (by omega)⟩
          obtain ⟨v, hv⟩ : ∃ v, vs[x.toNat]? = some v := ⟨_, List.getElem?_eq_getElem (by omega)⟩
          obtain ⟨u, rfl, hu⟩ := paired_get hT htl hv
          have hp4 := e4 _ _ (e1 _ _ hp)
          have hu4 := e4 _ _ (e1 _ _ hu)
          have hl4 := e4 _ _ hl
          have ll2 := ll tl (List.mem_of_getElem? htl)
          refine ⟨rfl, ?_⟩
          walk_at "rd"
          refine ⟨_, _, _, _, rfl, rfl, sqL hp4, atI_nat' xr.1 hv, ?_⟩
          walk_at "rd"
          refine ⟨⟨_, sqL hu4⟩, fun D2 nD2 => ?_⟩
          refine lcE (walk_list (xs := tl.map V.int)) nD2 (by rw [List.length_map]; omega) (fun _ => true) (fun i y _ => ∃ t, tl[i]? = some t ∧ y = .bl (decide (t ∈ l))) (fun _ r => r) (fun _ r => r) (fun H e => sqL (e _ _ hu4)) ?_ ?_
          · rintro j y H6 H7 hj e6 ⟨rfl, hy⟩ S Z hS hZ
            obtain ⟨t, ht, rfl⟩ := map_get hy
            have hl6 := e6 _ _ hl4
            refine ⟨rfl, ?_⟩
            walk_at "rd"
            refine ⟨flat_ints, ?_⟩
            rw [inV_int]
            exact hS _ _ (Ex.refl _) rfl ⟨t, ht, rfl⟩
          · intro H6 ys e6 hD2 got
            unfold Got at got
            rw [range_all, List.length_map] at got
            have hz := got_list (H := H6) got
            subst hz
            walk_at "rd"
            refine ⟨_, tl.map fun t => decide (t ∈ l), rfl, sqL (by rw [hD2, List.map_map]; rfl), ?_⟩
            have cl : condL Ts l x = (tl.map fun t => decide (t ∈ l)).any id := by
              unfold condL
              rw [htl, List.any_map]
              rfl
            rw [← cl]
            cases q : condL Ts l x with
            | true =>
              walk_at "rd"
              exact hS _ _ e6 (by rw [hx]; exact q) ⟨x, hx, q, rfl⟩
            | false =>
              walk_at "rd"
              exact hZ _ e6 (by rw [hx]; exact q)
        · intro H4 ys e4 hD got
          unfold Got at got
          rw [List.length_map] at got
          have hz := got_filter got
          subst hz
          walk_at "rd"
          exact .of ⟨D, l.filter (condL Ts l), _, _, _, rfl, e1.trans e4, e1.back nD, hD, by rw [List.length_map]; exact st.step, List.length_filter_le _ _, by rw [List.length_map]⟩)
end
end Ff
end
section
set_option maxRecDepth 100000
set_option maxHeartbeats 4000000
/-! kinds_of. -/
namespace Ff
open PySem PySem.Spec PyProof.Rows L2
local macro_rules | `(tactic| walk_at "ex") => `(tactic| first
  | exact Ex.refl _
  | with_reducible assumption
  | (refine Ex.new ?_ (by with_reducible assumption); walk_at "ex")
  | (refine Ex.mut ?_ (by walk_at "hn"); walk_at "ex")
  | (refine Ex.trans ?_ (by with_reducible assumption); walk_at "ex"))
local macro_rules | `(tactic| walk_at "hn") => `(tactic| first
  | with_reducible assumption
  | exact Ex.back (by with_reducible assumption) (by with_reducible assumption)
  | exact upd_none (by with_reducible assumption)
  | exact upd_none (upd_none (by with_reducible assumption))
  | exact Ex.back (by with_reducible assumption) (upd_none (by with_reducible assumption))
  | exact Ex.back (by with_reducible assumption) (Ex.back (by with_reducible assumption) (by with_reducible assumption)))
local macro_rules | `(tactic| walk_at "hp") => `(tactic| first
  | with_reducible assumption
  | with_reducible exact upd_same
  | (refine Ex.at (by with_reducible assumption) ?_; walk_at "ex")
  | (refine upd_old ?_ (by with_reducible assumption); walk_at "hp")
  | (refine upd_off ?_ (by with_reducible assumption); walk_at "hp"))
local macro_rules | `(tactic| walk_at "sd") => `(tactic| ((try dsimp only [CMul, CDiv, CPow]); first | exact True.intro | omega | (with_reducible assumption)))
local macro_rules | `(tactic| walk_at "sz") => `(tactic| exact Nat.le_of_ble_eq_true rfl)
local macro_rules | `(tactic| walk_at "is") => `(tactic| first
  | refine ⟨_, _, _, _, _, rfl, .ty _, .base (.int _), kt_int, ?_⟩
  | refine ⟨_, _, _, _, _, rfl, .ty _, .base (.int _), kt_intb, ?_⟩
  | refine ⟨_, _, _, _, _, rfl, .ty _, .base (.bl _), kt_bool, ?_⟩
  | refine ⟨_, _, _, _, _, rfl, .ty _, .base (.str _), kt_str, ?_⟩
  | refine ⟨_, _, _, _, _, rfl, .ty _, .base (.tup (by walk_at "hp")), kt_tup, ?_⟩
  | refine ⟨_, _, _, _, _, rfl, .ty _, .base (.dK (by walk_at "hp")), kt_dict, ?_⟩)
local macro_rules | `(tactic| walk_at "rd1") => `(tactic| first
  | refine ⟨_, rfl, ?_⟩
  | refine ⟨_, _, rfl, rfl, And.intro (by walk_at "sd") ?_⟩
  | refine ⟨_, _, rfl, rfl, ?_⟩
  | refine ⟨rfl, ?_⟩
  | refine ⟨_, _, _, _, rfl, rfl, sqT (by walk_at "hp"), rfl, ?_⟩
  | refine ⟨_, _, _, _, rfl, rfl, sqL (by walk_at "hp"), rfl, ?_⟩
  | refine ⟨_, _, rfl, sqT (by walk_at "hp"), rfl, ?_⟩
  | refine ⟨_, _, _, _, _, rfl, by walk_at "hp", by assumption, by assumption, rfl, ?_⟩
  | refine ⟨.inl ⟨rfl, _, sqL (by walk_at "hp")⟩, ?_⟩
  | refine ⟨_, _, rfl, .inl (sqL (by walk_at "hp")), ?_⟩
  | refine ⟨_, _, rfl, .inr (sqT (by walk_at "hp")), ?_⟩
  | refine ⟨(_, _), rfl, ?_⟩
  | refine ⟨(_, _, _), rfl, ?_⟩
  | refine ⟨(_, _, _, _), rfl, ?_⟩
  | refine ⟨_, _, rfl, ?_⟩
  | refine ⟨_, _, _, rfl, ?_⟩
  | walk_at "is")
local macro_rules | `(tactic| walk_at "rd") => `(tactic| repeat walk_at "rd1")

local macro_rules | `(tactic| walk_at "ib") => `(tactic| refine .inr ⟨_, rfl, ?_⟩)
local macro_rules | `(tactic| walk_at "ii") => `(tactic| refine .inl ⟨_, rfl, ?_⟩)
theorem valV_app {κ : Type} [DecidableEq κ] {kvs : List (κ × V)} {k k' : κ} {v : V} (h : valV kvs k = none) : valV (kvs ++ [(k, v)]) k' = if k' = k then some v else valV kvs k' := by
  unfold valV at h ⊢
  rw [List.find?_append]
  by_cases q : k' = k
  · subst q
    have : (kvs.find? fun kv => decide (kv.1 = k')) = none := by
      cases e : kvs.find? fun kv => decide (kv.1 = k') with
      | none => rfl
      | some p => rw [e] at h; cases h
    rw [this, if_pos rfl]
    simp
  · rw [if_neg q]
    cases e : kvs.find? fun kv => decide (kv.1 = k') with
    | some p => rfl
    | none =>
      have q2 : ¬ k = k' := fun e => q e.symm
      simp [q2]
theorem valV_none_keys {κ : Type} [DecidableEq κ] {kvs : List (κ × V)} {k : κ} (h : valV kvs k = none) : k ∉ kvs.map Prod.fst := by
  intro m
  obtain ⟨p, hp, e⟩ := List.mem_map.mp m
  unfold valV at h
  cases q : kvs.find? fun kv => decide (kv.1 = k) with
  | some p => rw [q] at h; cases h
  | none =>
    have := List.find?_eq_none.mp q p hp
    simp at this
    exact this e
def keyS (hs : List Int) (s : Int) : List Key := (hs.map fun h => fold h s).map Sum.inl
/-- what a program can be led to at a spot, as lists -/
def TgV (f : Addr) (H : Hp) (v : V) (rows : List Row) (s d : Int) : Prop := ∃ p vs T, v = .ref p ∧ p ≠ f ∧ H p = some (.lst vs) ∧ Paired (fun l v => ∃ u, v = V.ref u ∧ u ≠ f ∧ H u = some (.lst (l.map .int))) T vs ∧ TOk rows s d T
theorem TgV.ex {f : Addr} {H H' : Hp} {v : V} {rows : List Row} {s d : Int} (h : TgV f H v rows s d) (e : ∀ a xs, a ≠ f → H a = some (.lst xs) → H' a = some (.lst xs)) : TgV f H' v rows s d := by
  obtain ⟨p, vs, T, h1, h2, h3, h4, h5⟩ := h
  exact ⟨p, vs, T, h1, h2, e _ _ h2 h3, paired_map (fun _ _ ⟨u, a, b, c⟩ => ⟨u, a, b, e _ _ b c⟩) h4, h5⟩
theorem Tg_same {r : Row} {s s' d t : Int} (h : ∀ k es ts, r = .look k es ts → fold k s = fold k s') : Tg r s d t ↔ Tg r s' d t := by
  cases r with
  | tell w => exact Iff.rfl
  | look k es ts =>
    show (∃ x, 0 ≤ x ∧ x ≤ 2 * k ∧ fold k s - 2 * d ≤ x ∧ x ≤ fold k s + 2 * d ∧ ts[(cellS es x).toNat]? = some t) ↔ _
    rw [h k es ts rfl]
    exact Iff.rfl
theorem TOk_same {rows : List Row} {hs : List Int} {s s' d : Int} {T : List (List Int)} (hh : HalvesOk rows hs) (e : keyS hs s = keyS hs s') (h : TOk rows s' d T) : TOk rows s d T := by
  refine ⟨h.1, fun i l r hl hr t => (h.2.1 i l r hl hr t).trans ?_, h.2.2⟩
  refine Tg_same fun k es ts hk => ?_
  have m := (hh.mem k).mpr ⟨es, ts, by rw [← hk]; exact List.mem_of_getElem? hr⟩
  have e2 := inl_inj e
  obtain ⟨i, hi, ei⟩ := List.getElem_of_mem m
  have g := congrArg (fun l => l[i]?) e2
  simp only [List.getElem?_map, List.getElem?_eq_getElem hi, ei] at g
  exact (Option.some.inj g).symm
section
variable {P : Program} {w : World} {K : PySem.W.Frag} {mg : PySem.Str → Option Value} {base : Heap} {Z : Adr}
def sp_kinds_of (Z : Adr) : Sp := mkSp (fun ((x, d, L, _) : Addr × Int × Int × List Row × List Int) => [.ref x, .int d, .int L]) (fun (x, d, L, rows, hs) H => ProgAt Z H x rows hs ∧ 0 ≤ L ∧ L ≤ 5040)
  (fun (_, d, L, rows, _) H v H' => ∃ q vs, v = .ref q ∧ H q = none ∧ Ex H H' ∧ H' q = some (.lst vs) ∧ Paired (fun (s : Nat) v => TgV q H' v rows s d) (List.range (2 * L + 1).toNat) vs)
abbrev s_kinds_of : Stmt := top 76
theorem sc_kinds_of : FnScope ["program", "doubt", "half", "known", "found", "halves", "spot", "sign", "one"] ["program", "doubt", "half"] (C8.fnScope s_kinds_of) := C8.fnScope_by (by decide +kernel)
theorem c_kinds_of (T : Txt P w K mg base Z) : C8.Cal P w K mg base 4 "kinds_of" (sp_kinds_of Z) [] :=
  calD (k := 3) T.d_kinds_of sc_kinds_of (fun _ _ _ _ _ _ us h => by obtain ⟨_, _, _, rfl⟩ := us3 (by exact h); rfl) (fun _ => rfl) (fun cdv f A outer s H0 H Q E a hr pre hq => by
    have S := sc_kinds_of
    obtain ⟨x, d, L, rows, hs⟩ := a
    obtain ⟨hx, L0, L1⟩ := pre
    obtain ⟨dx, tt, ee, vs0, i1, ht, hv0, he, hh, ro⟩ := id hx
    refine ⟨_, (pss_cons (ps_par (i := 3) (j := 4) rfl S.nd rfl rfl (by decide) rfl rfl (pa_cons pe_dnewT (pa_cons (pe_lst pa_nil) pa_nil)) (by rfl))
  (pss_cons (ps_set (i := 5) S.nd rfl (Or.inl rfl) (pe_pr (c_Program_halves T) hr (by decide) (pv 0)))
  (pss_cons (ps_for PassesOwn.never rfl (pi_range1 (by rfl) T.n_range (pa_cons (pe_op op_add (pe_op op_mul pe_int (pv 2)) pe_int) pa_nil)) (pg_name (i := 6) S.nd rfl (Or.inr rfl)) (pss_cons (ps_set (i := 7) S.nd rfl (Or.inl rfl) (pe_callTy (tupO (K := K) rfl) (by rfl) T.n_tuple (by decide +kernel) (pa_cons (pe_lc (own := [("one", 8)]) rfl S.nd (piT (K := K) rfl (pv 5)) (blkOk_by (by kernel_rfl)) (fun _ _ _ _ _ => (pg_name (i := 8) S.nd rfl (by first | exact Or.inl rfl | exact Or.inr rfl))) (fun _ _ _ _ _ => pts_nil) (fun _ _ _ _ _ => (C8.pe_c (c_folded_spot T) hr (by decide) rfl (pa_cons (pv 8) (pa_cons (pv 6) pa_nil))))) pa_nil)))
  (C8.pss_cut (ps_if (pt_cmp (pc_dnotin (hu_of hr) (pv 7) (pv 3))) (pss_one (ps_dput (hu_of hr) (pv 3) (pv 7) (C8.pe_c (c_targets_at T) hr (by decide) rfl (pa_cons (pv 0) (pa_cons (pv 6) (pa_cons (pv 1) pa_nil)))) rfl)) pss_nil)
  (pss_one (ps_expr (pe_bm PySem.F.plainAttrs_list PySem.F.slot_list_append PySem.F.type_list_append mt_append (pv 4) (pa_cons (pe_dget (hu_of hr) (pv 3) (pv 7) (fun _ _ => rfl)) pa_nil)))))))
  (pss_one (ps_ret (pv 4)))))), ?_⟩
    walk_at "rd"
    refine fun kd nk => ?_
    walk_at "rd"
    refine ⟨by walk_at "sz", fun f nf => ?_⟩
    walk_at "rd"
    have kf : kd ≠ f := fun z => by rw [← z, upd_same] at nf; cases nf
    have hnf : H f = none := upd_none nf
    have e0 : Ex H (upd (upd H kd (.dT [])) f (.lst [])) := ((Ex.refl _).new nk).new nf
    refine ⟨_, _, _, rfl, e0 _ _ i1, (x, rows, hs), rfl, hx.ex e0, ?_⟩
    rintro v H' ⟨eh, rfl, rfl, he0⟩
    have hehs : H eh = some (.tup (hs.map .int)) := by
      have n1 : eh ≠ f := fun z => by
        rw [z, upd_same] at he0
        cases he0
      rw [upd_ne n1] at he0
      have n2 : eh ≠ kd := fun z => by
        rw [z, upd_same] at he0
        cases he0
      rw [upd_ne n2] at he0
      exact he0
    walk_at "rd"
    refine ⟨by omega, by omega, ?_⟩
    refine for_it (walk_r0 (n := (2 * L + 1).toNat)) (fun i σ H' => Hold (Ex H H' ∧ ∃ (kvs : List (List Key × V)) (ys : List V) (o6 o7 o8 : Option V), σ = [some (.ref x), some (.int d), some (.int L), some (.ref kd), some (.ref f), some (.ref eh), o6, o7, o8] ∧ H' kd = some (.dT kvs) ∧ H' f = some (.lst ys) ∧ kvs.length ≤ i ∧ (∀ k v, valV kvs k = some v → ∃ s', k = keyS hs s' ∧ TgV f H' v rows s' d) ∧ Paired (fun (s : Nat) v => TgV f H' v rows s d) (List.range i) ys))
      (.of ⟨e0, [], [], _, _, _, rfl, upd_off upd_same kf, upd_same, Nat.le_refl _, fun k v h => by simp [valV] at h, .nil⟩) (fun _ _ _ _ _ => trivial) ?_ ?_
    · rintro i y σ H2 H3 hi hP ⟨rfl, rfl⟩
      obtain ⟨e, kvs, ys, o6, o7, o8, rfl, hkd, hf, kl, hkv, hys⟩ := hP.out
      clear hP
      have yl := paired_len hys
      rw [List.length_range] at yl
      have he2 := e _ _ hehs
      have hln := hh.ln
      walk_at "rd"
      refine ⟨⟨_, sqT he2⟩, fun D nD => ?_⟩
      refine lcE (walk_tup (xs := hs.map V.int)) nD (by rw [List.length_map]; omega) (fun _ => true) (fun j y _ => ∃ h, hs[j]? = some h ∧ y = .int (fold h i)) (fun _ r => r) (fun _ r => r) (fun H e => sqT (e _ _ he2)) ?_ ?_
      · rintro j y H4 H5 hj e4 ⟨rfl, hy⟩ S Z hS hZ
        obtain ⟨h, hh1, rfl⟩ := map_get hy
        have hb := hh.bounds ro h (List.mem_of_getElem? hh1)
        refine ⟨rfl, ?_⟩
        walk_at "rd"
        refine ⟨⟨hb.1, by omega⟩, ?_⟩
        rintro v H6 ⟨rfl, e6⟩
        exact hS _ _ e6 rfl ⟨h, hh1, rfl⟩
      · intro H4 zs e4 hD got
        unfold Got at got
        rw [range_all, List.length_map] at got
        have hz := got_list (H := H4) got
        subst hz
        walk_at "rd"
        refine ⟨_, _, rfl, .inl ⟨sqL hD, fun sg nsg => ?_⟩⟩
        have sgv : HO.tup (hs.map fun h => V.int (fold h i)) = .tup ((keyS hs i).map kV) := by
          unfold keyS
          rw [key_ints, List.map_map]
          rfl
        rw [sgv]
        have e5 : Ex H3 (upd H4 sg (.tup ((keyS hs i).map kV))) := e4.new nsg
        obtain ⟨H5, hH5⟩ : ∃ H5, upd H4 sg (.tup ((keyS hs i).map kV)) = H5 := ⟨_, rfl⟩
        have hsg : H5 sg = some (.tup ((keyS hs i).map kV)) := by rw [← hH5]; exact upd_same
        rw [hH5] at e5 ⊢
        have hkd5 := e5 _ _ hkd
        have hf5 := e5 _ _ hf
        walk_at "rd"
        refine ⟨fun σ6 H6 => Hold (∃ (kvs : List (List Key × V)) (v : V) (o8 : Option V), σ6 = [some (.ref x), some (.int d), some (.int L), some (.ref kd), some (.ref f), some (.ref eh), some (.int i), some (.ref sg), o8] ∧ Ex H H6 ∧ H6 sg = some (.tup ((keyS hs i).map kV)) ∧ H6 kd = some (.dT kvs) ∧ H6 f = some (.lst ys) ∧ kvs.length ≤ i + 1 ∧ (∀ k v, valV kvs k = some v → ∃ s', k = keyS hs s' ∧ TgV f H6 v rows s' d) ∧ Paired (fun (s : Nat) v => TgV f H6 v rows s d) (List.range i) ys ∧ valV kvs (keyS hs i) = some v), ?_, ?_⟩
        · walk_at "rd"
          refine ⟨kd, _, rfl, .inr ⟨_, keyS hs i, sg, .inl hkd5, rfl, hsg, rfl⟩, ?_⟩
          walk_at "rd"
          have hkv5 : ∀ k v, valV kvs k = some v → ∃ s', k = keyS hs s' ∧ TgV f H5 v rows s' d := fun k v h => by
            obtain ⟨s', a, b⟩ := hkv k v h
            exact ⟨s', a, b.ex fun a xs _ h => e5 _ _ h⟩
          have hys5 := paired_map (fun _ _ (q : TgV f H3 _ rows _ d) => q.ex (H' := H5) fun a xs _ h => e5 _ _ h) hys
          cases q : valV kvs (keyS hs i) with
          | some v =>
            walk_at "rd"
            exact .of ⟨kvs, v, _, rfl, e.trans e5, hsg, hkd5, hf5, by omega, hkv5, hys5, q⟩
          | none =>
            walk_at "rd"
            refine ⟨(x, (i : Int), d, rows, hs), rfl, hx.ex (e.trans e5), ?_⟩
            rintro v H6 ⟨q6, vs6, T6, rfl, nq6, e6, hq6, hT6, ok6⟩
            have hkd6 := e6 _ _ hkd5
            have hf6 := e6 _ _ hf5
            have q6f : q6 ≠ f := (ne_of_none hf5 nq6).symm
            walk_at "rd"
            refine ⟨kd, _, rfl, .inr ⟨_, keyS hs i, sg, hkd6, rfl, e6 _ _ hsg, szlt (by omega), rfl⟩, ?_⟩
            have off : ∀ a xs, a ≠ f → H6 a = some (.lst xs) → upd H6 kd (.dT (putK kvs (keyS hs i) (.ref q6))) a = some (.lst xs) := fun a xs _ h => upd_off h (ne_of h hkd6 (fun z => nomatch z))
            have tg6 : TgV f H6 (.ref q6) rows i d := ⟨q6, vs6, T6, rfl, q6f, hq6, paired_map (fun _ _ ⟨u, a, b, c⟩ => ⟨u, a, (ne_of_none hf5 b).symm, c⟩) hT6, ok6⟩
            have kfn : H kd = none := nk
            refine .of ⟨putK kvs (keyS hs i) (.ref q6), .ref q6, _, rfl, ((e.trans e5).trans e6).mut kfn, upd_off (e6 _ _ hsg) (ne_of (e6 _ _ hsg) hkd6 (fun z => nomatch z)), upd_same, upd_off hf6 (ne_of hf6 hkd6 (fun z => nomatch z)), ?_, fun k v h => ?_, ?_, ?_⟩
            · rw [putK_fresh (valV_none_keys q), List.length_append]
              show kvs.length + 1 ≤ i + 1
              omega
            · rw [putK_fresh (valV_none_keys q), valV_app q] at h
              by_cases w : k = keyS hs i
              · rw [if_pos w] at h
                cases h
                exact ⟨i, w, tg6.ex off⟩
              · rw [if_neg w] at h
                obtain ⟨s', a, b⟩ := hkv5 k v h
                exact ⟨s', a, (b.ex fun a xs _ h => e6 _ _ h).ex off⟩
            · exact paired_map (fun _ _ (q : TgV f H5 _ rows _ d) => (q.ex (H' := H6) fun a xs _ h => e6 _ _ h).ex off) hys5
            · rw [putK_fresh (valV_none_keys q), valV_app q, if_pos rfl]
        · intro σ6 H6 hP
          obtain ⟨kvs6, v, o8', rfl, e6, hsg6, hkd6, hf6, kl6, hkv6, hys6, hv6⟩ := hP.out
          walk_at "rd"
          refine ⟨kd, v, rfl, .inr ⟨_, keyS hs i, sg, .inl hkd6, rfl, hsg6, hv6.symm⟩, ?_⟩
          refine ⟨_, _, _, rfl, rfl, hf6, szlt (by omega), ?_⟩
          have off : ∀ a xs, a ≠ f → H6 a = some (.lst xs) → upd H6 f (.lst (ys ++ [v])) a = some (.lst xs) := fun a xs n h => upd_off h n
          refine .of ⟨e6.mut hnf, kvs6, ys ++ [v], _, _, _, rfl, upd_off hkd6 kf, upd_same, kl6, fun k v h => ?_, ?_⟩
          · obtain ⟨s', a, b⟩ := hkv6 k v h
            exact ⟨s', a, b.ex off⟩
          · rw [List.range_succ]
            obtain ⟨s', a, b⟩ := hkv6 _ _ hv6
            obtain ⟨p, vs, T, h1, h2, h3, h4, h5⟩ := b.ex off
            exact paired_app ⟨p, vs, T, h1, h2, h3, h4, TOk_same hh a h5⟩ (paired_map (fun _ _ (q : TgV f H6 _ rows _ d) => q.ex off) hys6)
    · intro σ H2 hP
      obtain ⟨e, kvs, ys, o6, o7, o8, rfl, hkd, hf, kl, hkv, hys⟩ := hP.out
      walk_at "rd"
      exact hq _ _ ⟨f, ys, rfl, hnf, e, hf, hys⟩)
end
end Ff
end
section
set_option maxRecDepth 100000
set_option maxHeartbeats 4000000
/-! What a program can be led to: plain facts. -/
namespace Ff
open PySem PySem.Spec PyProof.Rows L2
/-- the rows that can be reached at a spot -/
inductive RS (rows : List Row) (s d : Int) : Int → Prop
  | zero : RS rows s d 0
  | step {a t : Int} {r : Row} : RS rows s d a → 0 ≤ a → rows[a.toNat]? = some r → Tg r s d t → RS rows s d t
def tells (rows : List Row) (d : Int) (w : PySem.Str) (s : Int) : Prop := ∃ k, RS rows s d k ∧ 0 ≤ k ∧ rows[k.toNat]? = some (.tell w)
def lasts (rows : List Row) (d s : Int) : Prop := ∃ S : Int → Prop, (∃ k, S k) ∧ ∀ k, S k → RS rows s d k ∧ 0 ≤ k ∧ ∃ r t, rows[k.toNat]? = some r ∧ Tg r s d t ∧ S t
def LF (rows : List Row) (d : Int) (k : Option PySem.Str) (s : Int) : Prop := match k with
  | some w => tells rows d w s
  | none => lasts rows d s
theorem RS_same {rows : List Row} {s s' d k : Int} (h : ∀ r ∈ rows, ∀ t, Tg r s d t → Tg r s' d t) (q : RS rows s d k) : RS rows s' d k := by
  induction q with
  | zero => exact .zero
  | step _ a0 hr ht ih => exact .step ih a0 hr (h _ (List.mem_of_getElem? hr) _ ht)
theorem LF_same {rows : List Row} {s s' d : Int} {k : Option PySem.Str} (h : ∀ r ∈ rows, ∀ t, Tg r s d t → Tg r s' d t) (q : LF rows d k s) : LF rows d k s' := by
  cases k with
  | some w =>
    obtain ⟨k, a, b, c⟩ := q
    exact ⟨k, RS_same h a, b, c⟩
  | none =>
    obtain ⟨S, h1, h2⟩ := q
    refine ⟨S, h1, fun k hk => ?_⟩
    obtain ⟨a, b, r, t, c, e, f⟩ := h2 k hk
    exact ⟨RS_same h a, b, r, t, c, h r (List.mem_of_getElem? c) t e, f⟩
theorem LF_fold {rows : List Row} {L s d : Int} {k : Option PySem.Str} (h : ∀ h es ts, Row.look h es ts ∈ rows → 1 ≤ h ∧ h ∣ L) : LF rows d k (fold L s) ↔ LF rows d k s := by
  have tg : ∀ r ∈ rows, ∀ t, Tg r (fold L s) d t ↔ Tg r s d t := fun r hr t => Tg_same fun k es ts e => by
    have := h k es ts (by rw [← e]; exact hr)
    exact fold_fold s this.1 this.2
  exact ⟨LF_same fun r hr t => (tg r hr t).mp, LF_same fun r hr t => (tg r hr t).mpr⟩
/-- a greater doubt leads to no less -/
theorem Tg_more {r : Row} {s d d' t : Int} (h : d ≤ d') (q : Tg r s d t) : Tg r s d' t := by
  cases r with
  | tell w => exact q
  | look k es ts =>
    obtain ⟨x, a, b, c, e, f⟩ := q
    exact ⟨x, a, b, by omega, by omega, f⟩
theorem RS_more {rows : List Row} {s d d' k : Int} (h : d ≤ d') (q : RS rows s d k) : RS rows s d' k := by
  induction q with
  | zero => exact .zero
  | step _ a0 hr ht ih => exact .step ih a0 hr (Tg_more h ht)
theorem LF_more {rows : List Row} {s d d' : Int} {k : Option PySem.Str} (h : d ≤ d') (q : LF rows d k s) : LF rows d' k s := by
  cases k with
  | some w =>
    obtain ⟨k, a, b, c⟩ := q
    exact ⟨k, RS_more h a, b, c⟩
  | none =>
    obtain ⟨S, h1, h2⟩ := q
    refine ⟨S, h1, fun k hk => ?_⟩
    obtain ⟨a, b, r, t, c, e, f⟩ := h2 k hk
    exact ⟨RS_more h a, b, r, t, c, Tg_more h e, f⟩
theorem reach_RS {rows : List Row} {s d : Int} {T : List (List Int)} (ok : TOk rows s d T) {k : Int} : Reach T k ↔ RS rows s d k := by
  constructor
  · intro h
    induction h with
    | zero => exact .zero
    | step _ a0 hl ht ih =>
      have hi := (List.getElem?_eq_some_iff.mp hl).1
      obtain ⟨r, hr⟩ : ∃ r, rows[_]? = some r := ⟨_, List.getElem?_eq_getElem (by rw [← ok.1]; exact hi)⟩
      exact .step ih a0 hr ((ok.2.1 _ _ _ hl hr _).mp ht)
  · intro h
    induction h with
    | zero => exact .zero
    | step _ a0 hr ht ih =>
      have hi := (List.getElem?_eq_some_iff.mp hr).1
      obtain ⟨l, hl⟩ : ∃ l, T[_]? = some l := ⟨_, List.getElem?_eq_getElem (by rw [ok.1]; exact hi)⟩
      exact .step ih a0 hl ((ok.2.1 _ _ _ hl hr _).mpr ht)
/-- what lasting gives is empty exactly if nothing lasts -/
theorem lasts_iff {rows : List Row} {s d : Int} {T : List (List Int)} (ok : TOk rows s d T) {rs l : List Int} (hrs : ∀ k, k ∈ rs ↔ Reach T k) (r0 : ∀ k ∈ rs, 0 ≤ k ∧ k < (rows.length : Int)) (sub : ∀ k ∈ l, k ∈ rs) (big : ∀ S, Closed T rs S → ∀ k, S k → k ∈ l) (cl : ∀ k ∈ l, ∃ tl t, T[k.toNat]? = some tl ∧ t ∈ tl ∧ t ∈ l) : l ≠ [] ↔ lasts rows d s := by
  constructor
  · intro h
    obtain ⟨k, hk⟩ := List.exists_mem_of_ne_nil l h
    refine ⟨fun k => k ∈ l, ⟨k, hk⟩, fun k hk => ?_⟩
    obtain ⟨tl, t, h1, h2, h3⟩ := cl k hk
    have hr := r0 k (sub k hk)
    obtain ⟨r, hrw⟩ : ∃ r, rows[k.toNat]? = some r := ⟨_, List.getElem?_eq_getElem (by omega)⟩
    exact ⟨(reach_RS ok).mp ((hrs k).mp (sub k hk)), hr.1, r, t, hrw, (ok.2.1 _ _ _ h1 hrw _).mp h2, h3⟩
  · rintro ⟨S, ⟨k, hk⟩, hS⟩ e
    have := big S (fun k hk => by
      obtain ⟨a, b, r, t, c, e, f⟩ := hS k hk
      have hi := (List.getElem?_eq_some_iff.mp c).1
      obtain ⟨tl, htl⟩ : ∃ tl, T[k.toNat]? = some tl := ⟨_, List.getElem?_eq_getElem (by rw [ok.1]; exact hi)⟩
      exact ⟨(hrs k).mpr ((reach_RS ok).mpr a), tl, t, htl, (ok.2.1 _ _ _ htl c _).mpr e, f⟩) k hk
    rw [e] at this
    simp at this
/-! ### the marks under words -/
structure MkS (H0 H : Hp) (N : Nat) (G : Option PySem.Str → Int → Prop) (mk : List (Option PySem.Str × Addr)) : Prop where
  nd : (mk.map Prod.fst).Nodup
  na : (mk.map Prod.snd).Nodup
  at_ : ∀ p ∈ mk, H0 p.2 = none ∧ H p.2 = some (.lst ((markL (G p.1) N).map .bl))
  all : ∀ k (s : Nat), s < N → G k s → ∃ a, (k, a) ∈ mk
  som : ∀ k a, (k, a) ∈ mk → ∃ s : Nat, s < N ∧ G k s
theorem set_markL {M : Int → Prop} {N i : Nat} : ((markL M N).map V.bl).set i (.bl true) = (markL (fun s => M s ∨ s = (i : Int)) N).map .bl := by
  apply List.ext_getElem?
  intro k
  rw [List.getElem?_set, List.length_map, markL_len, List.getElem?_map, List.getElem?_map]
  by_cases q : k < N
  · rw [markL_get q, markL_get q]
    by_cases w : i = k
    · subst w
      rw [if_pos rfl, if_pos q]
      show some (V.bl true) = some (V.bl _)
      rw [tv_true (.inr rfl)]
    · rw [if_neg w]
      show some (V.bl _) = some (V.bl _)
      rw [tv_eq (p := M (k : Int)) (q := M (k : Int) ∨ (k : Int) = (i : Int)) ⟨.inl, fun h => h.resolve_right (by omega)⟩]
  · rw [List.getElem?_eq_none_iff.mpr (by rw [markL_len]; omega), List.getElem?_eq_none_iff.mpr (by rw [markL_len]; omega)]
    by_cases w : i = k
    · rw [if_pos w, if_neg (by omega)]
      rfl
    · rw [if_neg w]
theorem rep_markL {N : Nat} : (List.replicate N [V.bl false]).flatten = (markL (fun _ => False) N).map .bl := by
  induction N with
  | zero => rfl
  | succ n ih =>
    rw [List.replicate_succ', List.flatten_append, ih, markL_succ, List.map_append]
    congr 1
    simp [tv_false]
theorem MkS.congr {H0 H : Hp} {N : Nat} {G G' : Option PySem.Str → Int → Prop} {mk : List (Option PySem.Str × Addr)} (m : MkS H0 H N G mk) (h : ∀ k (s : Nat), s < N → (G k s ↔ G' k s)) : MkS H0 H N G' mk :=
  ⟨m.nd, m.na, fun p hp => ⟨(m.at_ p hp).1, by rw [(m.at_ p hp).2, markL_congr fun s hs => h p.1 s hs]⟩, fun k s hs g => m.all k s hs ((h k s hs).mpr g), fun k a ha => by obtain ⟨s, a, b⟩ := m.som k a ha; exact ⟨s, a, (h k s a).mp b⟩⟩
theorem MkS.ex {H0 H H' : Hp} {N : Nat} {G : Option PySem.Str → Int → Prop} {mk : List (Option PySem.Str × Addr)} (m : MkS H0 H N G mk) (e : ∀ a xs, H a = some (.lst xs) → H' a = some (.lst xs)) : MkS H0 H' N G mk :=
  ⟨m.nd, m.na, fun p hp => ⟨(m.at_ p hp).1, e _ _ (m.at_ p hp).2⟩, m.all, m.som⟩
/-- a mark is set under a word that has marks -/
theorem MkS.set {H0 H : Hp} {N i : Nat} {G : Option PySem.Str → Int → Prop} {mk : List (Option PySem.Str × Addr)} (m : MkS H0 H N G mk) {k : Option PySem.Str} {a : Addr} (ha : (k, a) ∈ mk) (hi : i < N) : MkS H0 (upd H a (.lst (((markL (G k) N).map V.bl).set i (.bl true)))) N (fun k' s => G k' s ∨ (k' = k ∧ s = (i : Int))) mk := by
  refine ⟨m.nd, m.na, ?_, fun k' s hs g => ?_, fun k' b hb => ?_⟩
  · rintro ⟨k', b⟩ hb
    obtain ⟨h1, h2⟩ := m.at_ _ hb
    refine ⟨h1, ?_⟩
    dsimp only at h1 h2 ⊢
    by_cases q : k' = k
    · subst q
      have := nodup_fst m.nd hb ha
      subst this
      rw [upd_same, set_markL]
      congr 3
      exact markL_congr fun s _ => ⟨fun h => h.imp id fun h => ⟨rfl, h⟩, fun h => h.imp id fun h => h.2⟩
    · have ne : b ≠ a := fun e => by
        subst e
        exact q (nodup_snd m.na hb ha)
      rw [upd_ne ne, h2]
      congr 3
      exact markL_congr fun s _ => ⟨.inl, fun h => h.resolve_right fun h => q h.1⟩
  · rcases g with g | ⟨rfl, _⟩
    · exact m.all k' s hs g
    · exact ⟨a, ha⟩
  · obtain ⟨s, h1, h2⟩ := m.som k' b hb
    exact ⟨s, h1, .inl h2⟩
/-- new marks under a new word, one of them set -/
theorem MkS.new {H0 H : Hp} {N i : Nat} {G : Option PySem.Str → Int → Prop} {mk : List (Option PySem.Str × Addr)} (m : MkS H0 H N G mk) {k : Option PySem.Str} {a : Addr} (hn : ∀ b, (k, b) ∉ mk) (a0 : H0 a = none) (an : ∀ k, (k, a) ∉ mk) (hi : i < N) : MkS H0 (upd H a (.lst (((markL (fun _ => False) N).map V.bl).set i (.bl true)))) N (fun k' s => G k' s ∨ (k' = k ∧ s = (i : Int))) (mk ++ [(k, a)]) := by
  have gk : ∀ s : Nat, s < N → ¬ G k s := fun s hs g => by
    obtain ⟨b, hb⟩ := m.all k s hs g
    exact hn b hb
  refine ⟨?_, ?_, ?_, fun k' s hs g => ?_, fun k' b hb => ?_⟩
  · rw [List.map_append, List.nodup_append]
    refine ⟨m.nd, by simp, fun x hx y hy => ?_⟩
    obtain ⟨p, hp, rfl⟩ := List.mem_map.mp hx
    simp at hy
    subst hy
    intro e
    exact hn p.2 (by rw [← e]; exact hp)
  · rw [List.map_append, List.nodup_append]
    refine ⟨m.na, by simp, fun x hx y hy => ?_⟩
    obtain ⟨p, hp, rfl⟩ := List.mem_map.mp hx
    simp at hy
    subst hy
    intro e
    exact an p.1 (by rw [← e]; exact hp)
  · rintro ⟨k', b⟩ hb
    rw [List.mem_append] at hb
    dsimp only
    rcases hb with hb | hb
    · obtain ⟨h1, h2⟩ := m.at_ _ hb
      have ne : b ≠ a := fun e => by
        subst e
        exact an k' hb
      have q : k' ≠ k := fun e => by
        subst e
        exact hn b hb
      refine ⟨h1, ?_⟩
      rw [upd_ne ne, h2]
      congr 3
      exact markL_congr fun s _ => ⟨.inl, fun h => h.resolve_right fun h => q h.1⟩
    · simp at hb
      obtain ⟨rfl, rfl⟩ := hb
      refine ⟨a0, ?_⟩
      rw [upd_same, set_markL]
      congr 3
      exact markL_congr fun s hs => ⟨fun h => .inr ⟨rfl, h.resolve_left id⟩, fun h => .inr (h.resolve_left (gk s hs)).2⟩
  · rcases g with g | ⟨rfl, _⟩
    · obtain ⟨b, hb⟩ := m.all k' s hs g
      exact ⟨b, List.mem_append_left _ hb⟩
    · exact ⟨a, by simp⟩
  · rw [List.mem_append] at hb
    rcases hb with hb | hb
    · obtain ⟨s, h1, h2⟩ := m.som k' b hb
      exact ⟨s, h1, .inl h2⟩
    · simp at hb
      obtain ⟨rfl, rfl⟩ := hb
      exact ⟨i, hi, .inr ⟨rfl, rfl⟩⟩
end Ff
end
section
set_option maxRecDepth 100000
set_option maxHeartbeats 4000000
/-! led. -/
namespace Ff
open PySem PySem.Spec PyProof.Rows L2
local macro_rules | `(tactic| walk_at "ex") => `(tactic| first
  | exact Ex.refl _
  | with_reducible assumption
  | (refine Ex.new ?_ (by with_reducible assumption); walk_at "ex")
  | (refine Ex.mut ?_ (by walk_at "hn"); walk_at "ex")
  | (refine Ex.trans ?_ (by with_reducible assumption); walk_at "ex"))
local macro_rules | `(tactic| walk_at "hn") => `(tactic| first
  | with_reducible assumption
  | exact Ex.back (by with_reducible assumption) (by with_reducible assumption)
  | exact upd_none (by with_reducible assumption)
  | exact upd_none (upd_none (by with_reducible assumption))
  | exact Ex.back (by with_reducible assumption) (upd_none (by with_reducible assumption))
  | exact Ex.back (by with_reducible assumption) (Ex.back (by with_reducible assumption) (by with_reducible assumption)))
local macro_rules | `(tactic| walk_at "hp") => `(tactic| first
  | with_reducible assumption
  | with_reducible exact upd_same
  | (refine Ex.at (by with_reducible assumption) ?_; walk_at "ex")
  | (refine upd_old ?_ (by with_reducible assumption); walk_at "hp")
  | (refine upd_off ?_ (by with_reducible assumption); walk_at "hp"))
local macro_rules | `(tactic| walk_at "sd") => `(tactic| ((try dsimp only [CMul, CDiv, CPow]); first | exact True.intro | omega | (with_reducible assumption)))
local macro_rules | `(tactic| walk_at "sz") => `(tactic| exact Nat.le_of_ble_eq_true rfl)
local macro_rules | `(tactic| walk_at "is") => `(tactic| first
  | refine ⟨_, _, _, _, _, rfl, .ty _, .base (.int _), kt_int, ?_⟩
  | refine ⟨_, _, _, _, _, rfl, .ty _, .base (.int _), kt_intb, ?_⟩
  | refine ⟨_, _, _, _, _, rfl, .ty _, .base (.bl _), kt_bool, ?_⟩
  | refine ⟨_, _, _, _, _, rfl, .ty _, .base (.str _), kt_str, ?_⟩
  | refine ⟨_, _, _, _, _, rfl, .ty _, .base (.tup (by walk_at "hp")), kt_tup, ?_⟩
  | refine ⟨_, _, _, _, _, rfl, .ty _, .base (.dK (by walk_at "hp")), kt_dict, ?_⟩)
local macro_rules | `(tactic| walk_at "rd1") => `(tactic| first
  | refine ⟨_, rfl, ?_⟩
  | refine ⟨_, _, rfl, rfl, And.intro (by walk_at "sd") ?_⟩
  | refine ⟨_, _, rfl, rfl, ?_⟩
  | refine ⟨rfl, ?_⟩
  | refine ⟨_, _, _, _, rfl, rfl, sqT (by walk_at "hp"), rfl, ?_⟩
  | refine ⟨_, _, _, _, rfl, rfl, sqL (by walk_at "hp"), rfl, ?_⟩
  | refine ⟨_, _, rfl, sqT (by walk_at "hp"), rfl, ?_⟩
  | refine ⟨_, _, _, _, _, rfl, by walk_at "hp", by assumption, by assumption, rfl, ?_⟩
  | refine ⟨.inl ⟨rfl, _, sqL (by walk_at "hp")⟩, ?_⟩
  | refine ⟨_, _, rfl, .inl (sqL (by walk_at "hp")), ?_⟩
  | refine ⟨_, _, rfl, .inr (sqT (by walk_at "hp")), ?_⟩
  | refine ⟨(_, _), rfl, ?_⟩
  | refine ⟨(_, _, _), rfl, ?_⟩
  | refine ⟨(_, _, _, _), rfl, ?_⟩
  | refine ⟨_, _, rfl, ?_⟩
  | refine ⟨_, _, _, rfl, ?_⟩
  | walk_at "is")
local macro_rules | `(tactic| walk_at "rd") => `(tactic| repeat walk_at "rd1")

local macro_rules | `(tactic| walk_at "ib") => `(tactic| refine .inr ⟨_, rfl, ?_⟩)
local macro_rules | `(tactic| walk_at "ii") => `(tactic| refine .inl ⟨_, rfl, ?_⟩)
/-- the heap without what stands at a -/
def hid (H : Hp) (a : Addr) : Hp := fun b => if b = a then none else H b
theorem hid_ne {H : Hp} {a b : Addr} (h : b ≠ a) : hid H a b = H b := by unfold hid; rw [if_neg h]
theorem hid_same {H : Hp} {a : Addr} : hid H a a = none := by unfold hid; rw [if_pos rfl]
theorem hid_ex {H : Hp} {a : Addr} : Ex (hid H a) H := fun b o h => by
  by_cases q : b = a
  · rw [q, hid_same] at h
    cases h
  · rw [hid_ne q] at h
    exact h
theorem ex_hid {H H' : Hp} {a : Addr} (e : Ex H H') (h : H a = none) : Ex H (hid H' a) := fun b o hb => by
  rw [hid_ne (ne_of_none hb h)]
  exact e b o hb
def tellOf (rows : List Row) (k : Int) : Option PySem.Str := match rows[k.toNat]? with
  | some (.tell w) => some w
  | _ => none
theorem dp_intsL {K : PySem.W.Frag} {H : Hp} {a : Addr} {l : List Int} (h : H a = some (.lst (l.map .int))) : Dp K H (.ref a) (.list (l.map .int)) := by
  refine .lst (sqL h) ?_
  clear h
  induction l with
  | nil => exact .nil
  | cons b bs ih => exact .cons (.int b) ih
theorem shaped_ints (l : List Int) : SeqAt.shaped (.list (l.map .int)) = true := by
  have h := ints_lay l
  unfold SeqAt.shaped
  simp [PyData.canLay0, h.1, PyData.depth]
  have := h.2
  omega
theorem eqv_nil (l : List Int) : (!PyData.eqv (.list (l.map .int)) (.list [])) = decide (l ≠ []) := by
  cases l with
  | nil => simp [PyData.eqv, PyData.eqvAll]
  | cons a l => simp [PyData.eqv, PyData.eqvAll]
theorem LF_words {rows : List Row} {d s : Int} {k : Option PySem.Str} (h : LF rows d k s) : k ∈ wordsOf rows := by
  cases k with
  | none => simp [wordsOf]
  | some w =>
    obtain ⟨k, _, _, hk⟩ := h
    unfold wordsOf
    rw [List.mem_cons]
    right
    exact List.mem_filterMap.mpr ⟨.tell w, List.mem_of_getElem? hk, rfl⟩
section
variable {P : Program} {w : World} {K : PySem.W.Frag} {mg : PySem.Str → Option Value} {base : Heap} {Z : Adr}
theorem MkS.len {H0 H : Hp} {N : Nat} {G : Option PySem.Str → Int → Prop} {mk : List (Option PySem.Str × Addr)} (m : MkS H0 H N G mk) {rows : List Row} (ro : RowsOk rows) (hG : ∀ k s, G k s → k ∈ wordsOf rows) : mk.length ≤ 21 := by
  have h1 := nodup_sub (mk.map Prod.fst) (wordsOf rows) m.nd fun k hk => by
    obtain ⟨p, hp, rfl⟩ := List.mem_map.mp hk
    obtain ⟨s, _, h2⟩ := m.som p.1 p.2 hp
    exact hG _ _ h2
  have h2 := wordsOf_len rows
  have h3 := ro.2.1
  rw [List.length_map] at h1
  omega
def sp_led (P : Program) (w : World) (Z : Adr) : Sp := mkSp (fun ((x, d, _) : Addr × Int × List Row × List Int) => [.ref x, .int d]) (fun (x, d, rows, hs) H => ProgAt Z H x rows hs ∧ 0 ≤ d ∧ d ≤ 1000 ∧ lcmL hs ≤ 5040)
  (fun (_, d, rows, hs) H v H' => Ex H H' ∧ DictP Z P w (lcmL hs) (LF rows d) H' v)
abbrev s_led : Stmt := top 77
theorem sc_led : FnScope ["program", "doubt", "half", "marks", "spot", "targets", "rows", "words", "word", "some", "row"] ["program", "doubt"] (C8.fnScope s_led) := C8.fnScope_by (by decide +kernel)
theorem c_led (T : Txt P w K mg base Z) : C8.Cal P w K mg base 7 "led" (sp_led P w Z) [] :=
  calD (k := 6) T.d_led sc_led (fun _ _ _ _ _ _ us h => by obtain ⟨_, _, rfl⟩ := us2 (by exact h); rfl) (fun _ => rfl) (fun cdv f A outer s H0 H Q E a hr pre hq => by
    have S := sc_led
    obtain ⟨x, d, rows, hs⟩ := a
    obtain ⟨hx, d0, d1, hl⟩ := pre
    obtain ⟨dx, tt, ee, vs0, i1, ht, hv, he, hh, ro⟩ := id hx
    have L1 := lcmL_ge (l := hs) fun n hn => (hh.bounds ro n hn).1
    obtain ⟨L, hL⟩ : ∃ L, lcmL hs = L := ⟨_, rfl⟩
    have hq : ∀ v H', Ex H H' → DictP Z P w L (LF rows d) H' v → Q v H' := by
      rw [← hL]
      exact fun v H' a b => hq v H' ⟨a, b⟩
    have hdv : ∀ h es ts, Row.look h es ts ∈ rows → 1 ≤ h ∧ h ∣ L := fun h es ts hm => by
      have hm := (hh.mem h).mpr ⟨es, ts, hm⟩
      exact ⟨(hh.bounds ro h hm).1, by rw [← hL]; exact lcmL_dvd hm⟩
    have r2 := ro.2.1
    refine ⟨_, (pss_cons (ps_expr (C8.pe_c (c_need_doubt T) hr (by decide) rfl (pa_cons (pv 1) pa_nil)))
  (pss_cons (ps_set (i := 2) S.nd rfl (Or.inr rfl) (C8.pe_c (c_need_multiple T) hr (by decide) rfl (pa_cons (pe_pr (c_Program_halves T) hr (by decide) (pv 0)) pa_nil)))
  (pss_cons (ps_set (i := 3) S.nd rfl (Or.inr rfl) pe_newO)
  (pss_cons (ps_for PassesOwn.never rfl (pi_enum (by rfl) T.n_enumerate (pa_cons (C8.pe_c (c_kinds_of T) hr (by decide) rfl (pa_cons (pv 0) (pa_cons (pv 1) (pa_cons (pv 2) pa_nil)))) pa_nil)) (pgT (K := K) (n := 2) rfl (by rfl) (pgs_cons (pg_name (i := 4) S.nd rfl (Or.inl rfl)) (pgs_cons (pg_name (i := 5) S.nd rfl (Or.inl rfl)) pgs_nil))) (pss_cons (ps_set (i := 6) S.nd rfl (Or.inl rfl) (C8.pe_c (c_reached T) hr (by decide) rfl (pa_cons (pv 5) pa_nil)))
  (pss_cons (ps_setLc (i := 7) (own := [("row", 10)]) rfl S.nd rfl rfl (sw_true rfl rfl rfl (by decide +kernel)) (piL (K := K) rfl (pv 6)) (blkOk_by (by kernel_rfl)) (fun _ _ _ _ _ => (pg_name (i := 10) S.nd rfl (by first | exact Or.inl rfl | exact Or.inr rfl))) (fun _ _ _ _ _ => (pts_one (pt_cmpR op_eq (pe_ix (ixT (K := K) rfl) (pe_ix (ixT (K := K) rfl) (pe_pr (c_Program_rows T) hr (by decide) (pv 0)) (pv 10) (fun _ _ => rfl)) pe_int (fun _ _ => rfl)) pe_str (nomark _)))) (fun _ _ _ _ _ => (pe_ix (ixT (K := K) rfl) (pe_ix (ixT (K := K) rfl) (pe_pr (c_Program_rows T) hr (by decide) (pv 0)) (pv 10) (fun _ _ => rfl)) pe_int (fun _ _ => rfl))))
  (pss_one (ps_for PassesOwn.never rfl (piL (K := K) rfl (pe_op op_cat (pv 7) (pe_op op_rep (pe_lst (pa_cons pe_non pa_nil)) (pe_callTy call_int1 (by rfl) T.n_int (by decide +kernel) (pa_cons (pe_cmpR (neD (K := K) rfl hr.units) (C8.pe_c (c_lasting T) hr (by decide) rfl (pa_cons (pv 5) (pa_cons (pv 6) pa_nil))) (pe_lst pa_nil) (nomark _)) pa_nil))))) (pg_name (i := 8) S.nd rfl (Or.inl rfl)) (C8.pss_cut (ps_if (pt_cmpR op_niO (pv 8) (pv 3) (by rfl)) (pss_one (ps_putO (pv 3) (pv 8) (pe_op op_rep (pe_lst (pa_cons pe_bl pa_nil)) (pe_op op_add (pe_op op_mul pe_int (pv 2)) pe_int)) rfl)) pss_nil)
  (pss_cons (ps_set (i := 9) S.nd rfl (Or.inl rfl) (getO (P := P) (w := w) rfl rfl (pv 3) (pv 8) (fun _ _ => rfl)))
  (pss_one (ps_asg pe_bl (pg_sub (pv 9) (pv 4) set_list))))))))))
  (pss_cons (ps_set (i := 7) S.nd rfl (Or.inl rfl) (pe_op op_cat (pe_op op_rep (pe_lst (pa_cons pe_non pa_nil)) (pe_callTy call_int1 (by rfl) T.n_int (by decide +kernel) (pa_cons (pe_cmpR op_inO pe_non (pv 3) (by rfl)) pa_nil))) (pe_callB (srtS (K := K) rfl) (by rfl) T.n_sorted (by decide +kernel) (pa_cons (pe_lock (pe_lc (own := [("word", 8)]) rfl S.nd (pi_keysO (pv 3)) (blkOk_by (by kernel_rfl)) (fun _ _ _ _ _ => (pg_name (i := 8) S.nd rfl (by first | exact Or.inl rfl | exact Or.inr rfl))) (fun _ _ _ _ _ => (pts_one (pt_cmpR op_notN (pv 8) pe_non (nomark _)))) (fun _ _ _ _ _ => (pv 8)))) pa_nil))))
  (pss_one (ps_ret (pe_dcO (own := [("word", 8)]) rfl S.nd (piL (K := K) rfl (pv 7)) (blkOk_by (by kernel_rfl)) (fun _ _ _ _ _ => (pg_name (i := 8) S.nd rfl (by first | exact Or.inl rfl | exact Or.inr rfl))) (fun _ _ _ _ _ => pts_nil) (fun _ _ _ _ _ => (pv 8)) (fun _ _ _ _ _ => (C8.pe_mk (k_Pattern T) hr (by decide) rfl (pa_cons (pv 2) (pa_cons (C8.pe_c (c_pieces_in T) hr (by decide) rfl (pa_cons (getO (P := P) (w := w) rfl rfl (pv 3) (pv 8) (fun _ _ => rfl)) pa_nil)) pa_nil)))))))))))), ?_⟩
    walk_at "rd"
    refine ⟨⟨d0, d1⟩, ?_⟩
    rintro v H' ⟨rfl, rfl⟩
    walk_at "rd"
    refine ⟨_, _, _, rfl, i1, (x, rows, hs), rfl, hx, ?_⟩
    rintro v H' ⟨eh, rfl, rfl, heh⟩
    walk_at "rd"
    refine ⟨(eh, hs), rfl, ⟨.inr heh, fun n hn => by have := hh.bounds ro n hn; omega, hl⟩, ?_⟩
    rintro v H' ⟨rv, rfl⟩
    rw [hL] at rv hl L1
    subst rv
    walk_at "rd"
    refine fun md nmd => ?_
    walk_at "rd"
    have e01 := (Ex.refl H').new (o := DO P w md []) nmd
    refine ⟨(x, d, L, rows, hs), rfl, ⟨hx.ex e01, by omega, hl⟩, ?_⟩
    rintro v H2 ⟨q, vs, rfl, nq, e2, hq2, hvs⟩
    have hmd2 := e2 _ _ (upd_same (H := H') (a := md) (o := DO P w md []))
    have e02 : Ex H' H2 := e01.trans e2
    obtain ⟨N, hN⟩ : ∃ N, (2 * L + 1).toNat = N := ⟨_, rfl⟩
    rw [hN] at hvs
    have vsl := paired_len hvs
    rw [List.length_range] at vsl
    walk_at "rd"
    refine ⟨_, _, rfl, sqL hq2, ?_⟩
    obtain ⟨Bm, hBm⟩ : ∃ Bm, hid H2 md = Bm := ⟨_, rfl⟩
    have e0m : Ex H' Bm := by rw [← hBm]; exact ex_hid e02 nmd
    have em2 : Ex Bm H2 := by rw [← hBm]; exact hid_ex
    have nmB : Bm md = none := by rw [← hBm]; exact hid_same
    have inB : ∀ {a xs}, H2 a = some (.lst xs) → Bm a = some (.lst xs) := fun {a xs} h => by
      rw [← hBm, hid_ne (ne_of h hmd2 do_ne.symm)]
      exact h
    have hxB := hx.ex e0m
    have i1B := e0m _ _ i1
    refine for_it (walk_enum (xs := vs)) (fun i σ H3 => Hold (Ex Bm H3 ∧ ∃ (mk : List (Option PySem.Str × Addr)) (o4 o5 o6 o7 o8 o9 o10 : Option V), σ = [some (.ref x), some (.int d), some (.int L), some (.ref md), o4, o5, o6, o7, o8, o9, o10] ∧ H3 md = some (DO P w md (kvR mk)) ∧ MkS Bm H3 N (fun k s => s < (i : Int) ∧ LF rows d k s) mk))
      (.of ⟨em2, [], _, _, _, _, _, _, _, rfl, hmd2, ⟨by simp, by simp, by simp, fun k s _ h => by omega, fun k a h => by simp at h⟩⟩) (fun i σ H3 _ h => sqL (h.out.1 _ _ (inB hq2))) ?_ ?_
    · rintro i y σ H3 H4 hi hP ⟨T1, a1, v, rfl, nT, rfl, ha1, hvi⟩
      obtain ⟨e3, mk, o4, o5, o6, o7, o8, o9, o10, rfl, hmd, mks⟩ := hP.out
      clear hP
      cases ha1
      have hiN : i < N := by omega
      obtain ⟨p, pvs, Ts, rfl, pq, hp, hpT, ok⟩ := paired_get hvs (range_get hiN) hvi
      have hpB := inB hp
      have hTB : Paired (ListAt Bm) Ts pvs := paired_map (fun _ _ ⟨u, a, b, c⟩ => ⟨u, a, inB c⟩) hpT
      have tsok := ok.ts ro
      have e4 : Ex Bm (upd H3 T1 (.tup [V.int i, .ref p])) := e3.new nT
      walk_at "rd"
      refine ⟨(p, pvs, Ts, rows.length), rfl, ⟨e4 _ _ hpB, paired_map (fun _ _ q => q.ex e4) hTB, tsok⟩, ?_⟩
      rintro v H5 ⟨rq, rl, rfl, nrq, e5, hrq, rmem, rrng, rlen⟩
      have e45 := e4.trans e5
      have hmd5 : H5 md = some (DO P w md (kvR mk)) := e5 _ _ (upd_old hmd nT)
      walk_at "rd"
      refine ⟨⟨_, sqL hrq⟩, fun D nD => ?_⟩
      refine lcE (walk_list (xs := rl.map V.int)) nD (by rw [List.length_map]; omega) (fun j => ((rl[j]?).bind (tellOf rows)).isSome) (fun j y _ => ∃ k b, rl[j]? = some k ∧ tellOf rows k = some b ∧ y = .str b) (fun _ r => r) (fun _ r => r) (fun H e => sqL (e _ _ hrq)) ?_ ?_
      · rintro j y H6 H7 hj e6 ⟨rfl, hy⟩ S Z' hS hZ
        obtain ⟨k, hk, rfl⟩ := map_get hy
        have kr := rrng k (List.mem_of_getElem? hk)
        have e06 := e45.trans e6
        refine ⟨rfl, ?_⟩
        walk_at "rd"
        refine ⟨_, _, _, rfl, e06 _ _ i1B, (x, rows, hs), rfl, hxB.ex e06, ?_⟩
        rintro v H8 ⟨rt, rvs, rfl, rfl, hrt, hrv⟩
        have rvl := paired_len hrv
        obtain ⟨row, hrow⟩ : ∃ row, rows[k.toNat]? = some row := ⟨_, List.getElem?_eq_getElem (by omega)⟩
        obtain ⟨rv, hrvk⟩ : ∃ v, rvs[k.toNat]? = some v := ⟨_, List.getElem?_eq_getElem (by omega)⟩
        have rvx := paired_get hrv hrvk hrow
        walk_at "rd"
        refine ⟨_, _, _, _, rfl, rfl, sqT hrt, atI_nat' kr.1 hrvk, ?_⟩
        cases row with
        | look h es ts =>
          obtain ⟨rp, e1', t1', rfl, hrp, _, _⟩ := rvx
          have tn : tellOf rows k = none := by unfold tellOf; rw [hrow]
          walk_at "rd"
          exact hZ _ (Ex.refl _) (by rw [hk]; show (tellOf rows k).isSome = false; rw [tn]; rfl)
        | tell w0 =>
          obtain ⟨rp, rfl, hrp⟩ := rvx
          have tn : tellOf rows k = some w0 := by unfold tellOf; rw [hrow]
          walk_at "rd"
          refine ⟨_, _, _, rfl, e06 _ _ i1B, (x, rows, hs), rfl, hxB.ex e06, ?_⟩
          rintro v H9 ⟨rt2, rvs2, rfl, rfl, hrt2, hrv2⟩
          have rvl2 := paired_len hrv2
          obtain ⟨rv2, hrvk2⟩ : ∃ v, rvs2[k.toNat]? = some v := ⟨_, List.getElem?_eq_getElem (by omega)⟩
          obtain ⟨rp2, rfl, hrp2⟩ := paired_get hrv2 hrvk2 hrow
          walk_at "rd"
          refine ⟨_, _, _, _, rfl, rfl, sqT hrt2, atI_nat' kr.1 hrvk2, ?_⟩
          walk_at "rd"
          exact hS _ _ (Ex.refl _) (by rw [hk]; show (tellOf rows k).isSome = true; rw [tn]; rfl) ⟨k, w0, hk, tn, rfl⟩
      · intro H6 ys e6 hD got
        unfold Got at got
        rw [List.length_map] at got
        have hz := got_filterMap (l := rl) (g := tellOf rows) (h := V.str) rl.length ys (Nat.le_refl _) got
        rw [List.take_length] at hz
        subst hz
        have e46 := e45.trans e6
        have hmd6 := e6 _ _ hmd5
        walk_at "rd"
        refine ⟨by walk_at "sz", fun n0 nn0 => ?_⟩
        walk_at "rd"
        have e7 := e46.new (o := .lst [V.non]) nn0
        refine ⟨(p, rq, pvs, Ts, rl, rows.length), rfl, ⟨e7 _ _ hpB, paired_map (fun _ _ q => q.ex e7) hTB, tsok, upd_old (e6 _ _ hrq) nn0, rrng, rlen, ok.2.2⟩, ?_⟩
        rintro v H8 ⟨lq, ll, rfl, nlq, e8, hlq, lsub, lbig, lcl, _⟩
        walk_at "rd"
        refine ⟨by walk_at "sz", fun ne nne => ?_⟩
        refine ⟨_, .list [], dp_intsL (upd_old hlq nne), .lst (sqL upd_same) .nil, shaped_ints ll, by decide +kernel, ?_⟩
        rw [eqv_nil]
        walk_at "ib"
        have hn08 := e8 _ _ (upd_same (H := H6) (a := n0) (o := .lst [V.non]))
        refine ⟨_, _, _, rfl, rfl, upd_old hn08 nne, by split <;> omega, by split <;> omega, by split <;> decide, fun n1 nn1 => ?_⟩
        obtain ⟨lb, hlb⟩ : ∃ b, decide (ll ≠ []) = b := ⟨_, rfl⟩
        rw [hlb]
        have wv : (rl.filterMap (tellOf rows)).map V.str ++ (List.replicate (if lb = true then (1 : Int) else 0).toNat [V.non]).flatten = ((rl.filterMap (tellOf rows)).map some ++ (if lb = true then [none] else []) : List (Option PySem.Str)).map wV := by
          cases lb <;> simp [wV] <;> rfl
        have fl := List.length_filterMap_le (tellOf rows) rl
        have hD8 := e8 _ _ (upd_old (o' := .lst [V.non]) hD nn0)
        refine ⟨_, _, _, _, rfl, rfl, upd_old (upd_old hD8 nne) nn1, upd_same, szL (by rw [← List.length_append, wv, List.length_map, List.length_append, List.length_map]; split <;> simp <;> omega), fun wl nwl => ?_⟩
        rw [wv]
        obtain ⟨ws, hws⟩ : ∃ ws, ((rl.filterMap (tellOf rows)).map some ++ (if lb = true then [none] else []) : List (Option PySem.Str)) = ws := ⟨_, rfl⟩
        rw [hws]
        have wlf : ∀ k, k ∈ ws ↔ LF rows d k (i : Int) := fun k => by
          rw [← hws, List.mem_append]
          cases k with
          | none =>
            have li := lasts_iff ok rmem rrng lsub lbig lcl
            show _ ↔ lasts rows d i
            rw [← li, ← decide_eq_true_eq (p := ll ≠ []), hlb]
            constructor
            · rintro (h | h)
              · simp at h
              · split at h
                · assumption
                · simp at h
            · intro h
              rw [if_pos h]
              simp
          | some w0 =>
            show _ ↔ tells rows d w0 i
            constructor
            · rintro (h | h)
              · obtain ⟨z, hz, e⟩ := List.mem_map.mp h
                cases e
                obtain ⟨k, hk, ht⟩ := List.mem_filterMap.mp hz
                have kr := rrng k hk
                refine ⟨k, (reach_RS ok).mp ((rmem k).mp hk), kr.1, ?_⟩
                unfold tellOf at ht
                cases q : rows[k.toNat]? with
                | none => rw [q] at ht; cases ht
                | some r =>
                  rw [q] at ht
                  cases r with
                  | tell w => cases ht; rfl
                  | look h es ts => cases ht
              · split at h <;> simp at h
            · rintro ⟨k, h1, h2, h3⟩
              refine .inl (List.mem_map.mpr ⟨w0, List.mem_filterMap.mpr ⟨k, (rmem k).mpr ((reach_RS ok).mpr h1), ?_⟩, rfl⟩)
              unfold tellOf
              rw [h3]
        obtain ⟨H9, hH9⟩ : ∃ H9, upd (upd (upd H8 ne (.lst [])) n1 (.lst (List.replicate (if lb = true then (1 : Int) else 0).toNat [V.non]).flatten)) wl (.lst (ws.map wV)) = H9 := ⟨_, rfl⟩
        have e39 : Ex H3 H9 := by
          rw [← hH9]
          exact ((((((Ex.refl H3).new nT).trans e5).trans e6).new nn0).trans e8).new nne |>.new nn1 |>.new nwl
        have hwl : H9 wl = some (.lst (ws.map wV)) := by rw [← hH9]; exact upd_same
        have wl3 : H3 wl = none := by
          have e38 : Ex H3 (upd (upd H8 ne (.lst [])) n1 (.lst (List.replicate (if lb = true then (1 : Int) else 0).toNat [V.non]).flatten)) := ((((((Ex.refl H3).new nT).trans e5).trans e6).new nn0).trans e8).new nne |>.new nn1
          exact e38.back nwl
        rw [hH9]
        have hmd9 := e39 _ _ hmd
        have mks9 := mks.ex (H' := H9) fun a xs h => e39 _ _ h
        have wlm : ∀ p ∈ mk, p.2 ≠ wl := fun p hp e => by
          have := (mks.at_ p hp).2
          rw [e, wl3] at this
          cases this
        have eB9 := e3.trans e39
        have wlB : Bm wl = none := e3.back wl3
        have wsl : ws.length ≤ 30 := by
          rw [← hws, List.length_append, List.length_map]
          split <;> simp <;> omega
        walk_at "rd"
        refine ⟨⟨_, sqL hwl⟩, ?_⟩
        let G : Nat → Option PySem.Str → Int → Prop := fun j k s => (s < (i : Int) ∧ LF rows d k s) ∨ (s = (i : Int) ∧ k ∈ ws.take j)
        have Gw : ∀ j k s, G j k s → k ∈ wordsOf rows := fun j k s h => by
          rcases h with h | h
          · exact LF_words h.2
          · exact LF_words ((wlf k).mp (List.mem_of_mem_take h.2))
        refine for_it (walk_list (xs := ws.map wV)) (fun j σ H3 => Hold (Ex Bm H3 ∧ H3 wl = some (.lst (ws.map wV)) ∧ ∃ (mk : List (Option PySem.Str × Addr)) (o8 o9 : Option V), σ = [some (.ref x), some (.int d), some (.int L), some (.ref md), some (.int i), some (.ref p), some (.ref rq), some (.ref D), o8, o9, o10] ∧ H3 md = some (DO P w md (kvR mk)) ∧ MkS Bm H3 N (G j) mk ∧ ∀ p ∈ mk, p.2 ≠ wl))
          (.of ⟨eB9, hwl, mk, _, _, rfl, hmd9, mks9.congr fun k s _ => ⟨.inl, fun h => h.resolve_right fun h => by simp at h⟩, wlm⟩) (fun j σ H3 _ h => sqL h.out.2.1) ?_ ?_
        · rintro j y σ HA HB hj hP ⟨rfl, hy⟩
          obtain ⟨eA, hwlA, mkA, a8, a9, rfl, hmdA, mkS, wlA⟩ := hP.out
          clear hP
          obtain ⟨k, hk, rfl⟩ := map_get hy
          have kws := List.mem_of_getElem? hk
          have mkl := mkS.len ro (Gw j)
          have Gs : ∀ k' s, (G j k' s ∨ (k' = k ∧ s = (i : Int))) ↔ G (j + 1) k' s := fun k' s => by
            show ((_ ∨ _) ∨ _) ↔ (_ ∨ _)
            rw [take_more hk]
            simp only [List.mem_append, List.mem_singleton]
            constructor
            · rintro ((h | h) | h)
              · exact .inl h
              · exact .inr ⟨h.1, .inl h.2⟩
              · exact .inr ⟨h.2, .inr h.1⟩
            · rintro (h | ⟨h1, h2 | h2⟩)
              · exact .inl (.inl h)
              · exact .inl (.inr ⟨h1, h2⟩)
              · exact .inr ⟨h2, h1⟩
          refine ⟨fun σ6 H6 => Hold (Ex Bm H6 ∧ H6 wl = some (.lst (ws.map wV)) ∧ ∃ (mk' : List (Option PySem.Str × Addr)) (a : Addr) (M : Int → Prop), σ6 = [some (.ref x), some (.int d), some (.int L), some (.ref md), some (.int i), some (.ref p), some (.ref rq), some (.ref D), some (wV k), a9, o10] ∧ H6 md = some (DO P w md (kvR mk')) ∧ (k, a) ∈ mk' ∧ (mk'.map Prod.fst).Nodup ∧ H6 a = some (.lst ((markL M N).map .bl)) ∧ Bm a = none ∧ (∀ p ∈ mk', p.2 ≠ wl) ∧ MkS Bm (upd H6 a (.lst (((markL M N).map V.bl).set i (.bl true)))) N (G (j + 1)) mk'), ?_, ?_⟩
          · walk_at "rd"
            refine ⟨md, kvR mkA, k, rfl, rfl, .inl hmdA, ?_⟩
            walk_at "rd"
            cases q : valV (kvR mkA) k with
            | some v =>
              obtain ⟨a, rfl, ha⟩ := valV_some q
              obtain ⟨h1, h2⟩ := mkS.at_ _ ha
              walk_at "rd"
              exact .of ⟨eA, hwlA, mkA, a, _, rfl, hmdA, ha, mkS.nd, h2, h1, wlA, (mkS.set ha hiN).congr fun k s _ => Gs k s⟩
            | none =>
              have hn := valV_none q
              walk_at "rd"
              refine ⟨by walk_at "sz", fun z0 nz0 => ?_⟩
              walk_at "rd"
              refine ⟨_, _, _, rfl, rfl, upd_same, by omega, by omega, szL (by rw [hN]; show 1 * N ≤ _; omega), fun z nz => ?_⟩
              rw [hN, rep_markL]
              walk_at "rd"
              have hmdz := upd_old (o' := .lst ((markL (fun _ => False) N).map V.bl)) (upd_old (o' := .lst [V.bl false]) hmdA nz0) nz
              refine ⟨md, kvR mkA, k, rfl, rfl, hmdz, szlt (by unfold kvR; rw [List.length_map]; omega), ?_⟩
              have zB : Bm z = none := (eA.new nz0).back nz
              have zm : z ≠ md := (ne_of_none (upd_old (o' := .lst [V.bl false]) hmdA nz0) nz).symm
              have zwl : z ≠ wl := (ne_of_none (upd_old (o' := .lst [V.bl false]) hwlA nz0) nz).symm
              have zk : ∀ k, (k, z) ∉ mkA := fun k h => by
                have := upd_old (o' := .lst [V.bl false]) (mkS.at_ _ h).2 nz0
                dsimp only at this
                rw [nz] at this
                cases this
              have up : ∀ a xs, HB a = some (.lst xs) → upd (upd (upd HB z0 (.lst [V.bl false])) z (.lst ((markL (fun _ => False) N).map V.bl))) md (DO P w md (putK (kvR mkA) k (.ref z))) a = some (.lst xs) := fun a xs h =>
                have h2 := upd_old (o' := .lst ((markL (fun _ => False) N).map V.bl)) (upd_old (o' := .lst [V.bl false]) h nz0) nz
                upd_off h2 (ne_of h2 hmdz do_ne.symm)
              refine .of ⟨((eA.new nz0).new nz).mut nmB, up _ _ hwlA, mkA ++ [(k, z)], z, (fun _ => False), rfl, ?_, by simp, ?_, upd_off upd_same zm, zB, fun p hp => ?_, ((mkS.ex up).new hn zB zk hiN).congr fun k s _ => Gs k s⟩
              · rw [upd_same, putK_new hn]
                rfl
              · rw [List.map_append, List.nodup_append]
                refine ⟨mkS.nd, by simp, fun x hx y hy => ?_⟩
                obtain ⟨p, hp, rfl⟩ := List.mem_map.mp hx
                simp at hy
                subst hy
                intro e
                exact hn p.2 (by rw [← e]; exact hp)
              · rw [List.mem_append] at hp
                rcases hp with hp | hp
                · exact wlA p hp
                · simp at hp
                  rw [hp]
                  exact zwl
          · intro σ6 H6 hP
            obtain ⟨e6', hwl6, mk', a, M, rfl, hmd6', ha, nd', hla, aB, wl6, mkS6⟩ := hP.out
            walk_at "rd"
            refine ⟨md, kvR mk', k, .ref a, rfl, rfl, .inl hmd6', valV_in nd' ha, ?_⟩
            walk_at "rd"
            refine ⟨a, _, (i : Int), i, rfl, rfl, hla, Evl.ixN_nat (by rw [List.length_map, markL_len]; exact hiN), ?_⟩
            have awl := wl6 _ ha
            dsimp only at awl
            exact .of ⟨e6'.mut aB, upd_off hwl6 awl.symm, mk', _, _, rfl, upd_off hmd6' (ne_of hmd6' hla do_ne), mkS6, wl6⟩
        · intro σ6 HA hP
          obtain ⟨eA, hwlA, mkA, a8, a9, rfl, hmdA, mkS, wlA⟩ := hP.out
          rw [List.length_map] at mkS
          refine .of ⟨eA, mkA, _, _, _, _, _, _, _, rfl, hmdA, mkS.congr fun k s _ => ?_⟩
          show (_ ∨ _) ↔ _
          rw [List.take_length, wlf]
          constructor
          · rintro (h | ⟨h, h2⟩)
            · exact ⟨by omega, h.2⟩
            · rw [h]
              exact ⟨by omega, h2⟩
          · rintro ⟨h1, h2⟩
            by_cases q : (s : Int) < (i : Int)
            · exact .inl ⟨q, h2⟩
            · have e : (s : Int) = (i : Int) := by omega
              rw [e] at h2 ⊢
              exact .inr ⟨rfl, h2⟩
    · intro σ HU hP
      obtain ⟨e3U, mk, o4, o5, o6, o7, o8, o9, o10, rfl, hmdU, mks⟩ := hP.out
      clear hP
      have ksR : (kvR mk).length = mk.length := by unfold kvR; rw [List.length_map]
      rw [← vsl] at mks
      have mksF : MkS Bm HU N (LF rows d) mk := mks.congr fun k s hs => ⟨fun h => h.2, fun h => ⟨by omega, h⟩⟩
      have tk21 : mk.length ≤ 21 := mksF.len ro fun k s h => LF_words h
      have kn : ∀ k, (∃ a, (k, a) ∈ mk) ↔ ∃ s : Int, 0 ≤ s ∧ s ≤ 2 * L ∧ LF rows d k s := fun k => by
        constructor
        · rintro ⟨a, ha⟩
          obtain ⟨r, h1, h2⟩ := mksF.som k a ha
          exact ⟨r, by omega, by omega, h2⟩
        · rintro ⟨s, h1, h2, h3⟩
          exact mksF.all k s.toNat (by omega) (by rw [show ((s.toNat : Nat) : Int) = s by omega]; exact h3)
      walk_at "rd"
      refine ⟨by walk_at "sz", fun n0 nn0 => ?_⟩
      walk_at "rd"
      refine ⟨md, _, none, rfl, rfl, .inl (upd_old hmdU nn0), ?_⟩
      walk_at "rd"
      walk_at "ib"
      refine ⟨_, _, _, rfl, rfl, upd_same, by split <;> omega, by split <;> omega, by split <;> decide, fun n1 nn1 => ?_⟩
      walk_at "rd"
      have hmd2z := upd_old (o' := .lst (List.replicate (if (valV (kvR mk) none).isSome = true then (1 : Int) else 0).toNat [V.non]).flatten) (upd_old (o' := .lst [V.non]) hmdU nn0) nn1
      obtain ⟨H3, hH3⟩ : ∃ H3, upd (upd HU n0 (.lst [V.non])) n1 (.lst (List.replicate (if (valV (kvR mk) none).isSome = true then (1 : Int) else 0).toNat [V.non]).flatten) = H3 := ⟨_, rfl⟩
      have e3 : Ex HU H3 := by rw [← hH3]; exact ((Ex.refl _).new nn0).new nn1
      have n1v : H3 n1 = some (.lst (List.replicate (if (valV (kvR mk) none).isSome = true then (1 : Int) else 0).toNat [V.non]).flatten) := by rw [← hH3]; exact upd_same
      rw [hH3] at hmd2z
      rw [show (upd (upd HU n0 (.lst [V.non])) n1 (.lst (List.replicate (if (valV (kvR mk) none).isSome = true then (1 : Int) else 0).toNat [V.non]).flatten)) = H3 from hH3]
      refine ⟨md, _, hmd2z, do_mut, fun od2 => ?_⟩
      walk_at "rd"
      refine ⟨_, _, _, rfl, upd_same, fun D nD => ?_⟩
      refine lcE (walkO (P := P) (w := w) (d := md) (o := od2) (kvs := kvR mk)) nD (by unfold kvR; rw [List.length_map]; omega) (fun i => ((mk[i]?).bind Prod.fst).isSome) (fun i y _ => ∃ p b, mk[i]? = some p ∧ p.1 = some b ∧ y = .str b) (fun _ r => r) (fun _ r => r) (fun H e => e _ _ upd_same) ?_ ?_
      · rintro i y H4 H5 hi e4 ⟨rfl, k, v, hkv, rfl⟩ S Z hS hZ
        obtain ⟨⟨k', a⟩, hka, ekv⟩ := map_get hkv
        simp only [Prod.mk.injEq] at ekv
        obtain ⟨rfl, rfl⟩ := ekv
        refine ⟨rfl, ?_⟩
        cases k with
        | none =>
          walk_at "rd"
          exact hZ _ (Ex.refl _) (by rw [hka]; rfl)
        | some z =>
          walk_at "rd"
          exact hS _ _ (Ex.refl _) (by rw [hka]; rfl) ⟨_, z, hka, rfl, rfl⟩
      · intro H4 ys e4 hD got
        unfold Got at got
        rw [ksR] at got
        have hz := got_filterMap (l := mk) (g := Prod.fst) (h := V.str) mk.length ys (Nat.le_refl _) got
        rw [List.take_length] at hz
        subst hz
        refine ⟨e4 _ _ upd_same, ?_⟩
        have Dmd : D ≠ md := fun z => by rw [z, upd_same] at nD; cases nD
        obtain ⟨H5, hH5⟩ : ∃ H5, upd H4 md (DO P w md (kvR mk)) = H5 := ⟨_, rfl⟩
        have e5 : Ex H3 H5 := by rw [← hH5]; exact Ex.unlock e4 hmd2z
        have hD5 : H5 D = some (.lst ((mk.filterMap Prod.fst).map V.str)) := by rw [← hH5]; exact upd_off hD Dmd
        have n1v5 := e5 _ _ n1v
        rw [show upd H4 md (DO P w md (kvR mk)) = H5 from hH5]
        walk_at "rd"
        refine ⟨D, mk.filterMap Prod.fst, rfl, sqL hD5, by have := List.length_filterMap_le (Prod.fst : Option PySem.Str × Addr → Option PySem.Str) mk; omega, fun ys p perm srt np => ?_⟩
        have ylen : ys.length ≤ 21 := by
          have h1 := perm.length_eq
          have := List.length_filterMap_le (Prod.fst : Option PySem.Str × Addr → Option PySem.Str) mk
          omega
        obtain ⟨ond, omem⟩ := ord_facts mksF.nd perm
        obtain ⟨ord, hord⟩ : ∃ ord, ((if (valV (kvR mk) none).isSome = true then [none] else []) ++ ys.map some : List (Option PySem.Str)) = ord := ⟨_, rfl⟩
        have ov := ord_vals (valV (kvR mk) none).isSome ys
        rw [hord] at ond omem ov
        have ol : ord.length ≤ 22 := by
          rw [← hord]
          rw [List.length_append, List.length_map]
          split <;> simp <;> omega
        refine ⟨_, _, _, _, rfl, rfl, upd_old n1v5 np, upd_same, szL (by rw [← List.length_append, ov, List.length_map]; omega), fun po npo => ?_⟩
        rw [ov]
        obtain ⟨H6, hH6⟩ : ∃ H6, upd (upd H5 p (.lst (ys.map V.str))) po (.lst (ord.map wV)) = H6 := ⟨_, rfl⟩
        have e56 : Ex H5 H6 := by rw [← hH6]; exact ((Ex.refl _).new np).new npo
        have hpo : H6 po = some (.lst (ord.map wV)) := by rw [← hH6]; exact upd_same
        rw [show upd (upd H5 p (.lst (ys.map V.str))) po (.lst (ord.map wV)) = H6 from hH6]
        have eU6 : Ex HU H6 := (e3.trans e5).trans e56
        have hmd6z := eU6 _ _ hmdU
        walk_at "rd"
        refine ⟨⟨_, sqL hpo⟩, fun D2 nD2 => ?_⟩
        refine comp_it (u0 := fun D => DO P w D []) (walk_list (xs := ord.map wV)) (fun i H' => Hold (Ex H6 H' ∧ ∃ (kvs : List (Wd × V)), H' D2 = some (DO P w D2 kvs) ∧ kvs.map Prod.fst = ord.take i ∧ ∀ k u, (k, u) ∈ kvs → ∃ x p, u = .ref x ∧ p ∣ L ∧ PatAt Z H' x p (LF rows d k)))
          (.of ⟨(Ex.refl _).new nD2, [], upd_same, rfl, fun k u h => by simp at h⟩) (fun i H' _ h => sqL (h.out.1 _ _ hpo)) ?_ ?_
        · rintro i y H7 H8 hi hP ⟨rfl, hy⟩
          obtain ⟨e7, kvs, hD7, kfst, kpat⟩ := hP.out
          obtain ⟨k, hk, rfl⟩ := map_get hy
          have kord := List.mem_of_getElem? hk
          obtain ⟨a, ha⟩ := (omem k).mp kord
          have hla := (mksF.at_ _ ha).2
          dsimp only at hla
          have eU7 := eU6.trans e7
          refine ⟨rfl, ?_⟩
          walk_at "rd"
          refine ⟨md, kvR mk, k, .ref a, rfl, rfl, .inl (eU7 _ _ hmdU), valV_in mksF.nd ha, ?_⟩
          walk_at "rd"
          refine ⟨(a, LF rows d k, N), rfl, ⟨eU7 _ _ hla, by omega⟩, ?_⟩
          rintro v H9 ⟨pp, vs9, ps9, rfl, npp, e9, hpp, hv9, sp9, ok9, ln9⟩
          have e79 : Ex H8 H9 := e9
          walk_at "rd"
          refine fun z dz nz ndz dne => ?_
          refine ⟨(H9, z, dz, L, pp, vs9, ps9), rfl, ⟨nz, ndz, dne, rfl, L1, hl, hpp, hv9, fun y hy => ?_, by omega⟩, ?_⟩
          · obtain ⟨a, z, rfl, q1, q2, q3⟩ := ok9 y hy
            exact pcOf_ok q1 q2 (by omega)
          · rintro v H10 ⟨rfl, e10, r, hr, h10⟩
            refine ⟨rfl, ?_⟩
            have e710 := e79.trans e10
            have hD10 := e710 _ _ hD7
            have kl : kvs.length ≤ 30 := by
              have := congrArg List.length kfst
              rw [List.length_map, List.length_take] at this
              omega
            have knew : k ∉ kvs.map Prod.fst := by
              rw [kfst]
              intro h
              obtain ⟨j, hj, ej⟩ := List.getElem_of_mem h
              rw [List.length_take] at hj
              rw [List.getElem_take] at ej
              have hk' := List.getElem?_eq_some_iff.mp hk
              have := (List.pairwise_iff_getElem.mp ond) j i (by omega) hk'.1 (by omega)
              rw [ej, hk'.2] at this
              exact this rfl
            refine ⟨kvs, k, rfl, hD10, szlt (by omega), .of ⟨(e7.trans e710).mut nD2, kvs ++ [(k, .ref z)], ?_, ?_, ?_⟩⟩
            · rw [upd_same, putK_fresh knew]
              rfl
            · rw [List.map_append, kfst, take_more hk]
              rfl
            · have pn : ∀ {x p M}, PatAt Z H10 x p M → PatAt Z (upd H10 D2 (DO P w D2 (putK kvs k (.ref z)))) x p M := fun h => by
                obtain ⟨dx, t, vs, ps, h1, h2, h3, h4⟩ := h
                have dn : ∀ {a o}, H10 a = some o → DO P w D2 kvs ≠ o → upd H10 D2 (DO P w D2 (putK kvs k (.ref z))) a = some o := fun h1 h2 => upd_off h1 fun e => by
                  subst e
                  rw [hD10] at h1
                  exact h2 (Option.some.inj h1)
                exact ⟨dx, t, vs, ps, dn h1 (by unfold DO; intro h; cases h), dn h2 (by unfold DO; intro h; cases h), paired_map (fun _ _ ⟨p, a, b⟩ => ⟨p, a, dn b (by unfold DO; intro h; cases h)⟩) h3, h4⟩
              intro k2 u hu
              rw [List.mem_append] at hu
              rcases hu with hu | hu
              · obtain ⟨x, p, rfl, hp, hx⟩ := kpat k2 u hu
                exact ⟨x, p, rfl, hp, pn (hx.ex e710)⟩
              · simp at hu
                obtain ⟨rfl, rfl⟩ := hu
                refine ⟨z, r, rfl, hr, pn (h10.congr fun s s0 => ?_)⟩
                have f := fold_rng (h := L) s L1
                rw [sp9]
                have fo : LF rows d k2 (fold L s) ↔ LF rows d k2 s := LF_fold hdv
                exact ⟨fun q => fo.mp q.2.2, fun q => ⟨f.1, by omega, fo.mpr q⟩⟩
        · intro H7 hP
          obtain ⟨e7, kvs, hD7, kfst, kpat⟩ := hP.out
          rw [List.length_map, List.take_length] at kfst
          have kl : kvs.length ≤ 30 := by
            have := congrArg List.length kfst
            rw [List.length_map] at this
            omega
          exact hq _ _ (((e0m.trans e3U).trans eU6).trans e7) ⟨D2, kvs, rfl, hD7, by rw [kfst]; exact ond, kl, fun k => by rw [kfst, omem, kn], kpat⟩)
end
end Ff
end
section
set_option maxRecDepth 100000
set_option maxHeartbeats 4000000
/-! need_sayings, way_to. -/
namespace Ff
open PySem PySem.Spec PyProof.Rows L2
local macro_rules | `(tactic| walk_at "ex") => `(tactic| first
  | exact Ex.refl _
  | with_reducible assumption
  | (refine Ex.new ?_ (by with_reducible assumption); walk_at "ex")
  | (refine Ex.mut ?_ (by walk_at "hn"); walk_at "ex")
  | (refine Ex.trans ?_ (by with_reducible assumption); walk_at "ex"))
local macro_rules | `(tactic| walk_at "hn") => `(tactic| first
  | with_reducible assumption
  | exact Ex.back (by with_reducible assumption) (by with_reducible assumption)
  | exact upd_none (by with_reducible assumption)
  | exact upd_none (upd_none (by with_reducible assumption))
  | exact Ex.back (by with_reducible assumption) (upd_none (by with_reducible assumption))
  | exact Ex.back (by with_reducible assumption) (Ex.back (by with_reducible assumption) (by with_reducible assumption)))
local macro_rules | `(tactic| walk_at "hp") => `(tactic| first
  | with_reducible assumption
  | with_reducible exact upd_same
  | (refine Ex.at (by with_reducible assumption) ?_; walk_at "ex")
  | (refine upd_old ?_ (by with_reducible assumption); walk_at "hp")
  | (refine upd_off ?_ (by with_reducible assumption); walk_at "hp"))
local macro_rules | `(tactic| walk_at "sd") => `(tactic| ((try dsimp only [CMul, CDiv, CPow]); first | exact True.intro | omega | (with_reducible assumption)))
local macro_rules | `(tactic| walk_at "sz") => `(tactic| exact Nat.le_of_ble_eq_true rfl)
local macro_rules | `(tactic| walk_at "is") => `(tactic| first
  | refine ⟨_, _, _, _, _, rfl, .ty _, .base (.int _), kt_int, ?_⟩
  | refine ⟨_, _, _, _, _, rfl, .ty _, .base (.int _), kt_intb, ?_⟩
  | refine ⟨_, _, _, _, _, rfl, .ty _, .base (.bl _), kt_bool, ?_⟩
  | refine ⟨_, _, _, _, _, rfl, .ty _, .base (.str _), kt_str, ?_⟩
  | refine ⟨_, _, _, _, _, rfl, .ty _, .base (.tup (by walk_at "hp")), kt_tup, ?_⟩
  | refine ⟨_, _, _, _, _, rfl, .ty _, .base (.dK (by walk_at "hp")), kt_dict, ?_⟩)
local macro_rules | `(tactic| walk_at "rd1") => `(tactic| first
  | refine ⟨_, rfl, ?_⟩
  | refine ⟨_, _, rfl, rfl, And.intro (by walk_at "sd") ?_⟩
  | refine ⟨_, _, rfl, rfl, ?_⟩
  | refine ⟨rfl, ?_⟩
  | refine ⟨_, _, _, _, rfl, rfl, sqT (by walk_at "hp"), rfl, ?_⟩
  | refine ⟨_, _, _, _, rfl, rfl, sqL (by walk_at "hp"), rfl, ?_⟩
  | refine ⟨_, _, rfl, sqT (by walk_at "hp"), rfl, ?_⟩
  | refine ⟨_, _, _, _, _, rfl, by walk_at "hp", by assumption, by assumption, rfl, ?_⟩
  | refine ⟨.inl ⟨rfl, _, sqL (by walk_at "hp")⟩, ?_⟩
  | refine ⟨_, _, rfl, .inl (sqL (by walk_at "hp")), ?_⟩
  | refine ⟨_, _, rfl, .inr (sqT (by walk_at "hp")), ?_⟩
  | refine ⟨(_, _), rfl, ?_⟩
  | refine ⟨(_, _, _), rfl, ?_⟩
  | refine ⟨(_, _, _, _), rfl, ?_⟩
  | refine ⟨_, _, rfl, ?_⟩
  | refine ⟨_, _, _, rfl, ?_⟩
  | walk_at "is")
local macro_rules | `(tactic| walk_at "rd") => `(tactic| repeat walk_at "rd1")

local macro_rules | `(tactic| walk_at "ib") => `(tactic| refine .inr ⟨_, rfl, ?_⟩)
local macro_rules | `(tactic| walk_at "ii") => `(tactic| refine .inl ⟨_, rfl, ?_⟩)
abbrev Say := PySem.Str × Addr × (Int → Prop)
def syV (sy : List Say) : List (Key × V) := sy.map fun p => ((Sum.inr p.1 : Key), V.ref p.2.1)
structure SayAt (Z : Adr) (L : Int) (H : Hp) (a : Addr) (sy : List Say) : Prop where
  at_ : H a = some (.dK (syV sy))
  nd : (sy.map Prod.fst).Nodup
  ln : sy.length ≤ 30
  pat : ∀ p ∈ sy, WordOk p.1 ∧ ∃ q, q ∣ L ∧ PatAt Z H p.2.1 q p.2.2
theorem syV_in {sy : List Say} (nd : (sy.map Prod.fst).Nodup) {p : Say} (h : p ∈ sy) : valV (syV sy) (Sum.inr p.1) = some (.ref p.2.1) := by
  unfold valV
  cases q : (syV sy).find? fun kv => decide (kv.1 = Sum.inr p.1) with
  | none =>
    have := List.find?_eq_none.mp q (Sum.inr p.1, V.ref p.2.1) (List.mem_map.mpr ⟨p, h, rfl⟩)
    simp at this
  | some kv =>
    have m := List.mem_of_find?_eq_some q
    have e0 := List.find?_some q
    obtain ⟨p', hp', rfl⟩ := List.mem_map.mp m
    simp at e0
    have : p' = p := by
      obtain ⟨i, hi, ei⟩ := List.getElem_of_mem h
      obtain ⟨j, hj, ej⟩ := List.getElem_of_mem hp'
      rcases Nat.lt_trichotomy i j with w | w | w
      · have := List.pairwise_iff_getElem.mp nd i j (by simpa using hi) (by simpa using hj) w
        rw [List.getElem_map, List.getElem_map, ei, ej] at this
        exact absurd e0.symm this
      · subst w
        rw [← ei, ← ej]
      · have := List.pairwise_iff_getElem.mp nd j i (by simpa using hj) (by simpa using hi) w
        rw [List.getElem_map, List.getElem_map, ei, ej] at this
        exact absurd e0 this
    rw [this]
    rfl
theorem syV_none {sy : List Say} {w : PySem.Str} (h : ∀ p ∈ sy, p.1 ≠ w) : valV (syV sy) (Sum.inr w) = none := by
  cases q : valV (syV sy) (Sum.inr w) with
  | none => rfl
  | some v =>
    unfold valV at q
    cases e : (syV sy).find? fun kv => decide (kv.1 = Sum.inr w) with
    | none => rw [e] at q; cases q
    | some kv =>
      have m := List.mem_of_find?_eq_some e
      have e0 := List.find?_some e
      obtain ⟨p', hp', rfl⟩ := List.mem_map.mp m
      simp at e0
      exact absurd e0 (h p' hp')
section
variable {P : Program} {w : World} {K : PySem.W.Frag} {mg : PySem.Str → Option Value} {base : Heap} {Z : Adr}
def sp_need_sayings (Z : Adr) : Sp := mkSp (fun ((a, _) : Addr × Int × List Say) => [.ref a]) (fun (a, L, sy) H => SayAt Z L H a sy) (fun _ H v H' => v = .non ∧ Ex H H')
abbrev s_need_sayings : Stmt := top 62
theorem sc_need_sayings : FnScope ["thing", "word"] ["thing"] (C8.fnScope s_need_sayings) := C8.fnScope_by (by decide +kernel)
theorem c_need_sayings (T : Txt P w K mg base Z) : C8.Cal P w K mg base 2 "need_sayings" (sp_need_sayings Z) [] :=
  calD (k := 1) T.d_need_sayings sc_need_sayings (fun _ _ _ _ _ _ us h => by obtain ⟨_, rfl⟩ := us1 (by exact h); rfl) (fun _ => rfl) (fun cdv f A outer s H0 H Q E a hr pre hq => by
    have S := sc_need_sayings
    obtain ⟨a, L, sy⟩ := a
    obtain ⟨ha, nd, ln, pat⟩ := pre
    have svl : (syV sy).length = sy.length := by unfold syV; rw [List.length_map]
    refine ⟨_, (pss_cons (ps_if (PW.pt (pw_or (pt_not (pt_val (pe_callB (isI (K := K) rfl) (by rfl) T.n_isinstance (by decide +kernel) (pa_cons (pv 0) (pa_cons (pe_bltn (by rfl) T.n_dict (by decide +kernel) (v := .ty "dict") (u := .type "dict") rfl) pa_nil))))) (pw_or1 (pt_not (pt_val (pe_callB (crAll (K := K) rfl rfl) (by rfl) T.n_all (by decide +kernel) (pa_cons (pe_lock (pe_lc (own := [("word", 1)]) rfl S.nd (pi_keys (pv 0)) (blkOk_by (by kernel_rfl)) (fun _ _ _ _ _ => (pg_name (i := 1) S.nd rfl (by first | exact Or.inl rfl | exact Or.inr rfl))) (fun _ _ _ _ _ => pts_nil) (fun _ _ _ _ _ => (C8.pe_c (c_is_word T) hr (by decide) rfl (pa_cons (pv 1) pa_nil))))) pa_nil))))))) (pss_one ps_never) pss_nil)
  (pss_one (ps_for PassesOwn.never rfl (piL (K := K) rfl (pe_callB (call_sortedD rfl) (by rfl) T.n_sorted (by decide +kernel) (pa_cons (pv 0) pa_nil))) (pg_name (i := 1) S.nd rfl (Or.inl rfl)) (pss_one (ps_if (pt_not (pt_val (pe_callB (C8.call_isC T.ins_Pattern) (by rfl) T.n_isinstance (by decide +kernel) (pa_cons (pe_dget (hu_of hr) (pv 0) (pv 1) (fun _ _ => rfl)) (pa_cons (C8.pe_gc rfl T.c_Pattern) pa_nil))))) (pss_one ps_never) pss_nil))))), ?_⟩
    walk_at "rd"
    refine ⟨a, _, ha, trivial, fun od => ?_⟩
    walk_at "rd"
    refine ⟨_, _, rfl, .inl ⟨_, upd_same, fun D nD => ?_⟩⟩
    refine lcE (walk_keys (d := a) (o := od) (kvs := syV sy)) nD (by omega) (fun _ => true) (fun i y _ => y = .bl true) (fun _ r => r) (fun _ r => r) (fun H e => e _ _ upd_same) ?_ ?_
    · rintro i y H4 H5 hi e4 ⟨rfl, k, v, hkv, rfl⟩ S Z hS hZ
      obtain ⟨p, hp, ekv⟩ := map_get hkv
      simp only [Prod.mk.injEq] at ekv
      obtain ⟨rfl, rfl⟩ := ekv
      refine ⟨rfl, ?_⟩
      walk_at "rd"
      refine ⟨(pat p (List.mem_of_getElem? hp)).1, ?_⟩
      rintro v H6 ⟨rfl, e6⟩
      exact hS _ _ e6 rfl rfl
    · intro H4 ys e4 hD got
      have hz := got_fn (v := fun _ => .bl true) got
      subst hz
      refine ⟨e4 _ _ upd_same, ?_⟩
      obtain ⟨H5, hH5⟩ : ∃ H5, upd H4 a (.dK (syV sy)) = H5 := ⟨_, rfl⟩
      have e5 : Ex H H5 := by rw [← hH5]; exact Ex.unlock e4 ha
      have Da : D ≠ a := fun z => by rw [z, upd_same] at nD; cases nD
      have hD5 : H5 D = some (.lst ((List.range (syV sy).length).map fun _ => V.bl true)) := by rw [← hH5]; exact upd_off hD Da
      rw [show upd H4 a (.dK (syV sy)) = H5 from hH5]
      walk_at "rd"
      refine ⟨_, (List.range (syV sy).length).map fun _ => true, rfl, sqL (by rw [hD5, List.map_map]; rfl), ?_⟩
      rw [show (((List.range (syV sy).length).map fun _ => true).all id) = true by simp]
      walk_at "rd"
      have ha5 := e5 _ _ ha
      refine ⟨a, syV sy, sy.map Prod.fst, rfl, .inl ha5, by unfold syV; rw [List.map_map, List.map_map]; rfl, by rw [List.length_map]; omega, fun ys p perm srt np => ?_⟩
      walk_at "rd"
      refine ⟨⟨_, sqL upd_same⟩, ?_⟩
      have e6 := e5.new (o := .lst (ys.map V.str)) np
      refine for_it (walk_list (xs := ys.map V.str)) (fun i σ H' => Hold (Ex (upd H5 p (.lst (ys.map V.str))) H' ∧ ∃ (o : Option V), σ = [some (.ref a), o])) (.of ⟨Ex.refl _, _, rfl⟩) (fun i σ H' _ h => sqL (h.out.1 _ _ upd_same)) ?_ ?_
      · rintro i y σ H7 H8 hi hP ⟨rfl, hy⟩
        obtain ⟨e7, o, rfl⟩ := hP.out
        obtain ⟨z, hz, rfl⟩ := map_get hy
        have zm := perm.mem_iff.mp (List.mem_of_getElem? hz)
        obtain ⟨s, hs, rfl⟩ := List.mem_map.mp zm
        obtain ⟨_, q, _, hpat⟩ := pat s hs
        obtain ⟨_, d1, f1, i1⟩ := hpat.form
        have e07 := e6.trans e7
        walk_at "rd"
        refine ⟨a, .ref s.2.1, rfl, .inl ⟨_, Sum.inr s.1, .inl (e07 _ _ ha), rfl, (syV_in nd hs).symm⟩, ?_⟩
        walk_at "rd"
        refine ⟨_, _, _, rfl, e07 _ _ i1, ?_⟩
        walk_at "rd"
        exact .of ⟨e7, _, rfl⟩
      · intro σ H' hP
        obtain ⟨e7, o, rfl⟩ := hP.out
        exact hq _ _ ⟨rfl, e6.trans e7⟩)
end
end Ff
end
section
set_option maxRecDepth 100000
set_option maxHeartbeats 4000000
/-! way_to. -/
namespace Ff
open PySem PySem.Spec PyProof.Rows L2
local macro_rules | `(tactic| walk_at "ex") => `(tactic| first
  | exact Ex.refl _
  | with_reducible assumption
  | (refine Ex.new ?_ (by with_reducible assumption); walk_at "ex")
  | (refine Ex.mut ?_ (by walk_at "hn"); walk_at "ex")
  | (refine Ex.trans ?_ (by with_reducible assumption); walk_at "ex"))
local macro_rules | `(tactic| walk_at "hn") => `(tactic| first
  | with_reducible assumption
  | exact Ex.back (by with_reducible assumption) (by with_reducible assumption)
  | exact upd_none (by with_reducible assumption)
  | exact upd_none (upd_none (by with_reducible assumption))
  | exact Ex.back (by with_reducible assumption) (upd_none (by with_reducible assumption))
  | exact Ex.back (by with_reducible assumption) (Ex.back (by with_reducible assumption) (by with_reducible assumption)))
local macro_rules | `(tactic| walk_at "hp") => `(tactic| first
  | with_reducible assumption
  | with_reducible exact upd_same
  | (refine Ex.at (by with_reducible assumption) ?_; walk_at "ex")
  | (refine upd_old ?_ (by with_reducible assumption); walk_at "hp")
  | (refine upd_off ?_ (by with_reducible assumption); walk_at "hp"))
local macro_rules | `(tactic| walk_at "sd") => `(tactic| ((try dsimp only [CMul, CDiv, CPow]); first | exact True.intro | omega | (with_reducible assumption)))
local macro_rules | `(tactic| walk_at "sz") => `(tactic| exact Nat.le_of_ble_eq_true rfl)
local macro_rules | `(tactic| walk_at "is") => `(tactic| first
  | refine ⟨_, _, _, _, _, rfl, .ty _, .base (.int _), kt_int, ?_⟩
  | refine ⟨_, _, _, _, _, rfl, .ty _, .base (.int _), kt_intb, ?_⟩
  | refine ⟨_, _, _, _, _, rfl, .ty _, .base (.bl _), kt_bool, ?_⟩
  | refine ⟨_, _, _, _, _, rfl, .ty _, .base (.str _), kt_str, ?_⟩
  | refine ⟨_, _, _, _, _, rfl, .ty _, .base (.tup (by walk_at "hp")), kt_tup, ?_⟩
  | refine ⟨_, _, _, _, _, rfl, .ty _, .base (.dK (by walk_at "hp")), kt_dict, ?_⟩)
local macro_rules | `(tactic| walk_at "rd1") => `(tactic| first
  | refine ⟨_, rfl, ?_⟩
  | refine ⟨_, _, rfl, rfl, And.intro (by walk_at "sd") ?_⟩
  | refine ⟨_, _, rfl, rfl, ?_⟩
  | refine ⟨rfl, ?_⟩
  | refine ⟨_, _, _, _, rfl, rfl, sqT (by walk_at "hp"), rfl, ?_⟩
  | refine ⟨_, _, _, _, rfl, rfl, sqL (by walk_at "hp"), rfl, ?_⟩
  | refine ⟨_, _, rfl, sqT (by walk_at "hp"), rfl, ?_⟩
  | refine ⟨_, _, _, _, _, rfl, by walk_at "hp", by assumption, by assumption, rfl, ?_⟩
  | refine ⟨.inl ⟨rfl, _, sqL (by walk_at "hp")⟩, ?_⟩
  | refine ⟨_, _, rfl, .inl (sqL (by walk_at "hp")), ?_⟩
  | refine ⟨_, _, rfl, .inr (sqT (by walk_at "hp")), ?_⟩
  | refine ⟨(_, _), rfl, ?_⟩
  | refine ⟨(_, _, _), rfl, ?_⟩
  | refine ⟨(_, _, _, _), rfl, ?_⟩
  | refine ⟨_, _, rfl, ?_⟩
  | refine ⟨_, _, _, rfl, ?_⟩
  | walk_at "is")
local macro_rules | `(tactic| walk_at "rd") => `(tactic| repeat walk_at "rd1")

local macro_rules | `(tactic| walk_at "ib") => `(tactic| refine .inr ⟨_, rfl, ?_⟩)
local macro_rules | `(tactic| walk_at "ii") => `(tactic| refine .inl ⟨_, rfl, ?_⟩)
structure WSt (rows : List Row) (s d : Int) (fl : List Int) (a : Nat) : Prop where
  nd : fl.Nodup
  rng : ∀ x ∈ fl, 0 ≤ x ∧ x < (rows.length : Int)
  zero : 0 ∈ fl
  le : a ≤ fl.length
  done : ∀ (j : Nat) x r, j < a → fl[j]? = some x → rows[x.toNat]? = some r → ∀ t, Tg r s d t → t ∈ fl
theorem WSt.all {rows : List Row} {s d : Int} {fl : List Int} (w : WSt rows s d fl fl.length) : ∀ x, RS rows s d x → x ∈ fl := by
  intro x h
  induction h with
  | zero => exact w.zero
  | step _ _ hr ht ih =>
    obtain ⟨j, hj, e⟩ := List.getElem_of_mem ih
    exact w.done j _ _ hj (by rw [List.getElem?_eq_getElem hj, e]) hr _ ht
/-- the ways so far: a list under each row of the line -/
structure WyAt (H : Hp) (lf : Addr) (fl : List Int) (B : Nat) (kvs : List (Key × V)) : Prop where
  ks : kvs.map Prod.fst = fl.map Sum.inl
  vs : ∀ k v, (k, v) ∈ kvs → ∃ u xs, v = .ref u ∧ u ≠ lf ∧ H u = some (.lst xs) ∧ xs.length ≤ B
theorem WyAt.get {H : Hp} {lf : Addr} {fl : List Int} {B : Nat} {kvs : List (Key × V)} (w : WyAt H lf fl B kvs) {t : Int} : (t ∈ fl → ∃ u xs, valV kvs (Sum.inl t) = some (.ref u) ∧ u ≠ lf ∧ H u = some (.lst xs) ∧ xs.length ≤ B) ∧ (t ∉ fl → valV kvs (Sum.inl t) = none) := by
  constructor
  · intro h
    cases q : valV kvs (Sum.inl t) with
    | none =>
      have := valV_none_keys q
      rw [w.ks] at this
      exact absurd (List.mem_map.mpr ⟨t, h, rfl⟩) this
    | some v =>
      unfold valV at q
      cases e : kvs.find? fun kv => decide (kv.1 = Sum.inl t) with
      | none => rw [e] at q; cases q
      | some kv =>
        rw [e] at q
        have m := List.mem_of_find?_eq_some e
        obtain ⟨k, v'⟩ := kv
        cases q
        obtain ⟨u, xs, rfl, b, c, d⟩ := w.vs k v' m
        exact ⟨u, xs, rfl, b, c, d⟩
  · intro h
    cases q : valV kvs (Sum.inl t) with
    | none => rfl
    | some v =>
      unfold valV at q
      cases e : kvs.find? fun kv => decide (kv.1 = Sum.inl t) with
      | none => rw [e] at q; cases q
      | some kv =>
        have m := List.mem_of_find?_eq_some e
        have e0 := List.find?_some e
        simp at e0
        have : kv.1 ∈ kvs.map Prod.fst := List.mem_map.mpr ⟨kv, m, rfl⟩
        rw [w.ks, e0] at this
        obtain ⟨x, hx, ex⟩ := List.mem_map.mp this
        cases ex
        exact absurd hx h
theorem WyAt.ex {H H' : Hp} {lf : Addr} {fl : List Int} {B B' : Nat} {kvs : List (Key × V)} (w : WyAt H lf fl B kvs) (e : ∀ a xs, a ≠ lf → H a = some (.lst xs) → H' a = some (.lst xs)) (hb : B ≤ B') : WyAt H' lf fl B' kvs :=
  ⟨w.ks, fun k v h => by obtain ⟨u, xs, a, b, c, d⟩ := w.vs k v h; exact ⟨u, xs, a, b, e _ _ b c, by omega⟩⟩
theorem Tg_in {rows : List Row} (ro : RowsOk rows) {r : Row} (hr : r ∈ rows) {s d t : Int} (h : Tg r s d t) : 0 ≤ t ∧ t < (rows.length : Int) := by
  have ok := ro.2.2 r hr
  cases ok with
  | tell _ => exact h.elim
  | look _ _ _ _ ht =>
    obtain ⟨x, _, _, _, _, e⟩ := h
    exact ht t (List.mem_of_getElem? e)
section
variable {P : Program} {w : World} {K : PySem.W.Frag} {mg : PySem.Str → Option Value} {base : Heap} {Z : Adr}
def sp_way_to (Z : Adr) : Sp := mkSp (fun ((x, s, d, g, _) : Addr × Int × Int × Int × List Row × List Int) => [.ref x, .int s, .int d, .int g]) (fun (x, s, d, g, rows, hs) H => ProgAt Z H x rows hs ∧ RS rows s d g)
  (fun _ H v H' => ∃ p xs, v = .ref p ∧ Ex H H' ∧ H' p = some (.lst xs))
abbrev s_way_to : Stmt := top 79
theorem sc_way_to : FnScope ["program", "spot", "doubt", "goal", "line", "ways", "at", "row", "reading", "target"] ["program", "spot", "doubt", "goal"] (C8.fnScope s_way_to) := C8.fnScope_by (by decide +kernel)
theorem c_way_to (T : Txt P w K mg base Z) : C8.Cal P w K mg base 4 "way_to" (sp_way_to Z) [] :=
  calD (k := 3) T.d_way_to sc_way_to (fun _ _ _ _ _ _ us h => by obtain ⟨_, _, _, _, rfl⟩ := us4 (by exact h); rfl) (fun _ => rfl) (fun cdv f A outer s H0 H Q E a hr pre hq => by
    have S := sc_way_to
    obtain ⟨x, s, d, g, rows, hs⟩ := a
    obtain ⟨hx, hg⟩ := pre
    obtain ⟨dx, tt, ee, vs0, i1, ht, hv0, he, hh, ro⟩ := id hx
    have r1 := ro.1
    have r2 := ro.2.1
    refine ⟨_, (pss_cons (ps_par3 (i := 4) (j := 5) (l := 6) rfl S.nd rfl rfl rfl (by decide) (by decide) (by decide) rfl rfl rfl (pa_cons (pe_lst (pa_cons pe_int pa_nil)) (pa_cons (pe_disp (pps_cons pe_int (pe_lst pa_nil) pps_nil) (by rfl) (by rfl) (fun z => by cases z) (by decide)) (pa_cons pe_int pa_nil))) (by rfl))
  (pss_cons (ps_while PassesOwn.never (pt_cmp (pc_dnotin (hu_of hr) (pv 3) (pv 5))) (pss_cons (ps_set (i := 7) S.nd rfl (Or.inl rfl) (pe_ix (ixL (K := K) rfl) (pv 4) (pv 6) (fun _ _ => rfl)))
  (C8.pss_cut (ps_if (pt_cmpR op_eq (pe_ix (ixT (K := K) rfl) (pe_ix (ixT (K := K) rfl) (pe_pr (c_Program_rows T) hr (by decide) (pv 0)) (pv 7) (fun _ _ => rfl)) pe_int (fun _ _ => rfl)) pe_str (nomark _)) (pss_one (ps_for PassesOwn.never rfl (piL (K := K) rfl (C8.pe_c (c_ways_at T) hr (by decide) rfl (pa_cons (pe_ix (ixT (K := K) rfl) (pe_pr (c_Program_rows T) hr (by decide) (pv 0)) (pv 7) (fun _ _ => rfl)) (pa_cons (pv 1) (pa_cons (pv 2) pa_nil))))) (pgT (K := K) (n := 2) rfl (by rfl) (pgs_cons (pg_name (i := 8) S.nd rfl (Or.inl rfl)) (pgs_cons (pg_name (i := 9) S.nd rfl (Or.inl rfl)) pgs_nil))) (pss_one (ps_if (pt_cmp (pc_dnotin (hu_of hr) (pv 9) (pv 5))) (pss_cons (ps_dput (hu_of hr) (pv 5) (pv 9) (pe_op op_cat (pe_dget (hu_of hr) (pv 5) (pv 7) (fun _ _ => rfl)) (pe_lst (pa_cons (C8.pe_c (c_number_at T) hr (by decide) rfl (pa_cons (pv 8) pa_nil)) pa_nil))) rfl)
  (pss_one (ps_expr (pe_bm PySem.F.plainAttrs_list PySem.F.slot_list_append PySem.F.type_list_append mt_append (pv 4) (pa_cons (pv 9) pa_nil))))) pss_nil)))) pss_nil)
  (pss_one (ps_aug (i := 6) S.nd rfl (Or.inl rfl) pe_int ip_add)))))
  (pss_one (ps_ret (pe_dget (hu_of hr) (pv 5) (pv 3) (fun _ _ => rfl)))))), ?_⟩
    walk_at "rd"
    refine ⟨by walk_at "sz", fun f nf => ?_⟩
    walk_at "rd"
    refine fun k nk => ?_
    walk_at "rd"
    refine ⟨by walk_at "sz", fun u0 nu0 => ?_⟩
    have k0 := upd_old (o' := .lst []) (upd_same (H := upd H f (.lst [V.int 0])) (a := k) (o := .dK [])) nu0
    refine ⟨k0, [(.inl 0, .ref u0)], rfl, by walk_at "sz", ?_⟩
    walk_at "rd"
    have fk : f ≠ k := fun z => by rw [← z, upd_same] at nk; cases nk
    have kn : H k = none := upd_none nk
    have u0f : u0 ≠ f := (ne_of_none (upd_old (o' := .dK []) (upd_same (H := H) (a := f) (o := .lst [V.int 0])) nk) nu0).symm
    have u0k : u0 ≠ k := fun z => by rw [z, upd_same] at nu0; cases nu0
    refine ⟨fun m σ H' => ∃ (fl : List Int) (a : Nat) (kvs : List (Key × V)) (o7 o8 o9 : Option V), σ = [some (.ref x), some (.int s), some (.int d), some (.int g), some (.ref f), some (.ref k), some (.int (a : Int)), o7, o8, o9] ∧ Ex H H' ∧ H' f = some (.lst (fl.map .int)) ∧ H' k = some (.dK kvs) ∧ WSt rows s d fl a ∧ WyAt H' f fl a kvs ∧ m = rows.length + 1 - a,
      ⟨_, [0], 0, [(.inl 0, .ref u0)], _, _, _, rfl, ((((Ex.refl _).new nf).new nk).new nu0).mut kn, upd_off (upd_off (upd_off upd_same fk) u0f.symm) fk, upd_same, ⟨by simp, by simp; omega, by simp, by simp, fun j x r h => by omega⟩, ⟨rfl, fun k' v h => by
        simp at h
        obtain ⟨rfl, rfl⟩ := h
        exact ⟨u0, [], rfl, u0f, upd_off upd_same u0k, by simp⟩⟩, rfl⟩, ?_⟩
    rintro m σ H1 ⟨fl, a, kvs, o7, o8, o9, rfl, e1, hf, hk, st, wy, rfl⟩
    have fll := nodup_le rows.length fl st.nd st.rng
    have kvl : kvs.length = fl.length := by
      have := congrArg List.length wy.ks
      rw [List.length_map, List.length_map] at this
      exact this
    walk_at "rd"
    refine ⟨k, _, rfl, .inl ⟨_, Sum.inl g, .inl hk, rfl, rfl⟩, ?_⟩
    walk_at "rd"
    by_cases gq : g ∈ fl
    · obtain ⟨u, xs, hu, uf, hxs, _⟩ := wy.get.1 gq
      rw [hu]
      walk_at "rd"
      refine ⟨k, .ref u, rfl, .inl ⟨_, Sum.inl g, .inl hk, rfl, hu.symm⟩, ?_⟩
      exact hq _ _ ⟨u, xs, rfl, e1, hxs⟩
    · rw [wy.get.2 gq]
      have za : a < fl.length := by
        have := st.le
        by_cases q : a = fl.length
        · subst q
          exact absurd (st.all g hg) gq
        · omega
      obtain ⟨y, hy⟩ : ∃ y, fl[a]? = some y := ⟨_, List.getElem?_eq_getElem za⟩
      have ym := List.mem_of_getElem? hy
      have yr := st.rng y ym
      obtain ⟨row, hrow⟩ : ∃ row, rows[y.toNat]? = some row := ⟨_, List.getElem?_eq_getElem (by omega)⟩
      have rowm := List.mem_of_getElem? hrow
      have ay : atI (fl.map V.int) (a : Int) = some (.int y) := atI_nat (by rw [List.getElem?_map, hy]; rfl)
      refine ⟨fun σ2 H2 => Hold (∃ (fl : List Int) (kvs : List (Key × V)) (o7 o8 o9 : Option V), σ2 = [some (.ref x), some (.int s), some (.int d), some (.int g), some (.ref f), some (.ref k), some (.int ((a : Int) + 1)), o7, o8, o9] ∧ Ex H H2 ∧ H2 f = some (.lst (fl.map .int)) ∧ H2 k = some (.dK kvs) ∧ WSt rows s d fl (a + 1) ∧ WyAt H2 f fl (a + 1) kvs), ?_, ?_⟩
      · intro σ2 H2 hP
        obtain ⟨fl2, kvs2, a7, a8, a9, rfl, e2, hf2, hk2, st2, wy2⟩ := hP.out
        exact ⟨rows.length + 1 - (a + 1), by omega, fl2, a + 1, kvs2, a7, a8, a9, rfl, e2, hf2, hk2, st2, wy2, rfl⟩
      · walk_at "rd"
        refine ⟨_, _, _, _, rfl, rfl, sqL hf, ay, ?_⟩
        walk_at "rd"
        refine ⟨fun σ2 H2 => Hold (∃ (fl : List Int) (kvs : List (Key × V)) (o7 o8 o9 : Option V), σ2 = [some (.ref x), some (.int s), some (.int d), some (.int g), some (.ref f), some (.ref k), some (.int (a : Int)), o7, o8, o9] ∧ Ex H H2 ∧ H2 f = some (.lst (fl.map .int)) ∧ H2 k = some (.dK kvs) ∧ WSt rows s d fl (a + 1) ∧ WyAt H2 f fl (a + 1) kvs), ?_, ?_⟩
        · walk_at "rd"
          refine ⟨_, _, _, rfl, e1 _ _ i1, (x, rows, hs), rfl, hx.ex e1, ?_⟩
          rintro v H2 ⟨rt, rvs, rfl, rfl, hrt, hrv⟩
          have rvl := paired_len hrv
          obtain ⟨rv, hrvk⟩ : ∃ v, rvs[y.toNat]? = some v := ⟨_, List.getElem?_eq_getElem (by omega)⟩
          have rvx := paired_get hrv hrvk hrow
          walk_at "rd"
          refine ⟨_, _, _, _, rfl, rfl, sqT hrt, atI_nat' yr.1 hrvk, ?_⟩
          cases row with
          | tell w0 =>
            obtain ⟨rp, rfl, hrp⟩ := rvx
            walk_at "rd"
            refine .of ⟨fl, kvs, _, _, _, rfl, e1, hf, hk, ⟨st.nd, st.rng, st.zero, by omega, fun j z r hj hz hr t ht => ?_⟩, wy.ex (fun a xs _ h => h) (by omega)⟩
            by_cases q : j < a
            · exact st.done j z r q hz hr t ht
            · have : j = a := by omega
              subst this
              rw [hy] at hz
              cases hz
              rw [hrow] at hr
              cases hr
              exact ht.elim
          | look h es ts =>
            have ok := ro.2.2 _ rowm
            cases ok with
            | look h1 h2 en l htr =>
              obtain ⟨rp, e1', t1', rfl, hrp, _, _⟩ := rvx
              walk_at "rd"
              refine ⟨_, _, _, rfl, e1 _ _ i1, (x, rows, hs), rfl, hx.ex e1, ?_⟩
              rintro v H3 ⟨rt2, rvs2, rfl, rfl, hrt2, hrv2⟩
              have rvl2 := paired_len hrv2
              obtain ⟨rv2, hrvk2⟩ : ∃ v, rvs2[y.toNat]? = some v := ⟨_, List.getElem?_eq_getElem (by omega)⟩
              have rvx2 := paired_get hrv2 hrvk2 hrow
              have rvx3 := rvx2
              obtain ⟨rp2, _, _, rfl, _, _, _⟩ := rvx2
              walk_at "rd"
              refine ⟨_, _, _, _, rfl, rfl, sqT hrt2, atI_nat' yr.1 hrvk2, ?_⟩
              walk_at "rd"
              refine ⟨(rp2, s, d, h, es, ts), rfl, ⟨rvx3, h1, h2, en, l⟩, ?_⟩
              rintro v H4 ⟨q, wvs, ws, rfl, nq, e4, hq4, hws, hTg, wpos, wln⟩
              have wl := paired_len hws
              walk_at "rd"
              refine ⟨⟨_, sqL hq4⟩, ?_⟩
              have hf4 := e4 _ _ hf
              have hk4 := e4 _ _ hk
              have qf : q ≠ f := (ne_of_none hf nq).symm
              -- what stands as in H4 but for f and k
              refine for_it (walk_list (xs := wvs)) (fun i σ H' => Hold (Ex H H' ∧ (∀ b o, b ≠ f → b ≠ k → H4 b = some o → H' b = some o) ∧ ∃ (more : List Int) (kvs : List (Key × V)) (o8 o9 : Option V), σ = [some (.ref x), some (.int s), some (.int d), some (.int g), some (.ref f), some (.ref k), some (.int (a : Int)), some (.int y), o8, o9] ∧ H' f = some (.lst ((fl ++ more).map .int)) ∧ H' k = some (.dK kvs) ∧ (fl ++ more).Nodup ∧ (∀ t ∈ more, 0 ≤ t ∧ t < (rows.length : Int)) ∧ (∀ c ∈ ws.take i, c.2 ∈ fl ++ more) ∧ WyAt H' f (fl ++ more) (a + 1) kvs ∧ ∃ u xs, valV kvs (Sum.inl y) = some (.ref u) ∧ u ≠ f ∧ H' u = some (.lst xs) ∧ xs.length ≤ a))
                (.of ⟨e1.trans e4, fun _ _ _ _ h => h, [], kvs, _, _, rfl, by rw [List.append_nil]; exact hf4, hk4, by rw [List.append_nil]; exact st.nd, by simp, by simp, by rw [List.append_nil]; exact wy.ex (fun a xs _ h => e4 _ _ h) (by omega), by
                  obtain ⟨u, xs, b1, b2, b3, b4⟩ := wy.get.1 ym
                  exact ⟨u, xs, b1, b2, e4 _ _ b3, b4⟩⟩)
                (fun i σ H' _ h => sqL (h.out.2.1 _ _ qf (ne_of hq4 hk4 (fun z => nomatch z)) hq4)) ?_ ?_
              · rintro i vv σ H5 H6 hi hP ⟨rfl, hvv⟩
                obtain ⟨e5, off, more, kvs5, o8, o9, rfl, hf5, hk5, nd5, mr, tk, wy5, hyv⟩ := hP.out
                clear hP
                obtain ⟨c, hc⟩ : ∃ c, ws[i]? = some c := ⟨_, List.getElem?_eq_getElem (by omega)⟩
                obtain ⟨cu, rfl, hcu⟩ := paired_get hws hc hvv
                have cm := List.mem_of_getElem? hc
                have cpos := wpos c cm
                have cin : 0 ≤ c.2 ∧ c.2 < (rows.length : Int) := Tg_in ro rowm ((hTg c.2).mp ⟨c.1, cm⟩)
                have cuf : cu ≠ f := ne_of hcu hf4 (fun z => nomatch z)
                have cuk : cu ≠ k := ne_of hcu hk4 (fun z => nomatch z)
                have hcu5 := off _ _ cuf cuk hcu
                have fl5 := nodup_le rows.length (fl ++ more) nd5 fun z hz => by
                  rw [List.mem_append] at hz
                  rcases hz with hz | hz
                  · exact st.rng z hz
                  · exact mr z hz
                have kvl5 : kvs5.length = (fl ++ more).length := by
                  have := congrArg List.length wy5.ks
                  rw [List.length_map, List.length_map] at this
                  exact this
                walk_at "rd"
                refine ⟨k, _, rfl, .inl ⟨_, Sum.inl c.2, .inl hk5, rfl, rfl⟩, ?_⟩
                walk_at "rd"
                by_cases q : c.2 ∈ fl ++ more
                · obtain ⟨u, xs, hu, _⟩ := wy5.get.1 q
                  rw [hu]
                  walk_at "rd"
                  refine .of ⟨e5, off, more, kvs5, _, _, rfl, hf5, hk5, nd5, mr, fun c' hc' => ?_, wy5, hyv⟩
                  rw [take_more hc, List.mem_append] at hc'
                  rcases hc' with hc' | hc'
                  · exact tk c' hc'
                  · simp at hc'
                    rw [hc']
                    exact q
                · rw [wy5.get.2 q]
                  obtain ⟨u, xs, hu, uf, hxs, xl⟩ := hyv
                  walk_at "rd"
                  refine ⟨k, .ref u, rfl, .inl ⟨_, Sum.inl y, .inl hk5, rfl, hu.symm⟩, ?_⟩
                  walk_at "rd"
                  refine ⟨cpos, ?_⟩
                  rintro v H7 ⟨np, rfl, e7, _, _⟩
                  walk_at "rd"
                  refine ⟨by walk_at "sz", fun nl nnl => ?_⟩
                  refine ⟨_, _, _, _, rfl, rfl, upd_old (e7 _ _ hxs) nnl, upd_same, szL (by show xs.length + 1 ≤ _; omega), fun w1 nw1 => ?_⟩
                  have e8 := (e7.new (o := .lst [V.ref np]) nnl).new (o := .lst (xs ++ [V.ref np])) nw1
                  have hk8 := e8 _ _ hk5
                  have hf8 := e8 _ _ hf5
                  have w1f : w1 ≠ f := (ne_of_none (upd_old (o' := .lst [V.ref np]) (e7 _ _ hf5) nnl) nw1).symm
                  have w1k : w1 ≠ k := (ne_of_none (upd_old (o' := .lst [V.ref np]) (e7 _ _ hk5) nnl) nw1).symm
                  walk_at "rd"
                  refine ⟨k, _, rfl, .inl ⟨_, Sum.inl c.2, hk8, rfl, szlt (by omega), rfl⟩, ?_⟩
                  walk_at "rd"
                  refine ⟨_, _, _, rfl, rfl, upd_off hf8 fk, szlt (by rw [List.length_map]; omega), ?_⟩
                  have hn : H f = none := nf
                  have pk : putK kvs5 (Sum.inl c.2) (.ref w1) = kvs5 ++ [(Sum.inl c.2, .ref w1)] := putK_fresh (valV_none_keys (wy5.get.2 q))
                  have keep : ∀ b o, b ≠ f → b ≠ k → H6 b = some o → upd (upd (upd (upd H7 nl (.lst [V.ref np])) w1 (.lst (xs ++ [V.ref np]))) k (.dK (putK kvs5 (Sum.inl c.2) (.ref w1)))) f (.lst ((fl ++ more).map V.int ++ [V.int c.2])) b = some o := fun b o n1 n2 h => upd_off (upd_off (e8 _ _ h) n2) n1
                  refine .of ⟨((e5.trans e8).mut kn).mut hn, fun b o n1 n2 h => keep b o n1 n2 (off b o n1 n2 h), more ++ [c.2], kvs5 ++ [(Sum.inl c.2, .ref w1)], _, _, rfl, ?_, ?_, ?_, fun t ht => ?_, fun c' hc' => ?_, ⟨?_, fun k' v' h' => ?_⟩, u, xs, ?_, uf, keep _ _ uf (ne_of hxs hk5 (fun z => nomatch z)) hxs, xl⟩
                  · rw [upd_same, ← List.append_assoc, List.map_append (l₂ := [c.2])]
                    rfl
                  · rw [upd_ne fk.symm, upd_same, pk]
                  · rw [← List.append_assoc, List.nodup_append]
                    exact ⟨nd5, by simp, fun x hx y hy => by simp at hy; subst hy; intro h; subst h; exact q hx⟩
                  · rw [List.mem_append] at ht
                    rcases ht with ht | ht
                    · exact mr t ht
                    · simp at ht
                      rw [ht]
                      exact cin
                  · rw [take_more hc, List.mem_append] at hc'
                    rw [← List.append_assoc, List.mem_append]
                    rcases hc' with hc' | hc'
                    · exact .inl (tk c' hc')
                    · simp at hc'
                      rw [hc']
                      exact .inr (by simp)
                  · rw [List.map_append, wy5.ks, ← List.append_assoc, List.map_append (l₂ := [c.2])]
                    rfl
                  · rw [List.mem_append] at h'
                    rcases h' with h' | h'
                    · obtain ⟨u', xs', rfl, b1, b2, b3⟩ := wy5.vs k' v' h'
                      exact ⟨u', xs', rfl, b1, keep _ _ b1 (ne_of b2 hk5 (fun z => nomatch z)) b2, b3⟩
                    · simp at h'
                      obtain ⟨rfl, rfl⟩ := h'
                      refine ⟨w1, _, rfl, w1f, upd_off (upd_off upd_same w1k) w1f, ?_⟩
                      rw [List.length_append]
                      show xs.length + 1 ≤ a + 1
                      omega
                  · have yc : (Sum.inl y : Key) ≠ Sum.inl c.2 := fun e => by
                      cases e
                      exact q (List.mem_append_left _ ym)
                    rw [valV_app (wy5.get.2 q), if_neg yc]
                    exact hu
              · intro σ6 H6 hP
                obtain ⟨e5, off, more, kvs5, o8, o9, rfl, hf5, hk5, nd5, mr, tk, wy5, hyv⟩ := hP.out
                rw [← wl, List.take_length] at tk
                refine .of ⟨fl ++ more, kvs5, _, _, _, rfl, e5, hf5, hk5, ⟨nd5, fun z hz => ?_, List.mem_append_left _ st.zero, by rw [List.length_append]; omega, fun j z r hj hz hr t ht => ?_⟩, wy5⟩
                · rw [List.mem_append] at hz
                  rcases hz with hz | hz
                  · exact st.rng z hz
                  · exact mr z hz
                · rw [List.getElem?_append_left (by omega)] at hz
                  by_cases q : j < a
                  · exact List.mem_append_left _ (st.done j z r q hz hr t ht)
                  · have : j = a := by omega
                    subst this
                    rw [hy] at hz
                    cases hz
                    rw [hrow] at hr
                    cases hr
                    obtain ⟨r', h'⟩ := (hTg t).mpr ht
                    exact tk _ h'
        · intro σ2 H2 hP
          obtain ⟨fl2, kvs2, a7, a8, a9, rfl, e2, hf2, hk2, st2, wy2⟩ := hP.out
          walk_at "rd"
          exact .of ⟨fl2, kvs2, _, _, _, rfl, e2, hf2, hk2, st2, wy2⟩)
end
end Ff
end
section
set_option maxRecDepth 100000
set_option maxHeartbeats 4000000
/-! ring_from. -/
namespace Ff
open PySem PySem.Spec PyProof.Rows L2
local macro_rules | `(tactic| walk_at "ex") => `(tactic| first
  | exact Ex.refl _
  | with_reducible assumption
  | (refine Ex.new ?_ (by with_reducible assumption); walk_at "ex")
  | (refine Ex.mut ?_ (by walk_at "hn"); walk_at "ex")
  | (refine Ex.trans ?_ (by with_reducible assumption); walk_at "ex"))
local macro_rules | `(tactic| walk_at "hn") => `(tactic| first
  | with_reducible assumption
  | exact Ex.back (by with_reducible assumption) (by with_reducible assumption)
  | exact upd_none (by with_reducible assumption)
  | exact upd_none (upd_none (by with_reducible assumption))
  | exact Ex.back (by with_reducible assumption) (upd_none (by with_reducible assumption))
  | exact Ex.back (by with_reducible assumption) (Ex.back (by with_reducible assumption) (by with_reducible assumption)))
local macro_rules | `(tactic| walk_at "hp") => `(tactic| first
  | with_reducible assumption
  | with_reducible exact upd_same
  | (refine Ex.at (by with_reducible assumption) ?_; walk_at "ex")
  | (refine upd_old ?_ (by with_reducible assumption); walk_at "hp")
  | (refine upd_off ?_ (by with_reducible assumption); walk_at "hp"))
local macro_rules | `(tactic| walk_at "sd") => `(tactic| ((try dsimp only [CMul, CDiv, CPow]); first | exact True.intro | omega | (with_reducible assumption)))
local macro_rules | `(tactic| walk_at "sz") => `(tactic| exact Nat.le_of_ble_eq_true rfl)
local macro_rules | `(tactic| walk_at "is") => `(tactic| first
  | refine ⟨_, _, _, _, _, rfl, .ty _, .base (.int _), kt_int, ?_⟩
  | refine ⟨_, _, _, _, _, rfl, .ty _, .base (.int _), kt_intb, ?_⟩
  | refine ⟨_, _, _, _, _, rfl, .ty _, .base (.bl _), kt_bool, ?_⟩
  | refine ⟨_, _, _, _, _, rfl, .ty _, .base (.str _), kt_str, ?_⟩
  | refine ⟨_, _, _, _, _, rfl, .ty _, .base (.tup (by walk_at "hp")), kt_tup, ?_⟩
  | refine ⟨_, _, _, _, _, rfl, .ty _, .base (.dK (by walk_at "hp")), kt_dict, ?_⟩)
local macro_rules | `(tactic| walk_at "rd1") => `(tactic| first
  | refine ⟨_, rfl, ?_⟩
  | refine ⟨_, _, rfl, rfl, And.intro (by walk_at "sd") ?_⟩
  | refine ⟨_, _, rfl, rfl, ?_⟩
  | refine ⟨rfl, ?_⟩
  | refine ⟨_, _, _, _, rfl, rfl, sqT (by walk_at "hp"), rfl, ?_⟩
  | refine ⟨_, _, _, _, rfl, rfl, sqL (by walk_at "hp"), rfl, ?_⟩
  | refine ⟨_, _, rfl, sqT (by walk_at "hp"), rfl, ?_⟩
  | refine ⟨_, _, _, _, _, rfl, by walk_at "hp", by assumption, by assumption, rfl, ?_⟩
  | refine ⟨.inl ⟨rfl, _, sqL (by walk_at "hp")⟩, ?_⟩
  | refine ⟨_, _, rfl, .inl (sqL (by walk_at "hp")), ?_⟩
  | refine ⟨_, _, rfl, .inr (sqT (by walk_at "hp")), ?_⟩
  | refine ⟨(_, _), rfl, ?_⟩
  | refine ⟨(_, _, _), rfl, ?_⟩
  | refine ⟨(_, _, _, _), rfl, ?_⟩
  | refine ⟨_, _, rfl, ?_⟩
  | refine ⟨_, _, _, rfl, ?_⟩
  | walk_at "is")
local macro_rules | `(tactic| walk_at "rd") => `(tactic| repeat walk_at "rd1")

local macro_rules | `(tactic| walk_at "ib") => `(tactic| refine .inr ⟨_, rfl, ?_⟩)
local macro_rules | `(tactic| walk_at "ii") => `(tactic| refine .inl ⟨_, rfl, ?_⟩)
theorem first_at : ∀ {l : List Int} {a : Int}, a ∈ l → ∃ j : Nat, l[j]? = some a ∧ ∀ (m : Nat) b, m < j → l[m]? = some b → b ≠ a
  | [], a, h => by simp at h
  | x :: l, a, h => by
    by_cases q : x = a
    · exact ⟨0, by rw [q]; rfl, fun m b h => by omega⟩
    · rw [List.mem_cons] at h
      obtain ⟨j, h1, h2⟩ := first_at (h.resolve_left fun e => q e.symm)
      refine ⟨j + 1, h1, fun m b hm hb => ?_⟩
      cases m with
      | zero =>
        simp at hb
        rw [← hb]
        exact q
      | succ m => exact h2 m b (by omega) hb
section
variable {P : Program} {w : World} {K : PySem.W.Frag} {mg : PySem.Str → Option Value} {base : Heap} {Z : Adr}
def sp_ring_from (Z : Adr) : Sp := mkSp (fun ((x, s, d, r, _) : Addr × Int × Int × Addr × List Int × List Row × List Int) => [.ref x, .int s, .int d, .ref r])
  (fun (x, s, d, r, l, rows, hs) H => ProgAt Z H x rows hs ∧ H r = some (.lst (l.map .int)) ∧ l ≠ [] ∧ l.length ≤ 10000 ∧ ∀ k ∈ l, 0 ≤ k ∧ ∃ row t, rows[k.toNat]? = some row ∧ Tg row s d t ∧ t ∈ l)
  (fun (_, _, _, _, l, _, _) H v H' => ∃ t p z ys, v = .ref t ∧ Ex H H' ∧ H' t = some (.tup [.int z, .ref p]) ∧ z ∈ l ∧ H' p = some (.lst ys))
abbrev s_ring_from : Stmt := top 80
theorem sc_ring_from : FnScope ["program", "spot", "doubt", "rows", "row", "passed", "readings", "reading", "target", "way"] ["program", "spot", "doubt", "rows"] (C8.fnScope s_ring_from) := C8.fnScope_by (by decide +kernel)
theorem c_ring_from (T : Txt P w K mg base Z) : C8.Cal P w K mg base 4 "ring_from" (sp_ring_from Z) [] :=
  calD (k := 3) T.d_ring_from sc_ring_from (fun _ _ _ _ _ _ us h => by obtain ⟨_, _, _, _, rfl⟩ := us4 (by exact h); rfl) (fun _ => rfl) (fun cdv f A outer s H0 H Q E a hr pre hq => by
    have S := sc_ring_from
    obtain ⟨x, s, d, r, l, rows, hs⟩ := a
    obtain ⟨hx, hr0, lne, ll, hcl⟩ := pre
    obtain ⟨dx, tt, ee, vs0, i1, ht, hv0, he, hh, ro⟩ := id hx
    obtain ⟨z0, hz0⟩ : ∃ z, l[0]? = some z := by
      cases l with
      | nil => exact absurd rfl lne
      | cons a l => exact ⟨a, rfl⟩
    refine ⟨_, (pss_cons (ps_par3 (i := 4) (j := 5) (l := 6) rfl S.nd rfl rfl rfl (by decide) (by decide) (by decide) rfl rfl rfl (pa_cons (pe_ix (ixL (K := K) rfl) (pv 3) pe_int (fun _ _ => rfl)) (pa_cons (pe_lst pa_nil) (pa_cons (pe_lst pa_nil) pa_nil))) (by rfl))
  (pss_cons (ps_while PassesOwn.never (pt_cmpR (niS (K := K) rfl) (pv 4) (pv 5) (by rfl)) (pss_cons (ps_asg (pe_ix (ixL (K := K) rfl) (pe_lc (own := [("way", 9)]) rfl S.nd (piL (K := K) rfl (C8.pe_c (c_ways_at T) hr (by decide) rfl (pa_cons (pe_ix (ixT (K := K) rfl) (pe_pr (c_Program_rows T) hr (by decide) (pv 0)) (pv 4) (fun _ _ => rfl)) (pa_cons (pv 1) (pa_cons (pv 2) pa_nil))))) (blkOk_by (by kernel_rfl)) (fun _ _ _ _ _ => (pg_name (i := 9) S.nd rfl (by first | exact Or.inl rfl | exact Or.inr rfl))) (fun _ _ _ _ _ => (pts_one (pt_cmpR (inS (K := K) rfl) (pe_ix (ixT (K := K) rfl) (pv 9) pe_int (fun _ _ => rfl)) (pv 3) (by rfl)))) (fun _ _ _ _ _ => (pv 9))) pe_int (fun _ _ => rfl)) (pgT (K := K) (n := 2) rfl (by rfl) (pgs_cons (pg_name (i := 7) S.nd rfl (Or.inl rfl)) (pgs_cons (pg_name (i := 8) S.nd rfl (Or.inl rfl)) pgs_nil))))
  (pss_cons (ps_expr (pe_bm PySem.F.plainAttrs_list PySem.F.slot_list_append PySem.F.type_list_append mt_append (pv 5) (pa_cons (pv 4) pa_nil)))
  (pss_cons (ps_expr (pe_bm PySem.F.plainAttrs_list PySem.F.slot_list_append PySem.F.type_list_append mt_append (pv 6) (pa_cons (C8.pe_c (c_number_at T) hr (by decide) rfl (pa_cons (pv 7) pa_nil)) pa_nil)))
  (pss_one (ps_set (i := 4) S.nd rfl (Or.inl rfl) (pv 8)))))))
  (pss_one (ps_ret (pe_tup (pa_cons (pv 4) (pa_cons (pe_slice (slL (K := K) rfl) (pv 6) (po_some (pe_bm PySem.F.plainAttrs_list PySem.F.slot_list_index PySem.F.type_list_index mt_index (pv 5) (pa_cons (pv 4) pa_nil))) po_none) pa_nil))))))), ?_⟩
    walk_at "rd"
    refine ⟨_, _, _, _, rfl, rfl, sqL hr0, atI_nat (j := 0) (by rw [List.getElem?_map, hz0]; rfl), ?_⟩
    walk_at "rd"
    refine ⟨by walk_at "sz", fun pf npf => ?_⟩
    walk_at "rd"
    refine ⟨by walk_at "sz", fun rf nrf => ?_⟩
    walk_at "rd"
    have pr : pf ≠ rf := fun z => by rw [← z, upd_same] at nrf; cases nrf
    have nrH : H rf = none := upd_none nrf
    refine ⟨fun m σ H' => ∃ (row : Int) (pl : List Int) (rd : List V) (o7 o8 o9 : Option V), σ = [some (.ref x), some (.int s), some (.int d), some (.ref r), some (.int row), some (.ref pf), some (.ref rf), o7, o8, o9] ∧ Ex H H' ∧ H' pf = some (.lst (pl.map .int)) ∧ H' rf = some (.lst rd) ∧ rd.length = pl.length ∧ pl.Nodup ∧ (∀ z ∈ pl, z ∈ l) ∧ row ∈ l ∧ m = l.length + 1 - pl.length,
      ⟨_, z0, [], [], _, _, _, rfl, ((Ex.refl _).new npf).new nrf, upd_off upd_same pr, upd_same, rfl, by simp, by simp, List.mem_of_getElem? hz0, rfl⟩, ?_⟩
    rintro m σ H1 ⟨row, pl, rd, o7, o8, o9, rfl, e1, hpf, hrf, rdl, nd, sub, rl, rfl⟩
    have pll := nodup_sub pl l nd sub
    walk_at "rd"
    refine ⟨flat_ints, ?_⟩
    rw [if_pos rfl, inV_int]
    by_cases q : row ∈ pl
    · rw [decide_eq_true q]
      obtain ⟨j, hj, hjm⟩ := first_at q
      walk_at "rd"
      refine ⟨pf, pl.map V.int, .int row, j, .int row, rfl, rfl, sqL hpf, rfl, flat_ints, by rw [List.getElem?_map, hj]; rfl, by simp [eqV], fun m z' hm hz => ?_, ?_⟩
      · obtain ⟨b, hb, rfl⟩ := map_get hz
        have := hjm m b hm hb
        simp [eqV, this]
      · walk_at "rd"
        refine ⟨_, _, rfl, sqL hrf, fun c nc => ?_⟩
        walk_at "rd"
        refine ⟨by walk_at "sz", fun t nt => ?_⟩
        exact hq _ _ ⟨t, c, row, _, rfl, (e1.new nc).new nt, upd_same, rl, upd_old upd_same nt⟩
    · rw [decide_eq_false q]
      obtain ⟨row0, rw0, t0, hrow, hT0, ht0⟩ := hcl row rl
      have hi := (List.getElem?_eq_some_iff.mp hrow).1
      have rowm := List.mem_of_getElem? hrow
      have ok := ro.2.2 _ rowm
      cases ok with
      | tell _ => exact hT0.elim
      | @look h es ts h1 h2 en tl htr =>
      walk_at "rd"
      refine ⟨fun σ2 H2 => Hold (∃ (row2 : Int) (pl2 : List Int) (rd : List V) (o7 o8 o9 : Option V), σ2 = [some (.ref x), some (.int s), some (.int d), some (.ref r), some (.int row2), some (.ref pf), some (.ref rf), o7, o8, o9] ∧ Ex H H2 ∧ H2 pf = some (.lst (pl2.map .int)) ∧ H2 rf = some (.lst rd) ∧ rd.length = pl2.length ∧ pl2.Nodup ∧ (∀ z ∈ pl2, z ∈ l) ∧ row2 ∈ l ∧ pl2.length = pl.length + 1), ?_, ?_⟩
      · intro σ2 H2 hP
        obtain ⟨row2, pl2, rd2, a7, a8, a9, rfl, e2, b1, b2, b3, b4, b5, b6, b7⟩ := hP.out
        exact ⟨l.length + 1 - pl2.length, by omega, row2, pl2, rd2, a7, a8, a9, rfl, e2, b1, b2, b3, b4, b5, b6, rfl⟩
      · walk_at "rd"
        refine ⟨_, _, _, rfl, e1 _ _ i1, (x, rows, hs), rfl, hx.ex e1, ?_⟩
        rintro v H2 ⟨rt, rvs, rfl, rfl, hrt, hrv⟩
        have rvl := paired_len hrv
        obtain ⟨rv, hrvk⟩ : ∃ v, rvs[row.toNat]? = some v := ⟨_, List.getElem?_eq_getElem (by omega)⟩
        have rvx := paired_get hrv hrvk hrow
        have rvx2 := rvx
        obtain ⟨rp, _, _, rfl, _, _, _⟩ := rvx
        walk_at "rd"
        refine ⟨_, _, _, _, rfl, rfl, sqT hrt, atI_nat' row0 hrvk, ?_⟩
        walk_at "rd"
        refine ⟨(rp, s, d, h, es, ts), rfl, ⟨rvx2, h1, h2, en, tl⟩, ?_⟩
        rintro v H4 ⟨qw, wvs, ws, rfl, nq, e4, hq4, hws, hTg, wpos, wln⟩
        have wl := paired_len hws
        have hr4 := e4 _ _ (e1 _ _ hr0)
        walk_at "rd"
        refine ⟨⟨_, sqL hq4⟩, fun D nD => ?_⟩
        refine lcE (walk_list (xs := wvs)) nD (by omega) (fun i => ((ws[i]?).map fun c => decide (c.2 ∈ l)).getD false) (fun i y H => ∃ c u, ws[i]? = some c ∧ c.2 ∈ l ∧ y = .ref u ∧ H u = some (.tup [.int c.1, .int c.2])) (fun e ⟨c, u, a, b, cc, dd⟩ => ⟨c, u, a, b, cc, e _ _ dd⟩) (fun hD ⟨c, u, a, b, cc, dd⟩ => ⟨c, u, a, b, cc, upd_off dd (ne_of dd hD (fun z => nomatch z))⟩) (fun H e => sqL (e _ _ hq4)) ?_ ?_
        · rintro i y H5 H6 hi' e5 ⟨rfl, hy⟩ S Z hS hZ
          obtain ⟨c, hc⟩ : ∃ c, ws[i]? = some c := ⟨_, List.getElem?_eq_getElem (by omega)⟩
          obtain ⟨u, rfl, hu⟩ := paired_get hws hc hy
          have hu5 := e5 _ _ hu
          have hr5 := e5 _ _ hr4
          refine ⟨rfl, ?_⟩
          walk_at "rd"
          refine ⟨flat_ints, ?_⟩
          rw [if_neg (by decide), inV_int]
          by_cases cl : c.2 ∈ l
          · rw [decide_eq_true cl]
            walk_at "rd"
            exact hS _ _ (Ex.refl _) (by rw [hc]; show decide (c.2 ∈ l) = true; exact decide_eq_true cl) ⟨c, u, hc, cl, rfl, hu5⟩
          · rw [decide_eq_false cl]
            walk_at "rd"
            exact hZ _ (Ex.refl _) (by rw [hc]; show decide (c.2 ∈ l) = false; exact decide_eq_false cl)
        · intro H5 ys e5 hD got
          unfold Got at got
          obtain ⟨r', hrt'⟩ := (hTg t0).mpr hT0
          obtain ⟨j, hj, ej⟩ := List.getElem_of_mem hrt'
          have jm : j ∈ (List.range wvs.length).filter fun i => ((ws[i]?).map fun c => decide (c.2 ∈ l)).getD false := by
            rw [List.mem_filter, List.mem_range]
            refine ⟨by omega, ?_⟩
            rw [List.getElem?_eq_getElem hj, ej]
            exact decide_eq_true ht0
          have pos := List.length_pos_of_mem jm
          have yl := paired_len got
          obtain ⟨i0, hi0⟩ : ∃ i, ((List.range wvs.length).filter fun i => ((ws[i]?).map fun c => decide (c.2 ∈ l)).getD false)[0]? = some i := ⟨_, List.getElem?_eq_getElem pos⟩
          obtain ⟨y0, hy0⟩ : ∃ y, ys[0]? = some y := ⟨_, List.getElem?_eq_getElem (by omega)⟩
          obtain ⟨c, u, hc, cl, rfl, hu⟩ := paired_get got hi0 hy0
          have cpos := wpos c (List.mem_of_getElem? hc)
          have e15 := (e1.trans e4).trans e5
          have hpf5 := e5 _ _ (e4 _ _ hpf)
          have hrf5 := e5 _ _ (e4 _ _ hrf)
          walk_at "rd"
          refine ⟨_, _, _, _, rfl, rfl, sqL hD, atI_nat (j := 0) hy0, ?_⟩
          walk_at "rd"
          refine ⟨_, _, _, rfl, rfl, hpf5, szlt (by rw [List.length_map]; omega), ?_⟩
          walk_at "rd"
          refine ⟨.inl ⟨rfl, _, sqL (upd_off hrf5 pr.symm)⟩, ?_⟩
          walk_at "rd"
          refine ⟨cpos, ?_⟩
          rintro v H7 ⟨np, rfl, e7, _, _⟩
          have hrf7 := e7 _ _ (upd_off (o' := .lst (pl.map V.int ++ [V.int row])) hrf5 pr.symm)
          have hpf7 := e7 _ _ (upd_same (H := H5) (a := pf) (o := .lst (pl.map V.int ++ [V.int row])))
          refine ⟨_, _, _, rfl, rfl, hrf7, szlt (by omega), ?_⟩
          walk_at "rd"
          refine .of ⟨c.2, pl ++ [row], rd ++ [.ref np], _, _, _, rfl, ((e15.mut npf).trans e7).mut nrH, ?_, upd_same, by simp [rdl], ?_, fun z hz => ?_, cl, by simp⟩
          · rw [upd_ne pr, hpf7, List.map_append]
            rfl
          · rw [List.nodup_append]
            exact ⟨nd, by simp, fun x hx y hy => by simp at hy; subst hy; intro h; subst h; exact q hx⟩
          · rw [List.mem_append] at hz
            rcases hz with hz | hz
            · exact sub z hz
            · simp at hz
              rw [hz]
              exact rl)
end
end Ff
end
section
set_option maxRecDepth 100000
set_option maxHeartbeats 4000000
/-! misled. -/
namespace Ff
open PySem PySem.Spec PyProof.Rows L2
local macro_rules | `(tactic| walk_at "ex") => `(tactic| first
  | exact Ex.refl _
  | with_reducible assumption
  | (refine Ex.new ?_ (by with_reducible assumption); walk_at "ex")
  | (refine Ex.mut ?_ (by walk_at "hn"); walk_at "ex")
  | (refine Ex.trans ?_ (by with_reducible assumption); walk_at "ex"))
local macro_rules | `(tactic| walk_at "hn") => `(tactic| first
  | with_reducible assumption
  | exact Ex.back (by with_reducible assumption) (by with_reducible assumption)
  | exact upd_none (by with_reducible assumption)
  | exact upd_none (upd_none (by with_reducible assumption))
  | exact Ex.back (by with_reducible assumption) (upd_none (by with_reducible assumption))
  | exact Ex.back (by with_reducible assumption) (Ex.back (by with_reducible assumption) (by with_reducible assumption)))
local macro_rules | `(tactic| walk_at "hp") => `(tactic| first
  | with_reducible assumption
  | with_reducible exact upd_same
  | (refine Ex.at (by with_reducible assumption) ?_; walk_at "ex")
  | (refine upd_old ?_ (by with_reducible assumption); walk_at "hp")
  | (refine upd_off ?_ (by with_reducible assumption); walk_at "hp"))
local macro_rules | `(tactic| walk_at "sd") => `(tactic| ((try dsimp only [CMul, CDiv, CPow]); first | exact True.intro | omega | (with_reducible assumption)))
local macro_rules | `(tactic| walk_at "sz") => `(tactic| exact Nat.le_of_ble_eq_true rfl)
local macro_rules | `(tactic| walk_at "is") => `(tactic| first
  | refine ⟨_, _, _, _, _, rfl, .ty _, .base (.int _), kt_int, ?_⟩
  | refine ⟨_, _, _, _, _, rfl, .ty _, .base (.int _), kt_intb, ?_⟩
  | refine ⟨_, _, _, _, _, rfl, .ty _, .base (.bl _), kt_bool, ?_⟩
  | refine ⟨_, _, _, _, _, rfl, .ty _, .base (.str _), kt_str, ?_⟩
  | refine ⟨_, _, _, _, _, rfl, .ty _, .base (.tup (by walk_at "hp")), kt_tup, ?_⟩
  | refine ⟨_, _, _, _, _, rfl, .ty _, .base (.dK (by walk_at "hp")), kt_dict, ?_⟩)
local macro_rules | `(tactic| walk_at "rd1") => `(tactic| first
  | refine ⟨_, rfl, ?_⟩
  | refine ⟨_, _, rfl, rfl, And.intro (by walk_at "sd") ?_⟩
  | refine ⟨_, _, rfl, rfl, ?_⟩
  | refine ⟨rfl, ?_⟩
  | refine ⟨_, _, _, _, rfl, rfl, sqT (by walk_at "hp"), rfl, ?_⟩
  | refine ⟨_, _, _, _, rfl, rfl, sqL (by walk_at "hp"), rfl, ?_⟩
  | refine ⟨_, _, rfl, sqT (by walk_at "hp"), rfl, ?_⟩
  | refine ⟨_, _, _, _, _, rfl, by walk_at "hp", by assumption, by assumption, rfl, ?_⟩
  | refine ⟨.inl ⟨rfl, _, sqL (by walk_at "hp")⟩, ?_⟩
  | refine ⟨_, _, rfl, .inl (sqL (by walk_at "hp")), ?_⟩
  | refine ⟨_, _, rfl, .inr (sqT (by walk_at "hp")), ?_⟩
  | refine ⟨(_, _), rfl, ?_⟩
  | refine ⟨(_, _, _), rfl, ?_⟩
  | refine ⟨(_, _, _, _), rfl, ?_⟩
  | refine ⟨_, _, rfl, ?_⟩
  | refine ⟨_, _, _, rfl, ?_⟩
  | walk_at "is")
local macro_rules | `(tactic| walk_at "rd") => `(tactic| repeat walk_at "rd1")

local macro_rules | `(tactic| walk_at "ib") => `(tactic| refine .inr ⟨_, rfl, ?_⟩)
local macro_rules | `(tactic| walk_at "ii") => `(tactic| refine .inl ⟨_, rfl, ?_⟩)
local macro_rules | `(tactic| walk_at "rq1") => `(tactic| first
  | refine ⟨_, rfl, ?_⟩
  | refine ⟨_, _, rfl, rfl, And.intro (by walk_at "sd") ?_⟩
  | refine ⟨_, _, rfl, rfl, ?_⟩
  | refine ⟨rfl, ?_⟩)
local macro_rules | `(tactic| walk_at "rq") => `(tactic| repeat walk_at "rq1")
theorem PatAt.off {Z : Adr} {H : Hp} {a x : Addr} {p : Int} {M : Int → Prop} {o : HO} (h : PatAt Z H x p M) (n : ∀ C dx fs, H a ≠ some (.ins C dx fs)) (n2 : ∀ xs, H a ≠ some (.tup xs)) : PatAt Z (upd H a o) x p M := by
  obtain ⟨dx, t, vs, ps, h1, h2, h3, h4⟩ := h
  refine ⟨dx, t, vs, ps, upd_off h1 fun e => ?_, upd_off h2 fun e => ?_, paired_map (fun _ _ ⟨p, b, c⟩ => ⟨p, b, upd_off c fun e => ?_⟩) h3, h4⟩
  · rw [e] at h1; exact n _ _ _ h1
  · rw [e] at h2; exact n2 _ h2
  · rw [e] at c; exact n2 _ c
theorem ProgAt.off {Z : Adr} {H : Hp} {a x : Addr} {rows : List Row} {hs : List Int} {o : HO} (h : ProgAt Z H x rows hs) (n : ∀ C dx fs, H a ≠ some (.ins C dx fs)) (n2 : ∀ xs, H a ≠ some (.tup xs)) : ProgAt Z (upd H a o) x rows hs := by
  obtain ⟨dx, t, e, vs, h1, h2, h3, h4, h5, h6⟩ := h
  have tp : ∀ {b xs}, H b = some (.tup xs) → upd H a o b = some (.tup xs) := fun {b xs} h => upd_off h fun e => by rw [e] at h; exact n2 _ h
  refine ⟨dx, t, e, vs, upd_off h1 fun e => ?_, tp h2, paired_map (fun v r h => ?_) h3, tp h4, h5, h6⟩
  · rw [e] at h1; exact n _ _ _ h1
  · cases r with
    | tell w => obtain ⟨p, b, c⟩ := h; exact ⟨p, b, tp c⟩
    | look h es ts => obtain ⟨p, q, t, b, c, d, e⟩ := h; exact ⟨p, q, t, b, tp c, tp d, tp e⟩
theorem ints_of {C : Int → Prop} : ∀ {l : List Nat} {ys : List V}, Paired (fun _ y => ∃ q, y = V.int q ∧ C q) l ys → ∃ qs : List Int, ys = qs.map .int ∧ ∀ q ∈ qs, C q
  | _, _, .nil => ⟨[], rfl, by simp⟩
  | _, _, .cons ⟨q, e, c⟩ t => by
    obtain ⟨qs, h1, h2⟩ := ints_of t
    refine ⟨q :: qs, by rw [e, h1]; rfl, fun x hx => ?_⟩
    rw [List.mem_cons] at hx
    rcases hx with rfl | hx
    · exact c
    · exact h2 x hx
theorem lcmL_same {hs qs : List Int} (h1 : ∀ n ∈ hs, 1 ≤ n) (h2 : ∀ q ∈ qs, 1 ≤ q ∧ q ∣ lcmL hs) : lcmL (hs ++ qs) = lcmL hs := by
  have a1 := lcmL_ge h1
  have all1 : ∀ x ∈ hs ++ qs, 1 ≤ x := fun x hx => by
    rw [List.mem_append] at hx
    rcases hx with hx | hx
    · exact h1 x hx
    · exact (h2 x hx).1
  have a2 := lcmL_ge all1
  have d1 : lcmL (hs ++ qs) ∣ lcmL hs := lcmL_least all1 fun x hx => by
    rw [List.mem_append] at hx
    rcases hx with hx | hx
    · exact lcmL_dvd hx
    · exact (h2 x hx).2
  have d2 : lcmL hs ∣ lcmL (hs ++ qs) := lcmL_least h1 fun x hx => lcmL_dvd (List.mem_append_left _ hx)
  have l1 := Int.le_of_dvd (by omega) d1
  have l2 := Int.le_of_dvd (by omega) d2
  omega
/-- the marks under the sayings' words -/
def mkvS (mk : List (PySem.Str × Addr)) : List (Key × V) := mk.map fun b => ((Sum.inr b.1 : Key), V.ref b.2)
def MAt (H : Hp) (N : Nat) (mk : List (PySem.Str × Addr)) (sy : List Say) : Prop := Paired (fun (b : PySem.Str × Addr) (p : Say) => b.1 = p.1 ∧ H b.2 = some (.lst ((markL p.2.2 N).map .bl))) mk sy
theorem MAt.ex {H H' : Hp} {N : Nat} {mk : List (PySem.Str × Addr)} {sy : List Say} (m : MAt H N mk sy) (e : ∀ a xs, H a = some (.lst xs) → H' a = some (.lst xs)) : MAt H' N mk sy := paired_map (fun _ _ ⟨a, b⟩ => ⟨a, e _ _ b⟩) m
theorem MAt.get : ∀ {H : Hp} {N : Nat} {mk : List (PySem.Str × Addr)} {sy : List Say}, MAt H N mk sy → (sy.map Prod.fst).Nodup → ∀ w : PySem.Str, (∃ p ∈ sy, p.1 = w ∧ ∃ b, valV (mkvS mk) (Sum.inr w) = some (.ref b) ∧ H b = some (.lst ((markL p.2.2 N).map .bl))) ∨ ((∀ p ∈ sy, p.1 ≠ w) ∧ valV (mkvS mk) (Sum.inr w) = none)
  | _, _, [], [], .nil, _, w => .inr ⟨by simp, rfl⟩
  | H, N, b :: mk, p :: sy, .cons ⟨e, h⟩ t, nd, w => by
    rw [List.map_cons, List.nodup_cons] at nd
    by_cases q : p.1 = w
    · refine .inl ⟨p, by simp, q, b.2, ?_, h⟩
      exact valV_pos (by dsimp only; rw [e, q])
    · have s : valV (mkvS (b :: mk)) (Sum.inr w) = valV (mkvS mk) (Sum.inr w) := valV_neg (by dsimp only; intro h; cases h; exact q (e.symm))
      rw [s]
      rcases MAt.get (sy := sy) t nd.2 w with ⟨p', h1, h2, h3⟩ | ⟨h1, h2⟩
      · exact .inl ⟨p', by simp [h1], h2, h3⟩
      · exact .inr ⟨fun p' hp => by
          rw [List.mem_cons] at hp
          rcases hp with rfl | hp
          · exact q
          · exact h1 p' hp, h2⟩
/-- at this spot nothing is wrong -/
def OKs (rows : List Row) (d : Int) (sy : List Say) (s : Int) : Prop := (∀ w, tells rows d w s → ∃ p ∈ sy, p.1 = w ∧ p.2.2 s) ∧ ¬ lasts rows d s
section
variable {P : Program} {w : World} {K : PySem.W.Frag} {mg : PySem.Str → Option Value} {base : Heap} {Z : Adr}
def sp_misled (Z : Adr) : Sp := mkSp (fun ((x, d, a, _) : Addr × Int × Addr × List Row × List Int × List Say) => [.ref x, .int d, .ref a]) (fun (x, d, a, rows, hs, sy) H => ProgAt Z H x rows hs ∧ 0 ≤ d ∧ d ≤ 1000 ∧ lcmL hs ≤ 5040 ∧ SayAt Z (lcmL hs) H a sy)
  (fun (_, d, _, rows, hs, sy) H v H' => Ex H H' ∧ (((∀ s, 0 ≤ s → s ≤ 2 * lcmL hs → OKs rows d sy s) ∧ v = .non) ∨ ((∃ s, 0 ≤ s ∧ s ≤ 2 * lcmL hs ∧ ¬ OKs rows d sy s) ∧ ∃ p xs, v = .ref p ∧ H' p = some (.tup xs))))
abbrev s_misled : Stmt := top 81
theorem sc_misled : FnScope ["program", "doubt", "sayings", "half", "marks", "word", "pattern", "spot", "targets", "rows", "row", "left", "ring"] ["program", "doubt", "sayings"] (C8.fnScope s_misled) := C8.fnScope_by (by decide +kernel)
theorem c_misled (T : Txt P w K mg base Z) : C8.Cal P w K mg base 5 "misled" (sp_misled Z) [] :=
  calD (k := 4) T.d_misled sc_misled (fun _ _ _ _ _ _ us h => by obtain ⟨_, _, _, rfl⟩ := us3 (by exact h); rfl) (fun _ => rfl) (fun cdv f A outer s H0 H Q E a hr pre hq => by
    have S := sc_misled
    obtain ⟨x, d, a, rows, hs, sy⟩ := a
    obtain ⟨hx, d0, d1, hl, say⟩ := pre
    obtain ⟨dx, tt, ee, vs0, i1, ht, hv, he, hh, ro⟩ := id hx
    have L1 := lcmL_ge (l := hs) fun n hn => (hh.bounds ro n hn).1
    obtain ⟨L, hL⟩ : ∃ L, lcmL hs = L := ⟨_, rfl⟩
    have hq : ∀ v H', Ex H H' → (((∀ s, 0 ≤ s → s ≤ 2 * L → OKs rows d sy s) ∧ v = .non) ∨ ((∃ s, 0 ≤ s ∧ s ≤ 2 * L ∧ ¬ OKs rows d sy s) ∧ ∃ p xs, v = .ref p ∧ H' p = some (.tup xs))) → Q v H' := by
      rw [← hL]
      exact fun v H' a b => hq v H' ⟨a, b⟩
    have r2 := ro.2.1
    refine ⟨_, (pss_cons (ps_expr (C8.pe_c (c_need_doubt T) hr (by decide) rfl (pa_cons (pv 1) pa_nil)))
  (pss_cons (ps_expr (C8.pe_c (c_need_sayings T) hr (by decide) rfl (pa_cons (pv 2) pa_nil)))
  (pss_cons (ps_set (i := 3) S.nd rfl (Or.inl rfl) (C8.pe_c (c_need_multiple T) hr (by decide) rfl (pa_cons (pe_lst (StX.pa_star (pe_pr (c_Program_halves T) hr (by decide) (pv 0)) (StX.pa_star (pe_lock (pe_lc (own := [("pattern", 6)]) rfl S.nd (pi_values (pv 2)) (blkOk_by (by kernel_rfl)) (fun _ _ _ _ _ => (pg_name (i := 6) S.nd rfl (by first | exact Or.inl rfl | exact Or.inr rfl))) (fun _ _ _ _ _ => pts_nil) (fun _ _ _ _ _ => (pe_pr (c_Pattern_half T) hr (by decide) (pv 6))))) pa_nil))) pa_nil)))
  (pss_cons (ps_set (i := 4) S.nd rfl (Or.inl rfl) pe_dnewK)
  (pss_cons (ps_lock (ps_for PassesOwn.never rfl (pi_items (pv 2)) (pgT (K := K) (n := 2) rfl (by rfl) (pgs_cons (pg_name (i := 5) S.nd rfl (Or.inl rfl)) (pgs_cons (pg_name (i := 6) S.nd rfl (Or.inl rfl)) pgs_nil))) (pss_one (ps_dput (hu_of hr) (pv 4) (pv 5) (C8.pe_c (c_lifted T) hr (by decide) rfl (pa_cons (pe_pr (c_Pattern_half T) hr (by decide) (pv 6)) (pa_cons (C8.pe_c (c_marks_of T) hr (by decide) rfl (pa_cons (pe_pr (c_Pattern_half T) hr (by decide) (pv 6)) (pa_cons (pe_pr (c_Pattern_pieces T) hr (by decide) (pv 6)) pa_nil))) (pa_cons (pv 3) pa_nil)))) rfl))))
  (pss_cons (ps_for PassesOwn.never rfl (pi_enum (by rfl) T.n_enumerate (pa_cons (C8.pe_c (c_kinds_of T) hr (by decide) rfl (pa_cons (pv 0) (pa_cons (pv 1) (pa_cons (pv 3) pa_nil)))) pa_nil)) (pgT (K := K) (n := 2) rfl (by rfl) (pgs_cons (pg_name (i := 7) S.nd rfl (Or.inl rfl)) (pgs_cons (pg_name (i := 8) S.nd rfl (Or.inl rfl)) pgs_nil))) (pss_cons (ps_set (i := 9) S.nd rfl (Or.inl rfl) (C8.pe_c (c_reached T) hr (by decide) rfl (pa_cons (pv 8) pa_nil)))
  (pss_cons (ps_for PassesOwn.never rfl (piL (K := K) rfl (pv 9)) (pg_name (i := 10) S.nd rfl (Or.inl rfl)) (pss_cons (ps_set (i := 5) S.nd rfl (Or.inl rfl) (pe_ix (ixT (K := K) rfl) (pe_ix (ixT (K := K) rfl) (pe_pr (c_Program_rows T) hr (by decide) (pv 0)) (pv 10) (fun _ _ => rfl)) pe_int (fun _ _ => rfl)))
  (pss_one (ps_if (PW.pt (pw_and (pt_cmpR op_eq (pe_ix (ixT (K := K) rfl) (pe_ix (ixT (K := K) rfl) (pe_pr (c_Program_rows T) hr (by decide) (pv 0)) (pv 10) (fun _ _ => rfl)) pe_int (fun _ _ => rfl)) pe_str (nomark _)) (pw_and1 (PW.pt (pw_or (pt_cmp (pc_dnotin (hu_of hr) (pv 5) (pv 4))) (pw_or1 (pt_not (pt_val (pe_ix (ixL (K := K) rfl) (pe_dget (hu_of hr) (pv 4) (pv 5) (fun _ _ => rfl)) (pv 7) (fun _ _ => rfl)))))))))) (pss_one (ps_ret (pe_tup (pa_cons pe_str (pa_cons (C8.pe_c (c_number_at T) hr (by decide) rfl (pa_cons (pv 7) pa_nil)) (pa_cons (C8.pe_c (c_way_to T) hr (by decide) rfl (pa_cons (pv 0) (pa_cons (pv 7) (pa_cons (pv 1) (pa_cons (pv 10) pa_nil))))) pa_nil)))))) pss_nil))))
  (pss_cons (ps_set (i := 11) S.nd rfl (Or.inl rfl) (C8.pe_c (c_lasting T) hr (by decide) rfl (pa_cons (pv 8) (pa_cons (pv 9) pa_nil))))
  (pss_one (ps_if (pt_cmpR (neD (K := K) rfl hr.units) (pv 11) (pe_lst pa_nil) (nomark _)) (pss_cons (ps_asg (C8.pe_c (c_ring_from T) hr (by decide) rfl (pa_cons (pv 0) (pa_cons (pv 7) (pa_cons (pv 1) (pa_cons (pv 11) pa_nil))))) (pgT (K := K) (n := 2) rfl (by rfl) (pgs_cons (pg_name (i := 10) S.nd rfl (Or.inl rfl)) (pgs_cons (pg_name (i := 12) S.nd rfl (Or.inl rfl)) pgs_nil))))
  (pss_one (ps_ret (pe_tup (pa_cons pe_str (pa_cons (C8.pe_c (c_number_at T) hr (by decide) rfl (pa_cons (pv 7) pa_nil)) (pa_cons (C8.pe_c (c_way_to T) hr (by decide) rfl (pa_cons (pv 0) (pa_cons (pv 7) (pa_cons (pv 1) (pa_cons (pv 10) pa_nil))))) (pa_cons (pv 12) pa_nil)))))))) pss_nil))))))
  (pss_one (ps_ret pe_non)))))))), ?_⟩
    walk_at "rd"
    refine ⟨⟨d0, d1⟩, ?_⟩
    rintro v H' ⟨rfl, rfl⟩
    walk_at "rd"
    refine ⟨(a, lcmL hs, sy), rfl, say, ?_⟩
    obtain ⟨ha, nd, sln, pat⟩ := say
    rintro v H1 ⟨rfl, e1⟩
    have ha1 := e1 _ _ ha
    have svl : (syV sy).length = sy.length := by unfold syV; rw [List.length_map]
    walk_at "rd"
    refine ⟨_, _, _, rfl, e1 _ _ i1, (x, rows, hs), rfl, hx.ex e1, ?_⟩
    rintro v H2 ⟨eh, rfl, rfl, heh⟩
    walk_at "rd"
    refine ⟨_, _, rfl, .inl (sqT heh), ?_⟩
    refine ⟨a, _, ha1, trivial, fun od => ?_⟩
    walk_at "rd"
    refine ⟨_, _, _, rfl, upd_same, fun D nD => ?_⟩
    have ai : ∀ C dx fs, H2 a ≠ some (.ins C dx fs) := fun C dx fs h => by rw [ha1] at h; cases h
    have at_ : ∀ xs, H2 a ≠ some (.tup xs) := fun xs h => by rw [ha1] at h; cases h
    refine lcE (walk_values (d := a) (o := od) (kvs := syV sy)) nD (by omega) (fun _ => true) (fun i y _ => ∃ q, y = .int q ∧ (1 ≤ q ∧ q ≤ 5040 ∧ q ∣ lcmL hs)) (fun _ r => r) (fun _ r => r) (fun H e => e _ _ upd_same) ?_ ?_
    · rintro i y H4 H5 hi e4 ⟨rfl, k, hkv⟩ S Z' hS hZ
      obtain ⟨p, hp, ekv⟩ := map_get hkv
      simp only [Prod.mk.injEq] at ekv
      obtain ⟨rfl, rfl⟩ := ekv
      obtain ⟨_, q, hqd, hpat⟩ := pat p (List.mem_of_getElem? hp)
      have hp4 := ((hpat.ex e1).off (o := .frz od (.dK (syV sy))) ai at_).ex e4
      obtain ⟨⟨ps, pf⟩, dd, fs, ii⟩ := hp4.form
      refine ⟨rfl, ?_⟩
      walk_at "rd"
      refine ⟨_, _, _, rfl, ii, (p.2.1, q, p.2.2), rfl, hp4, ?_⟩
      rintro v H6 ⟨rfl, rfl⟩
      exact hS _ _ (Ex.refl _) rfl ⟨q, rfl, pf.p1, pf.p2, hqd⟩
    · intro H3 ys e3 hD got
      unfold Got at got
      obtain ⟨qs, rfl, hqs⟩ := ints_of got
      have qsl : qs.length = sy.length := by
        have := paired_len got
        rw [range_all, List.length_range, List.length_map] at this
        omega
      refine ⟨e3 _ _ upd_same, ?_⟩
      have Da : D ≠ a := fun z => by rw [z, upd_same] at nD; cases nD
      obtain ⟨H4, hH4⟩ : ∃ H4, upd H3 a (.dK (syV sy)) = H4 := ⟨_, rfl⟩
      have e14 : Ex H2 H4 := by rw [← hH4]; exact Ex.unlock e3 ha1
      have hD4 : H4 D = some (.lst (qs.map .int)) := by rw [← hH4]; exact upd_off hD Da
      rw [show upd H3 a (.dK (syV sy)) = H4 from hH4]
      refine ⟨_, _, rfl, .inr (sqL hD4), ?_⟩
      walk_at "rd"
      have hln := hh.ln
      have apn : hs.map V.int ++ (qs.map V.int ++ []) = (hs ++ qs).map V.int := by rw [List.append_nil, List.map_append]
      refine ⟨szL (by rw [apn, List.length_map, List.length_append]; omega), fun lp nlp => ?_⟩
      rw [apn]
      walk_at "rd"
      have lsame := lcmL_same (hs := hs) (qs := qs) (fun n hn => (hh.bounds ro n hn).1) fun q hq => ⟨(hqs q hq).1, (hqs q hq).2.2⟩
      refine ⟨(lp, hs ++ qs), rfl, ⟨.inl upd_same, fun n hn => ?_, by rw [lsame]; exact hl⟩, ?_⟩
      · rw [List.mem_append] at hn
        rcases hn with hn | hn
        · have := hh.bounds ro n hn; omega
        · have := hqs n hn; omega
      rintro v H5 ⟨rv, rfl⟩
      rw [lsame, hL] at rv
      rw [hL] at hl L1 pat
      subst rv
      walk_at "rd"
      refine fun md nmd => ?_
      walk_at "rd"
      have e15 := (e14.new (o := .lst ((hs ++ qs).map V.int)) nlp).new (o := .dK []) nmd
      have e05 := e1.trans e15
      have ha5 := e05 _ _ ha
      have hmd5 := upd_same (H := upd H4 lp (.lst ((hs ++ qs).map V.int))) (a := md) (o := .dK [])
      obtain ⟨B, hB⟩ : ∃ B, upd (upd H4 lp (.lst ((hs ++ qs).map V.int))) md (.dK []) = B := ⟨_, rfl⟩
      rw [hB] at e15 e05 ha5 hmd5 ⊢
      have amd : a ≠ md := fun z => by
        have h1 := upd_old (o' := .lst ((hs ++ qs).map V.int)) (e14 _ _ ha1) nlp
        rw [z, nmd] at h1
        cases h1
      refine ⟨a, _, ha5, trivial, fun od2 => ?_⟩
      walk_at "rd"
      refine ⟨_, _, _, rfl, upd_same, ?_⟩
      obtain ⟨N, hN⟩ : ∃ N, (2 * L + 1).toNat = N := ⟨_, rfl⟩
      have bi : ∀ C dx fs, B a ≠ some (.ins C dx fs) := fun C dx fs h => by rw [ha5] at h; cases h
      have bt : ∀ xs, B a ≠ some (.tup xs) := fun xs h => by rw [ha5] at h; cases h
      -- the base: all but the marks' dict, the sayings locked
      obtain ⟨Bm, hBm⟩ : ∃ Bm, hid (upd B a (.frz od2 (.dK (syV sy)))) md = Bm := ⟨_, rfl⟩
      have em0 : Ex Bm (upd B a (.frz od2 (.dK (syV sy)))) := by rw [← hBm]; exact hid_ex
      have nmB : Bm md = none := by rw [← hBm]; exact hid_same
      have haB : Bm a = some (.frz od2 (.dK (syV sy))) := by rw [← hBm, hid_ne amd]; exact upd_same
      have hmdB : upd B a (.frz od2 (.dK (syV sy))) md = some (.dK []) := upd_off hmd5 amd.symm
      have ofB : ∀ b o, b ≠ a → b ≠ md → B b = some o → Bm b = some o := fun b o n1 n2 h => by rw [← hBm, hid_ne n2]; exact upd_off h n1
      have patB : ∀ p ∈ sy, ∃ q, q ∣ L ∧ PatAt Z Bm p.2.1 q p.2.2 := fun p hp => by
        obtain ⟨_, q, h1, h2⟩ := pat p hp
        obtain ⟨dx, t, vs, ps, b1, b2, b3, b4⟩ := h2.ex e05
        have nn : ∀ {b o}, B b = some o → o ≠ .dK (syV sy) → o ≠ .dK [] → Bm b = some o := fun {b o} h n1 n2 => ofB b o (ne_of h ha5 n1) (ne_of h hmd5 n2) h
        exact ⟨q, h1, dx, t, vs, ps, nn b1 (fun z => nomatch z) (fun z => nomatch z), nn b2 (fun z => nomatch z) (fun z => nomatch z), paired_map (fun _ _ ⟨p, c, e⟩ => ⟨p, c, nn e (fun z => nomatch z) (fun z => nomatch z)⟩) b3, b4⟩
      refine for_it (walk_items (d := a) (o := od2) (kvs := syV sy)) (fun i σ H' => Hold (Ex Bm H' ∧ ∃ (mk : List (PySem.Str × Addr)) (o5 o6 o7 o8 o9 o10 o11 o12 : Option V), σ = [some (.ref x), some (.int d), some (.ref a), some (.int L), some (.ref md), o5, o6, o7, o8, o9, o10, o11, o12] ∧ H' md = some (.dK (mkvS mk)) ∧ MAt H' N mk (sy.take i)))
        (.of ⟨em0, [], _, _, _, _, _, _, _, _, rfl, hmdB, .nil⟩) (fun i σ H' _ h => h.out.1 _ _ haB) ?_ ?_
      · rintro i y σ H6 H7 hi hP ⟨T1, kv, v, rfl, nT, rfl, hkv, hvv⟩
        obtain ⟨e6, mk, o5, o6, o7, o8, o9, o10, o11, o12, rfl, hmd, mat⟩ := hP.out
        clear hP
        obtain ⟨p, hp⟩ : ∃ p, sy[i]? = some p := ⟨_, List.getElem?_eq_getElem (by omega)⟩
        have sv : (syV sy)[i]? = some (Sum.inr p.1, .ref p.2.1) := by unfold syV; rw [List.getElem?_map, hp]; rfl
        dsimp only at hkv hvv
        rw [sv] at hkv hvv
        cases hkv
        cases hvv
        have ml := paired_len mat
        rw [List.length_take] at ml
        have e7 := e6.new (o := .tup [kV (Sum.inr p.1), .ref p.2.1]) nT
        obtain ⟨q, hqd, hpat⟩ := patB p (List.mem_of_getElem? hp)
        have hp7 := hpat.ex e7
        obtain ⟨⟨ps0, pf⟩, dd, fs, ii⟩ := hp7.form
        walk_at "rd"
        refine ⟨_, _, _, rfl, ii, (p.2.1, q, p.2.2), rfl, hp7, ?_⟩
        rintro v H8 ⟨rfl, rfl⟩
        walk_at "rq"
        refine ⟨_, _, _, rfl, ii, (p.2.1, q, p.2.2), rfl, hp7, ?_⟩
        rintro v H9 ⟨rfl, rfl⟩
        walk_at "rq"
        refine ⟨_, _, _, rfl, ii, (p.2.1, q, p.2.2), rfl, hp7, ?_⟩
        rintro v H10 ⟨t, vs, ps, rfl, rfl, ht, hv, pf2⟩
        have p1 := pf2.p1
        have p2 := pf2.p2
        walk_at "rq"
        refine ⟨(q, t, vs, ps), rfl, ⟨p1, by omega, .inr ht, hv, by have := pf2.ln; omega⟩, ?_⟩
        rintro v H11 ⟨m, rfl, nm, e11, hm⟩
        walk_at "rq"
        refine ⟨(q, m, L, Span ps, (2 * q + 1).toNat), rfl, ⟨p1, by omega, by omega, by omega, by omega, hm⟩, ?_⟩
        rintro v H12 ⟨b, rfl, nb, e12, hb⟩
        rw [markL_congr (N := p.2.2) fun k _ => pf2.span (by omega), hN] at hb
        have e712 := e11.trans e12
        have hmd12 := e712 _ _ (upd_old (o' := .tup [kV (Sum.inr p.1), .ref p.2.1]) hmd nT)
        walk_at "rq"
        refine ⟨md, _, rfl, .inl ⟨_, Sum.inr p.1, hmd12, rfl, szlt (by unfold mkvS; rw [List.length_map]; omega), rfl⟩, ?_⟩
        have new : Sum.inr p.1 ∉ (mkvS mk).map Prod.fst := by
          intro h
          obtain ⟨kv, hkv, e⟩ := List.mem_map.mp h
          obtain ⟨b', hb', rfl⟩ := List.mem_map.mp hkv
          have e : b'.1 = p.1 := by simpa using e
          obtain ⟨j, hj, ej⟩ := List.getElem_of_mem hb'
          have jl : j < i := by omega
          obtain ⟨p', hp'⟩ : ∃ p', sy[j]? = some p' := ⟨_, List.getElem?_eq_getElem (by omega)⟩
          have hpt : (sy.take i)[j]? = some p' := by rw [List.getElem?_take, if_pos jl]; exact hp'
          have pe := (paired_get mat (by rw [List.getElem?_eq_getElem hj, ej]) hpt).1
          have h1 := List.getElem?_eq_some_iff.mp hp'
          have h2 := List.getElem?_eq_some_iff.mp hp
          have := List.pairwise_iff_getElem.mp nd j i (by simpa using h1.1) (by simpa using h2.1) jl
          rw [List.getElem_map, List.getElem_map, h1.2, h2.2] at this
          exact this (by rw [← pe]; exact e)
        have keep : ∀ c xs, H12 c = some (.lst xs) → upd H12 md (.dK (putK (mkvS mk) (Sum.inr p.1) (.ref b))) c = some (.lst xs) := fun c xs h => upd_off h (ne_of h hmd12 (fun z => nomatch z))
        refine .of ⟨(e7.trans e712).mut nmB, mk ++ [(p.1, b)], _, _, _, _, _, _, _, _, rfl, ?_, ?_⟩
        · rw [upd_same, putK_fresh new]
          unfold mkvS
          rw [List.map_append]
          rfl
        · rw [take_more hp]
          exact paired_app ⟨rfl, keep _ _ hb⟩ ((mat.ex fun c xs h => e712 _ _ (upd_old h nT)).ex keep)
      · intro σ H6 hP
        obtain ⟨e6, mk, o5, o6, o7, o8, o9, o10, o11, o12, rfl, hmd, mat⟩ := hP.out
        rw [svl, List.take_length] at mat
        refine ⟨e6 _ _ haB, ?_⟩
        obtain ⟨HU, hHU⟩ : ∃ HU, upd H6 a (.dK (syV sy)) = HU := ⟨_, rfl⟩
        have eHU : Ex H' HU := by
          rw [← hHU]
          intro b o h
          have hb := e05 _ _ h
          by_cases q : b = a
          · rw [q] at h ⊢
            rw [ha] at h
            cases h
            exact upd_same
          · rw [upd_ne q]
            refine e6 _ _ (ofB b o q (fun z => ?_) hb)
            have h4 : H4 md = none := upd_none nmd
            have hb4 := e14 _ _ (e1 _ _ h)
            rw [z, h4] at hb4
            cases hb4
        have hmdU : HU md = some (.dK (mkvS mk)) := by rw [← hHU]; exact upd_off hmd amd.symm
        have matU : MAt HU N mk sy := mat.ex fun c xs h => by
          rw [← hHU]
          refine upd_off h fun z => ?_
          have := e6 _ _ haB
          rw [← z, h] at this
          cases this
        rw [hHU]
        clear hP
        walk_at "rq"
        have hxU := hx.ex eHU
        refine ⟨(x, d, L, rows, hs), rfl, ⟨hxU, by omega, hl⟩, ?_⟩
        rintro v H7 ⟨qk, vs, rfl, nqk, e7, hqk, hvs⟩
        rw [hN] at hvs
        have vsl := paired_len hvs
        rw [List.length_range] at vsl
        have e07 := eHU.trans e7
        have hx7 := hxU.ex e7
        have i17 := e07 _ _ i1
        have hmd7 := e7 _ _ hmdU
        have mat7 := matU.ex (H' := H7) fun c xs h => e7 _ _ h
        walk_at "rq"
        refine ⟨_, _, rfl, sqL hqk, ?_⟩
        refine for_it (walk_enum (xs := vs)) (fun i σ H8 => Hold (Ex H7 H8 ∧ (∀ s : Nat, s < i → OKs rows d sy s) ∧ ∃ (o5 o6 o7 o8 o9 o10 o11 o12 : Option V), σ = [some (.ref x), some (.int d), some (.ref a), some (.int L), some (.ref md), o5, o6, o7, o8, o9, o10, o11, o12]))
          (.of ⟨Ex.refl _, fun s h => by omega, _, _, _, _, _, _, _, _, rfl⟩) (fun i σ H8 _ h => sqL (h.out.1 _ _ hqk)) ?_ ?_
        · rintro i y σ H8 H9 hi hP ⟨T1, a1, v, rfl, nT, rfl, ha1, hvi⟩
          obtain ⟨e8, all, o5, o6, o7, o8, o9, o10, o11, o12, rfl⟩ := hP.out
          clear hP
          cases ha1
          have hiN : i < N := by omega
          obtain ⟨p, pvs, Ts, rfl, pq, hp, hpT, ok⟩ := paired_get hvs (range_get hiN) hvi
          have hTB : Paired (ListAt H7) Ts pvs := paired_map (fun _ _ ⟨u, a, b, c⟩ => ⟨u, a, c⟩) hpT
          have tsok := ok.ts ro
          have e9 := e8.new (o := .tup [V.int i, .ref p]) nT
          walk_at "rd"
          refine ⟨(p, pvs, Ts, rows.length), rfl, ⟨e9 _ _ hp, paired_map (fun _ _ q => q.ex e9) hTB, tsok⟩, ?_⟩
          rintro v H10 ⟨rq, rl, rfl, nrq, e10, hrq, rmem, rrng, rlen⟩
          have e710 := e9.trans e10
          walk_at "rq"
          refine ⟨⟨_, sqL hrq⟩, ?_⟩
          refine for_it (walk_list (xs := rl.map V.int)) (fun j σ H' => Hold (Ex H10 H' ∧ (∀ k ∈ rl.take j, ∀ w, rows[k.toNat]? = some (.tell w) → ∃ p ∈ sy, p.1 = w ∧ p.2.2 (i : Int)) ∧ ∃ (o5 o6 o10 o11 o12 : Option V), σ = [some (.ref x), some (.int d), some (.ref a), some (.int L), some (.ref md), o5, o6, some (.int i), some (.ref p), some (.ref rq), o10, o11, o12]))
            (.of ⟨Ex.refl _, by simp, _, _, _, _, _, rfl⟩) (fun j σ H' _ h => sqL (h.out.1 _ _ hrq)) ?_ ?_
          · rintro j y σ H11 H12 hj hP ⟨rfl, hy⟩
            obtain ⟨e11, good, q5, q6, q10, q11, q12, rfl⟩ := hP.out
            clear hP
            obtain ⟨k, hk, rfl⟩ := map_get hy
            have km := List.mem_of_getElem? hk
            have kr := rrng k km
            have rsk : RS rows (i : Int) d k := (reach_RS ok).mp ((rmem k).mp km)
            have e711 := e710.trans e11
            have hx11 := hx7.ex e711
            have i111 := e711 _ _ i17
            have hmd11 := e711 _ _ hmd7
            have mat11 := mat7.ex (H' := H12) fun c xs h => e711 _ _ h
            walk_at "rq"
            refine ⟨_, _, _, rfl, i111, (x, rows, hs), rfl, hx11, ?_⟩
            rintro v H13 ⟨rt, rvs, rfl, rfl, hrt, hrv⟩
            have rvl := paired_len hrv
            obtain ⟨row, hrow⟩ : ∃ row, rows[k.toNat]? = some row := ⟨_, List.getElem?_eq_getElem (by omega)⟩
            obtain ⟨rv, hrvk⟩ : ∃ v, rvs[k.toNat]? = some v := ⟨_, List.getElem?_eq_getElem (by omega)⟩
            have rvx := paired_get hrv hrvk hrow
            walk_at "rq"
            refine ⟨_, _, _, _, rfl, rfl, sqT hrt, atI_nat' kr.1 hrvk, ?_⟩
            cases row with
            | look h es ts =>
              obtain ⟨rp, _, _, rfl, hrp, _, _⟩ := rvx
              walk_at "rd"
              refine ⟨_, _, _, rfl, i111, (x, rows, hs), rfl, hx11, ?_⟩
              rintro v H14 ⟨rt2, rvs2, rfl, rfl, hrt2, hrv2⟩
              have rvl2 := paired_len hrv2
              obtain ⟨rv2, hrvk2⟩ : ∃ v, rvs2[k.toNat]? = some v := ⟨_, List.getElem?_eq_getElem (by omega)⟩
              obtain ⟨rp2, _, _, rfl, hrp2, _, _⟩ := paired_get hrv2 hrvk2 hrow
              walk_at "rq"
              refine ⟨_, _, _, _, rfl, rfl, sqT hrt2, atI_nat' kr.1 hrvk2, ?_⟩
              walk_at "rd"
              refine .of ⟨e11, fun k' hk' w hw => ?_, _, _, _, _, _, rfl⟩
              rw [take_more hk, List.mem_append] at hk'
              rcases hk' with hk' | hk'
              · exact good k' hk' w hw
              · simp at hk'
                rw [hk', hrow] at hw
                cases hw
            | tell w0 =>
              obtain ⟨rp, rfl, hrp⟩ := rvx
              have tw : tells rows d w0 (i : Int) := ⟨k, rsk, kr.1, hrow⟩
              walk_at "rd"
              refine ⟨_, _, _, rfl, i111, (x, rows, hs), rfl, hx11, ?_⟩
              rintro v H14 ⟨rt2, rvs2, rfl, rfl, hrt2, hrv2⟩
              have rvl2 := paired_len hrv2
              obtain ⟨rv2, hrvk2⟩ : ∃ v, rvs2[k.toNat]? = some v := ⟨_, List.getElem?_eq_getElem (by omega)⟩
              obtain ⟨rp2, rfl, hrp2⟩ := paired_get hrv2 hrvk2 hrow
              walk_at "rq"
              refine ⟨_, _, _, _, rfl, rfl, sqT hrt2, atI_nat' kr.1 hrvk2, ?_⟩
              walk_at "rd"
              refine ⟨md, _, rfl, .inl ⟨_, Sum.inr w0, .inl hmd11, rfl, rfl⟩, ?_⟩
              rcases mat11.get nd w0 with ⟨p', hp', hw', b, hb, hbl⟩ | ⟨hno, hnone⟩
              · rw [hb]
                walk_at "rq"
                refine ⟨md, .ref b, rfl, .inl ⟨_, Sum.inr w0, .inl hmd11, rfl, hb.symm⟩, ?_⟩
                walk_at "rq"
                refine ⟨_, _, _, _, rfl, rfl, sqL hbl, markL_at (i := (i : Int)) (by omega) (by omega), ?_⟩
                cases tq : tv (p'.2.2 (i : Int)) with
                | true =>
                  walk_at "rq"
                  refine .of ⟨e11, fun k' hk' w hw => ?_, _, _, _, _, _, rfl⟩
                  rw [take_more hk, List.mem_append] at hk'
                  rcases hk' with hk' | hk'
                  · exact good k' hk' w hw
                  · simp at hk'
                    rw [hk', hrow] at hw
                    cases hw
                    exact ⟨p', hp', hw', tv_iff.mp tq⟩
                | false =>
                  have bad : ¬ OKs rows d sy (i : Int) := fun h => by
                    obtain ⟨p2, hp2, hw2, hM2⟩ := h.1 w0 tw
                    obtain ⟨j1, hj1, ej1⟩ := List.getElem_of_mem hp'
                    obtain ⟨j2, hj2, ej2⟩ := List.getElem_of_mem hp2
                    have pe : p2 = p' := by
                      rcases Nat.lt_trichotomy j1 j2 with w | w | w
                      · have := List.pairwise_iff_getElem.mp nd j1 j2 (by simpa using hj1) (by simpa using hj2) w
                        rw [List.getElem_map, List.getElem_map, ej1, ej2] at this
                        exact absurd (hw'.trans hw2.symm) this
                      · subst w
                        rw [← ej1, ← ej2]
                      · have := List.pairwise_iff_getElem.mp nd j2 j1 (by simpa using hj2) (by simpa using hj1) w
                        rw [List.getElem_map, List.getElem_map, ej1, ej2] at this
                        exact absurd (hw2.trans hw'.symm) this
                    rw [pe] at hM2
                    rw [tv_true hM2] at tq
                    cases tq
                  walk_at "rq"
                  refine ⟨by omega, ?_⟩
                  rintro v H15 ⟨np, rfl, e15', _⟩
                  walk_at "rq"
                  refine ⟨(x, (i : Int), d, k, rows, hs), rfl, ⟨hx11.ex e15', rsk⟩, ?_⟩
                  rintro v H16 ⟨wp, xs, rfl, e16, _⟩
                  walk_at "rq"
                  refine ⟨by walk_at "sz", fun t nt => ?_⟩
                  exact hq _ _ ((((e07.trans e711).trans e15').trans e16).new nt) (.inr ⟨⟨i, by omega, by omega, bad⟩, t, _, rfl, upd_same⟩)
              · rw [hnone]
                have bad : ¬ OKs rows d sy (i : Int) := fun h => by
                  obtain ⟨p2, hp2, hw2, _⟩ := h.1 w0 tw
                  exact hno p2 hp2 hw2
                walk_at "rq"
                refine ⟨by omega, ?_⟩
                rintro v H15 ⟨np, rfl, e15', _⟩
                walk_at "rq"
                refine ⟨(x, (i : Int), d, k, rows, hs), rfl, ⟨hx11.ex e15', rsk⟩, ?_⟩
                rintro v H16 ⟨wp, xs, rfl, e16, _⟩
                walk_at "rq"
                refine ⟨by walk_at "sz", fun t nt => ?_⟩
                exact hq _ _ ((((e07.trans e711).trans e15').trans e16).new nt) (.inr ⟨⟨i, by omega, by omega, bad⟩, t, _, rfl, upd_same⟩)
          · intro σ H11 hP
            obtain ⟨e11, good, q5, q6, q10, q11, q12, rfl⟩ := hP.out
            rw [List.length_map, List.take_length] at good
            have e711 := e710.trans e11
            walk_at "rq"
            refine ⟨(p, rq, pvs, Ts, rl, rows.length), rfl, ⟨e711 _ _ hp, paired_map (fun _ _ q => q.ex e711) hTB, tsok, e11 _ _ hrq, rrng, rlen, ok.2.2⟩, ?_⟩
            rintro v H12 ⟨lq, ll, rfl, nlq, e12, hlq, lsub, lbig, lcl, lln⟩
            have e712 := e711.trans e12
            walk_at "rq"
            refine ⟨by walk_at "sz", fun ne nne => ?_⟩
            refine ⟨_, .list [], dp_intsL (upd_old hlq nne), .lst (sqL upd_same) .nil, shaped_ints ll, by decide +kernel, ?_⟩
            rw [eqv_nil]
            walk_at "rq"
            have li := lasts_iff ok rmem rrng lsub lbig lcl
            have e713 := e712.new (o := .lst []) nne
            refine iteD (fun z => ?_) (fun z => ?_)
            · have bad : ¬ OKs rows d sy (i : Int) := fun h => h.2 (li.mp z)
              have llen : ll.length ≤ 10000 := by omega
              walk_at "rq"
              refine ⟨(x, (i : Int), d, lq, ll, rows, hs), rfl, ⟨hx7.ex e713, upd_old hlq nne, z, llen, fun k hk => ?_⟩, ?_⟩
              · have kr := rrng k (lsub k hk)
                obtain ⟨tl, t, h1, h2, h3⟩ := lcl k hk
                obtain ⟨r, hr⟩ : ∃ r, rows[k.toNat]? = some r := ⟨_, List.getElem?_eq_getElem (by omega)⟩
                exact ⟨kr.1, r, t, hr, (ok.2.1 _ _ _ h1 hr _).mp h2, h3⟩
              · rintro v H14 ⟨t14, rp, zz, ys, rfl, e14', ht14, hz14, hrp⟩
                walk_at "rd"
                refine ⟨by omega, ?_⟩
                rintro v H15 ⟨np, rfl, e15', _⟩
                walk_at "rq"
                have rsz : RS rows (i : Int) d zz := (reach_RS ok).mp ((rmem zz).mp (lsub zz hz14))
                refine ⟨(x, (i : Int), d, zz, rows, hs), rfl, ⟨((hx7.ex e713).ex e14').ex e15', rsz⟩, ?_⟩
                rintro v H16 ⟨wp, xs, rfl, e16, _⟩
                walk_at "rq"
                refine ⟨by walk_at "sz", fun t nt => ?_⟩
                exact hq _ _ (((((e07.trans e713).trans e14').trans e15').trans e16).new nt) (.inr ⟨⟨i, by omega, by omega, bad⟩, t, _, rfl, upd_same⟩)
            · refine .of ⟨e713, fun s hs' => ?_, _, _, _, _, _, _, _, _, rfl⟩
              by_cases w : s < i
              · exact all s w
              · have : s = i := by omega
                subst this
                refine ⟨fun w0 hw0 => ?_, fun h => z (li.mpr h)⟩
                obtain ⟨k, h1, h2, h3⟩ := hw0
                exact good k ((rmem k).mpr ((reach_RS ok).mpr h1)) w0 h3
        · intro σ H8 hP
          obtain ⟨e8, all, o5, o6, o7, o8, o9, o10, o11, o12, rfl⟩ := hP.out
          rw [← vsl] at all
          walk_at "rq"
          refine hq _ _ (e07.trans e8) (.inl ⟨fun s s0 s1 => ?_, rfl⟩)
          have := all s.toNat (by omega)
          rw [show ((s.toNat : Nat) : Int) = s by omega] at this
          exact this)
end
end Ff
end
section
set_option maxRecDepth 100000
set_option maxHeartbeats 4000000
/-! The watch. -/
namespace Ff
open PySem PySem.Spec PyProof.Rows L2
local macro_rules | `(tactic| walk_at "ex") => `(tactic| first
  | exact Ex.refl _
  | with_reducible assumption
  | (refine Ex.new ?_ (by with_reducible assumption); walk_at "ex")
  | (refine Ex.mut ?_ (by walk_at "hn"); walk_at "ex")
  | (refine Ex.trans ?_ (by with_reducible assumption); walk_at "ex"))
local macro_rules | `(tactic| walk_at "hn") => `(tactic| first
  | with_reducible assumption
  | exact Ex.back (by with_reducible assumption) (by with_reducible assumption)
  | exact upd_none (by with_reducible assumption)
  | exact upd_none (upd_none (by with_reducible assumption))
  | exact Ex.back (by with_reducible assumption) (upd_none (by with_reducible assumption))
  | exact Ex.back (by with_reducible assumption) (Ex.back (by with_reducible assumption) (by with_reducible assumption)))
local macro_rules | `(tactic| walk_at "hp") => `(tactic| first
  | with_reducible assumption
  | with_reducible exact upd_same
  | (refine Ex.at (by with_reducible assumption) ?_; walk_at "ex")
  | (refine upd_old ?_ (by with_reducible assumption); walk_at "hp")
  | (refine upd_off ?_ (by with_reducible assumption); walk_at "hp"))
local macro_rules | `(tactic| walk_at "sd") => `(tactic| ((try dsimp only [CMul, CDiv, CPow]); first | exact True.intro | omega | (with_reducible assumption)))
local macro_rules | `(tactic| walk_at "sz") => `(tactic| exact Nat.le_of_ble_eq_true rfl)
local macro_rules | `(tactic| walk_at "is") => `(tactic| first
  | refine ⟨_, _, _, _, _, rfl, .ty _, .base (.int _), kt_int, ?_⟩
  | refine ⟨_, _, _, _, _, rfl, .ty _, .base (.int _), kt_intb, ?_⟩
  | refine ⟨_, _, _, _, _, rfl, .ty _, .base (.bl _), kt_bool, ?_⟩
  | refine ⟨_, _, _, _, _, rfl, .ty _, .base (.str _), kt_str, ?_⟩
  | refine ⟨_, _, _, _, _, rfl, .ty _, .base (.tup (by walk_at "hp")), kt_tup, ?_⟩
  | refine ⟨_, _, _, _, _, rfl, .ty _, .base (.dK (by walk_at "hp")), kt_dict, ?_⟩)
local macro_rules | `(tactic| walk_at "rd1") => `(tactic| first
  | refine ⟨_, rfl, ?_⟩
  | refine ⟨_, _, rfl, rfl, And.intro (by walk_at "sd") ?_⟩
  | refine ⟨_, _, rfl, rfl, ?_⟩
  | refine ⟨rfl, ?_⟩
  | refine ⟨_, _, _, _, rfl, rfl, sqT (by walk_at "hp"), rfl, ?_⟩
  | refine ⟨_, _, _, _, rfl, rfl, sqL (by walk_at "hp"), rfl, ?_⟩
  | refine ⟨_, _, rfl, sqT (by walk_at "hp"), rfl, ?_⟩
  | refine ⟨_, _, _, _, _, rfl, by walk_at "hp", by assumption, by assumption, rfl, ?_⟩
  | refine ⟨.inl ⟨rfl, _, sqL (by walk_at "hp")⟩, ?_⟩
  | refine ⟨_, _, rfl, .inl (sqL (by walk_at "hp")), ?_⟩
  | refine ⟨_, _, rfl, .inr (sqT (by walk_at "hp")), ?_⟩
  | refine ⟨(_, _), rfl, ?_⟩
  | refine ⟨(_, _, _), rfl, ?_⟩
  | refine ⟨(_, _, _, _), rfl, ?_⟩
  | refine ⟨_, _, rfl, ?_⟩
  | refine ⟨_, _, _, rfl, ?_⟩
  | walk_at "is")
local macro_rules | `(tactic| walk_at "rd") => `(tactic| repeat walk_at "rd1")

local macro_rules | `(tactic| walk_at "ib") => `(tactic| refine .inr ⟨_, rfl, ?_⟩)
local macro_rules | `(tactic| walk_at "ii") => `(tactic| refine .inl ⟨_, rfl, ?_⟩)
theorem paired_app2 {α β : Type} {F : α → β → Prop} {a b : List α} {x y : List β} (h1 : Paired F a x) (h2 : Paired F b y) : Paired F (a ++ b) (x ++ y) := by
  induction h1 with
  | nil => exact h2
  | cons r t ih => exact .cons r ih
def MomAt (Z : Adr) (H : Hp) (m : Addr) (d : Int) (ls : List (Int × Int)) : Prop := ∃ dx lt vs dd bb, H m = some (.ins Z.moment dx [("q_doubt", .int d), ("q_looks", .ref lt), ("q_deed", dd), ("q_before", bb)]) ∧ H lt = some (.tup vs) ∧ LooksAt H vs ls
theorem MomAt.ex {Z : Adr} {H H' : Hp} {m : Addr} {d : Int} {ls : List (Int × Int)} (h : MomAt Z H m d ls) (e : Ex H H') : MomAt Z H' m d ls := by
  obtain ⟨dx, lt, vs, dd, bb, h1, h2, h3⟩ := h
  exact ⟨dx, lt, vs, dd, bb, e _ _ h1, e _ _ h2, h3.ex e⟩
structure LksOk (ls : List (Int × Int)) : Prop where
  rng : ∀ l ∈ ls, 1 ≤ l.1 ∧ l.1 ≤ 1000 ∧ 0 ≤ l.2 ∧ l.2 ≤ l.1
  lcm : lcmL (ls.map (·.1)) ≤ 5040
  ln : ls.length ≤ 6
def WatAt (Z : Adr) (H : Hp) (x : Addr) (d : Int) (ls : List (Int × Int)) : Prop := ∃ dx m, H x = some (.ins Z.watch dx [("v_now", .ref m), ("v_mark", .non)]) ∧ MomAt Z H m d ls ∧ 0 ≤ d ∧ d ≤ 1000 ∧ LksOk ls
section
variable {P : Program} {w : World} {K : PySem.W.Frag} {mg : PySem.Str → Option Value} {base : Heap} {Z : Adr}
def sp_Moment_init (Z : Adr) : Sp := mkSp (fun ((_, x, _, d, l, dd, bb) : Hp × Addr × Addr × Int × Addr × V × V) => [.ref x, .int d, .ref l, dd, bb])
  (fun (H1, x, dx, d, l, dd, bb) H => H1 x = none ∧ H1 dx = none ∧ dx ≠ x ∧ H = upd (upd H1 dx (.own x)) x (.ins Z.moment dx []))
  (fun (H1, x, dx, d, l, dd, bb) H v H' => v = .non ∧ Ex H1 H' ∧ H' x = some (.ins Z.moment dx [("q_doubt", .int d), ("q_looks", .ref l), ("q_deed", dd), ("q_before", bb)]))
abbrev s_Moment_init : Stmt := inClass (top 85) 0
theorem sc_Moment_init : FnScope ["self", "doubt", "looks", "deed", "before"] ["self", "doubt", "looks", "deed", "before"] (C8.fnScope s_Moment_init) := C8.fnScope_by (by decide +kernel)
theorem k_Moment (T : Txt P w K mg base Z) : C8.Mak P w K mg base 1 "Moment" Z.moment (sp_Moment_init Z) [] :=
  makD (k := 0) T.k_Moment sc_Moment_init (fun _ _ _ _ _ _ us h => by obtain ⟨_, _, _, _, _, rfl⟩ := us5 (by exact h); rfl) (fun _ => rfl) (fun cdv f A outer s H0 H Q E a hr pre hq => by
    have S := sc_Moment_init
    obtain ⟨H1, x, dx, d, l, dd, bb⟩ := a
    obtain ⟨nx, ndx, dne, rfl⟩ := pre
    have c1 := T.cl_Moment
    have c2 := T.na_q_doubt
    have c3 := T.na_q_looks
    have c4 := T.na_q_deed
    have c5 := T.na_q_before
    refine ⟨_, (pss_cons (ps_fld (pv 0) (pv 1) rfl)
  (pss_cons (ps_fld (pv 0) (pv 2) rfl)
  (pss_cons (ps_fld (pv 0) (pv 3) rfl)
  (pss_one (ps_fld (pv 0) (pv 4) rfl))))), ?_⟩
    walk_at "rd"
    refine ⟨_, _, _, _, rfl, upd_same, c1, c2, by walk_at "sz", ?_⟩
    walk_at "rd"
    refine ⟨_, _, _, _, rfl, upd_same, c1, c3, by walk_at "sz", ?_⟩
    walk_at "rd"
    refine ⟨_, _, _, _, rfl, upd_same, c1, c4, by walk_at "sz", ?_⟩
    walk_at "rd"
    refine ⟨_, _, _, _, rfl, upd_same, c1, c5, by walk_at "sz", ?_⟩
    exact hq _ _ ⟨rfl, ((((((Ex.refl _).mut ndx).mut nx).mut nx).mut nx).mut nx).mut nx, upd_same⟩)
def sp_is_deed : Sp := mkSp (fun ((p, _) : Addr × Int × Int) => [.ref p]) (fun (p, h, r) H => H p = some (.tup [.str "look", .int h, .int r])) (fun _ H v H' => v = .bl true ∧ Ex H H')
theorem dp_deed {K : PySem.W.Frag} {H : Hp} {p : Addr} {h r : Int} (hp : H p = some (.tup [.str "look", .int h, .int r])) : Dp K H (.ref p) (.tuple [.str "look", .int h, .int r]) := .tup (sqT hp) (.cons (.str _) (.cons (.int _) (.cons (.int _) .nil)))
theorem shaped_deed (h r : Int) : SeqAt.shaped (.tuple [.str "look", .int h, .int r]) = true := by
  have t2 : PyData.strOk ("look" : PySem.Str) = true := by decide +kernel
  unfold SeqAt.shaped
  simp [PyData.canLay0, PyData.canLayAll0, PyData.depth, PyData.depthAll, t2]
theorem deed_ne (h r : Int) : PyData.eqv (.tuple [.str "look", .int h, .int r]) (.tuple []) = false := by simp [PyData.eqv, PyData.eqvAll]
theorem deed_nu (h r : Int) : PyData.eqv (.tuple [.str "look", .int h, .int r]) (.tuple [.str "undo"]) = false := by simp [PyData.eqv, PyData.eqvAll]
abbrev s_is_deed : Stmt := top 87
theorem sc_is_deed : FnScope ["thing"] ["thing"] (C8.fnScope s_is_deed) := C8.fnScope_by (by decide +kernel)
theorem c_is_deed (T : Txt P w K mg base Z) : C8.Cal P w K mg base 1 "is_deed" sp_is_deed [] :=
  calD (k := 0) T.d_is_deed sc_is_deed (fun _ _ _ _ _ _ us h => by obtain ⟨_, rfl⟩ := us1 (by exact h); rfl) (fun _ => rfl) (fun cdv f A outer s H0 H Q E a hr pre hq => by
    have S := sc_is_deed
    obtain ⟨p, h, r⟩ := a
    have hp : H p = some (.tup [.str "look", .int h, .int r]) := pre
    refine ⟨_, (pss_cons (ps_if (PW.pt (pw_or (pt_not (pt_val (pe_callB (isI (K := K) rfl) (by rfl) T.n_isinstance (by decide +kernel) (pa_cons (pv 0) (pa_cons (pe_bltn (by rfl) T.n_tuple (by decide +kernel) (v := .ty "tuple") (u := .type "tuple") rfl) pa_nil))))) (pw_or (pt_cmpR (eqD (K := K) rfl hr.units) (pv 0) (pe_tup pa_nil) (nomark _)) (pw_or1 (pt_not (pt_val (pe_callB (isI (K := K) rfl) (by rfl) T.n_isinstance (by decide +kernel) (pa_cons (pe_ix (ixT (K := K) rfl) (pv 0) pe_int (fun _ _ => rfl)) (pa_cons (pe_bltn (by rfl) T.n_str (by decide +kernel) (v := .ty "str") (u := .type "str") rfl) pa_nil))))))))) (pss_one (ps_ret pe_bl)) pss_nil)
  (pss_one (ps_ret (pe_cmpR op_eq (pe_tabGet T rfl rfl rfl (by rfl) (pa_cons (pe_ix (ixT (K := K) rfl) (pv 0) pe_int (fun _ _ => rfl)) (pa_cons pe_int pa_nil))) (pe_callB (lenS (K := K) rfl) (by rfl) T.n_len (by decide +kernel) (pa_cons (pv 0) pa_nil)) (nomark _))))), ?_⟩
    walk_at "rd"
    refine ⟨by walk_at "sz", fun q nq => ?_⟩
    have hp1 := upd_old (o' := .tup []) hp nq
    refine ⟨_, .tuple [], dp_deed hp1, .tup (sqT upd_same) .nil, shaped_deed h r, by decide +kernel, ?_⟩
    rw [deed_ne]
    walk_at "rd"
    exact hq _ _ ⟨rfl, (Ex.refl _).new nq⟩)
def sp_with_look : Sp := mkSp (fun ((p, h, r, _) : Addr × Int × Int × List V × List (Int × Int)) => [.ref p, .int h, .int r]) (fun (p, h, r, vs, ls) H => H p = some (.tup vs) ∧ LooksAt H vs ls ∧ LksOk (ls ++ [(h, r)]))
  (fun (_, h, r, _, ls) H v H' => ∃ q vs', v = .ref q ∧ Ex H H' ∧ H' q = some (.tup vs') ∧ LooksAt H' vs' (ls ++ [(h, r)]))
abbrev s_with_look : Stmt := top 88
theorem sc_with_look : FnScope ["looks", "half", "reading", "look"] ["looks", "half", "reading"] (C8.fnScope s_with_look) := C8.fnScope_by (by decide +kernel)
theorem c_with_look (T : Txt P w K mg base Z) : C8.Cal P w K mg base 5 "with_look" sp_with_look [] :=
  calD (k := 4) T.d_with_look sc_with_look (fun _ _ _ _ _ _ us h => by obtain ⟨_, _, _, rfl⟩ := us3 (by exact h); rfl) (fun _ => rfl) (fun cdv f A outer s H0 H Q E a hr pre hq => by
    have S := sc_with_look
    obtain ⟨p, h, r, vs, ls⟩ := a
    obtain ⟨hp, hv, ok⟩ := pre
    have vl := paired_len hv
    have hb := ok.rng (h, r) (by simp)
    have hl := ok.ln
    rw [List.length_append] at hl
    have hl : ls.length + 1 ≤ 6 := hl
    refine ⟨_, (pss_cons (ps_if (pt_not (pt_val (C8.pe_c (c_is_look T) hr (by decide) rfl (pa_cons (pe_tup (pa_cons (pv 1) (pa_cons (pv 2) pa_nil))) pa_nil)))) (pss_one ps_never) pss_nil)
  (pss_cons (ps_if (pt_cmpR op_eq (pe_callB (lenS (K := K) rfl) (by rfl) T.n_len (by decide +kernel) (pa_cons (pv 0) pa_nil)) (C8.pe_gc rfl T.g_MOST_LOOKS) (nomark _)) (pss_one ps_never) pss_nil)
  (pss_cons (ps_expr (C8.pe_c (c_need_small T) hr (by decide) rfl (pa_cons (pe_op op_cat (pe_lc (own := [("look", 3)]) rfl S.nd (piT (K := K) rfl (pv 0)) (blkOk_by (by kernel_rfl)) (fun _ _ _ _ _ => (pg_name (i := 3) S.nd rfl (by first | exact Or.inl rfl | exact Or.inr rfl))) (fun _ _ _ _ _ => pts_nil) (fun _ _ _ _ _ => (pe_ix (ixT (K := K) rfl) (pv 3) pe_int (fun _ _ => rfl)))) (pe_lst (pa_cons (pv 1) pa_nil))) pa_nil)))
  (pss_one (ps_ret (pe_op (catA (K := K) rfl) (pv 0) (pe_tup (pa_cons (pe_tup (pa_cons (pv 1) (pa_cons (pv 2) pa_nil))) pa_nil)))))))), ?_⟩
    walk_at "rd"
    refine ⟨by walk_at "sz", fun q nq => ?_⟩
    walk_at "rd"
    refine ⟨(q, h, r), rfl, ⟨upd_same, hb.1, hb.2.1, hb.2.2.1, hb.2.2.2⟩, ?_⟩
    rintro v H' ⟨rfl, rfl⟩
    have e0 := (Ex.refl H).new (o := .tup [V.int h, .int r]) nq
    walk_at "rd"
    rw [dInt, decide_eq_false (show ¬ (vs.length : Int) = 6 by omega)]
    walk_at "rd"
    refine ⟨⟨_, sqT (e0 _ _ hp)⟩, fun D nD => ?_⟩
    refine lcE (walk_tup (xs := vs)) nD (by omega) (fun _ => true) (fun i y _ => ∃ l, ls[i]? = some l ∧ y = .int l.1) (fun _ r => r) (fun _ r => r) (fun H e => sqT (e _ _ (e0 _ _ hp))) ?_ ?_
    · rintro i y H4 H5 hi e4 ⟨rfl, hy⟩ S Z hS hZ
      obtain ⟨l, hx⟩ : ∃ l, ls[i]? = some l := ⟨_, List.getElem?_eq_getElem (by omega)⟩
      obtain ⟨u, rfl, hu⟩ := paired_get hv hy hx
      have hu4 := e4 _ _ (e0 _ _ hu)
      walk_at "rd"
      exact hS _ _ (Ex.refl _) rfl ⟨l, hx, rfl⟩
    · intro H1 ys e1 hD got
      unfold Got at got
      rw [range_all, vl] at got
      have hz := got_list (H := H1) got
      subst hz
      walk_at "rd"
      refine ⟨by walk_at "sz", fun q1 nq1 => ?_⟩
      refine ⟨_, _, _, _, rfl, rfl, upd_old hD nq1, upd_same, szL (by rw [List.length_map]; show ls.length + 1 ≤ _; omega), fun q2 nq2 => ?_⟩
      walk_at "rd"
      have mp : ls.map (fun x => V.int x.1) ++ [V.int h] = ((ls ++ [(h, r)]).map (·.1)).map .int := by simp
      have e2 := (((e0.trans e1).new (o := .lst [V.int h]) nq1).new (o := .lst (ls.map (fun x => V.int x.1) ++ [V.int h])) nq2)
      refine ⟨(q2, (ls ++ [(h, r)]).map (·.1)), rfl, ⟨.inl (upd_same.trans (congrArg some (congrArg HO.lst mp))), fun n hn => ?_, ok.lcm⟩, ?_⟩
      · obtain ⟨l, hl, rfl⟩ := List.mem_map.mp hn
        have := ok.rng l hl
        omega
      · rintro v H' ⟨rfl, rfl⟩
        walk_at "rd"
        refine ⟨by walk_at "sz", fun q3 nq3 => ?_⟩
        walk_at "rd"
        refine ⟨by walk_at "sz", fun q4 nq4 => ?_⟩
        have e3 := (e2.new (o := .tup [V.int h, .int r]) nq3).new (o := .tup [V.ref q3]) nq4
        have hq3 := upd_old (o' := .tup [V.ref q3]) (upd_same (H := upd (upd H1 q1 (.lst [V.int h])) q2 (.lst (ls.map (fun x => V.int x.1) ++ [V.int h]))) (a := q3) (o := .tup [V.int h, .int r])) nq4
        refine ⟨_, _, _, _, rfl, rfl, sqT (e3 _ _ hp), sqT upd_same, szL (by show vs.length + 1 ≤ _; omega), fun z => ?_, (fun _ z => nomatch z), fun _ _ q5 nq5 => ?_⟩
        · subst z
          have : ls = [] := List.length_eq_zero_iff.mp (by rw [← vl]; rfl)
          subst this
          exact hq _ _ ⟨q4, _, rfl, e3, upd_same, .cons ⟨q3, rfl, hq3⟩ .nil⟩
        · have e4 := e3.new (o := .tup (vs ++ [V.ref q3])) nq5
          exact hq _ _ ⟨q5, _, rfl, e4, upd_same, paired_app2 (paired_map (fun _ _ ⟨u, a, b⟩ => ⟨u, a, e4 _ _ b⟩) hv) (.cons ⟨q3, rfl, upd_old hq3 nq5⟩ .nil)⟩)
theorem LksOk.left {ls : List (Int × Int)} (ok : LksOk ls) : (∀ l ∈ ls, 1 ≤ l.1 ∧ l.1 ≤ 1000) ∧ lcmL (ls.map (·.1)) ≤ 5040 ∧ ls.length ≤ 1000 := ⟨fun l h => ⟨(ok.rng l h).1, (ok.rng l h).2.1⟩, ok.lcm, by have := ok.ln; omega⟩
def sp_later_moment (Z : Adr) : Sp := mkSp (fun ((m, p, _) : Addr × Addr × Int × List (Int × Int) × Int × Int) => [.ref m, .ref p]) (fun (m, p, d, ls, h, r) H => MomAt Z H m d ls ∧ H p = some (.tup [.str "look", .int h, .int r]) ∧ LksOk (ls ++ [(h, r)]))
  (fun (_, _, d, ls, h, r) H v H' => ∃ n, v = .ref n ∧ Ex H H' ∧ MomAt Z H' n d (ls ++ [(h, r)]))
abbrev s_later_moment : Stmt := top 90
theorem sc_later_moment : FnScope ["now", "deed"] ["now", "deed"] (C8.fnScope s_later_moment) := C8.fnScope_by (by decide +kernel)
theorem c_later_moment (T : Txt P w K mg base Z) : C8.Cal P w K mg base 6 "later_moment" (sp_later_moment Z) [] :=
  calD (k := 5) T.d_later_moment sc_later_moment (fun _ _ _ _ _ _ us h => by obtain ⟨_, _, rfl⟩ := us2 (by exact h); rfl) (fun _ => rfl) (fun cdv f A outer s H0 H Q E a hr pre hq => by
    have S := sc_later_moment
    obtain ⟨m, p, d, ls, h, r⟩ := a
    obtain ⟨⟨dx, lt, vs, dd, bb, hm, hlt, hls⟩, hp, ok⟩ := pre
    have c1 := T.cl_Moment
    have c2 := T.na_q_doubt
    have c3 := T.na_q_looks
    refine ⟨_, (pss_cons (ps_if (pt_cmpR op_eq (pe_ix (ixT (K := K) rfl) (pv 1) pe_int (fun _ _ => rfl)) pe_str (nomark _)) (pss_one (ps_ret (C8.pe_mk (k_Moment T) hr (by decide) rfl (pa_cons (fldK (K := K) rfl (pv 0) rfl) (pa_cons (C8.pe_c (c_with_look T) hr (by decide) rfl (pa_cons (fldK (K := K) rfl (pv 0) rfl) (pa_cons (pe_ix (ixT (K := K) rfl) (pv 1) pe_int (fun _ _ => rfl)) (pa_cons (pe_ix (ixT (K := K) rfl) (pv 1) pe_int (fun _ _ => rfl)) pa_nil)))) (pa_cons (pv 1) (pa_cons (pv 0) pa_nil))))))) pss_nil)
  (pss_cons ps_never
  (pss_cons ps_never
  (pss_one ps_never)))), ?_⟩
    walk_at "rd"
    refine ⟨(lt, h, r, vs, ls), rfl, ⟨hlt, hls, ok⟩, ?_⟩
    rintro v H1 ⟨q, vs', rfl, e1, hq1, hls1⟩
    walk_at "rd"
    refine fun z dz nz ndz dne => ?_
    refine ⟨(H1, z, dz, d, q, .ref p, .ref m), rfl, ⟨nz, ndz, dne, rfl⟩, ?_⟩
    rintro v H2 ⟨rfl, e2, hz⟩
    exact ⟨rfl, hq _ _ ⟨z, rfl, e1.trans e2, dz, q, vs', _, _, hz, e2 _ _ hq1, hls1.ex e2⟩⟩)
def sp_Watch_init (Z : Adr) : Sp := mkSp (fun ((_, x, _, d) : Hp × Addr × Addr × Int) => [.ref x, .int d]) (fun (H1, x, dx, d) H => H1 x = none ∧ H1 dx = none ∧ dx ≠ x ∧ H = upd (upd H1 dx (.own x)) x (.ins Z.watch dx []) ∧ 0 ≤ d ∧ d ≤ 1000)
  (fun (H1, x, _, d) H v H' => v = .non ∧ Ex H1 H' ∧ WatAt Z H' x d [])
abbrev s_Watch_init : Stmt := inClass (top 92) 0
theorem sc_Watch_init : FnScope ["self", "doubt"] ["self", "doubt"] (C8.fnScope s_Watch_init) := C8.fnScope_by (by decide +kernel)
theorem k_Watch (T : Txt P w K mg base Z) : C8.Mak P w K mg base 4 "Watch" Z.watch (sp_Watch_init Z) [] :=
  makDB (k := 3) T.k_Watch sc_Watch_init (fun _ => rfl) (fun cdv f A outer s H0 H Q E a hr pre hq => by
    have S := sc_Watch_init
    obtain ⟨H1, x, dx, d⟩ := a
    obtain ⟨nx, nd, dne, rfl, d0, d1⟩ := pre
    obtain ⟨B, hB⟩ : ∃ B, upd (upd H1 dx (.own x)) x (.ins Z.watch dx []) = B := ⟨_, rfl⟩
    have eB : Ex H1 B := by rw [← hB]; exact ((Ex.refl _).mut nd).mut nx
    have hx : B x = some (.ins Z.watch dx []) := by rw [← hB]; exact upd_same
    rw [hB]
    have c1 := T.cl_Watch
    have c2 := T.na_v_now
    have c3 := T.na_v_mark
    refine ⟨_, (pss_cons (ps_expr (C8.pe_c (c_need_doubt T) hr (by decide) rfl (pa_cons (pv 1) pa_nil)))
  (pss_cons (ps_fld (pv 0) (C8.pe_mk (k_Moment T) hr (by decide) rfl (pa_cons (pv 1) (pa_cons (pe_tup pa_nil) (pa_cons pe_non (pa_cons pe_non pa_nil))))) rfl)
  (pss_one (ps_fld (pv 0) pe_non rfl)))), ?_⟩
    walk_at "rd"
    refine ⟨⟨d0, d1⟩, ?_⟩
    rintro v H' ⟨rfl, rfl⟩
    walk_at "rd"
    refine ⟨by walk_at "sz", fun lt nlt => ?_⟩
    walk_at "rd"
    refine fun z dz nz ndz dne2 => ?_
    refine ⟨(_, z, dz, d, lt, .non, .non), rfl, ⟨nz, ndz, dne2, rfl⟩, ?_⟩
    rintro v H2 ⟨rfl, e2, hz⟩
    refine ⟨rfl, ?_⟩
    have e02 := ((Ex.refl _).new (o := .tup []) nlt).trans e2
    have hx2 := e02 _ _ hx
    walk_at "rd"
    refine ⟨_, _, _, _, rfl, hx2, c1, c2, by walk_at "sz", ?_⟩
    walk_at "rd"
    refine ⟨_, _, _, _, rfl, upd_same, c1, c3, by walk_at "sz", ?_⟩
    have zx : z ≠ x := fun e => by
      have h1 := upd_old (o' := .tup []) hx nlt
      rw [← e, nz] at h1
      cases h1
    have lx : lt ≠ x := fun e => by rw [e, hx] at nlt; cases nlt
    refine hq _ _ ⟨rfl, ((eB.trans e02).mut nx).mut nx, dx, z, upd_same, ⟨dz, lt, [], _, _, upd_off (upd_off hz zx) zx, upd_off (upd_off (e2 _ _ upd_same) lx) lx, .nil⟩, d0, d1, ⟨by simp, by decide, by simp⟩⟩)
def sp_Watch_left (Z : Adr) : Sp := mkSp (fun ((x, _) : Addr × Int × List (Int × Int)) => [.ref x]) (fun (x, d, ls) H => WatAt Z H x d ls) (fun (_, d, ls) H v H' => NewP Z (lcmL (ls.map (·.1))) (LeftM d ls) H v H')
abbrev s_Watch_left : Stmt := inClass (top 92) 3
theorem sc_Watch_left : FnScope ["self"] ["self"] (C8.fnScope s_Watch_left) := C8.fnScope_by (by decide +kernel)
theorem c_Watch_left (T : Txt P w K mg base Z) : Pro P w K mg base 9 Z.watch "left" (sp_Watch_left Z) :=
  proD (k := 8) T.p_Watch_left sc_Watch_left (fun _ _ _ _ _ _ us h => by obtain ⟨_, rfl⟩ := us1 (by exact h); rfl) (fun _ => rfl) (fun cdv f A outer s H0 H Q E a hr pre hq => by
    have S := sc_Watch_left
    obtain ⟨x, d, ls⟩ := a
    obtain ⟨dx, m, hx, ⟨dm, lt, vs, dd, bb, hm, hlt, hls⟩, d0, d1, ok⟩ := pre
    have c1 := T.cl_Watch
    have c2 := T.na_v_now
    have c3 := T.cl_Moment
    have c4 := T.na_q_looks
    have c5 := T.na_q_doubt
    have lo := ok.left
    refine ⟨_, (pss_one (ps_ret (C8.pe_c (c_left_by T) hr (by decide) rfl (pa_cons (pe_callTy (lstO (K := K) rfl) (by rfl) T.n_list (by decide +kernel) (pa_cons (fldK (K := K) rfl (fldK (K := K) rfl (pv 0) rfl) rfl) pa_nil)) (pa_cons (fldK (K := K) rfl (fldK (K := K) rfl (pv 0) rfl) rfl) pa_nil))))), ?_⟩
    walk_at "rd"
    refine fun l nl => ?_
    have hx1 := upd_old (o' := .lst vs) hx nl
    have hm1 := upd_old (o' := .lst vs) hm nl
    walk_at "rd"
    refine ⟨(l, d, vs, ls), rfl, ⟨upd_same, hls.ex ((Ex.refl _).new nl), lo.1, lo.2.1, lo.2.2⟩, ?_⟩
    rintro v H' ⟨z, r, rfl, nz, e, hr, hp⟩
    exact hq _ _ ⟨z, r, rfl, upd_none nz, ((Ex.refl _).new nl).trans e, hr, hp⟩)
def sp_Watch_do (Z : Adr) : Sp := mkSp (fun ((x, p, _) : Addr × Addr × Int × List (Int × Int) × Int × Int) => [.ref x, .ref p]) (fun (x, p, d, ls, h, r) H => WatAt Z H x d ls ∧ H p = some (.tup [.str "look", .int h, .int r]) ∧ LksOk (ls ++ [(h, r)]))
  (fun (x, _, d, ls, h, r) H v H' => (∀ a o, a ≠ x → H a = some o → H' a = some o) ∧ WatAt Z H' x d (ls ++ [(h, r)]))
abbrev s_Watch_do : Stmt := inClass (top 92) 4
theorem sc_Watch_do : FnScope ["self", "deed"] ["self", "deed"] (C8.fnScope s_Watch_do) := C8.fnScope_by (by decide +kernel)
theorem c_Watch_do (T : Txt P w K mg base Z) : C8.Met P w K mg base 11 Z.watch "do" (sp_Watch_do Z) [] :=
  metD (k := 10) T.m_Watch_do sc_Watch_do (fun _ _ _ _ _ _ us h => by obtain ⟨_, _, rfl⟩ := us2 (by exact h); rfl) (fun _ => rfl) (fun cdv f A outer s H0 H Q E a hr pre hq => by
    have S := sc_Watch_do
    obtain ⟨x, p, d, ls, h, r⟩ := a
    obtain ⟨⟨dx, m, hx, hm, d0, d1, ok0⟩, hp, ok⟩ := pre
    have c1 := T.cl_Watch
    have c2 := T.na_v_now
    refine ⟨_, (pss_cons (ps_if (PW.pt (pw_or (pt_not (pt_val (C8.pe_c (c_is_deed T) hr (by decide) rfl (pa_cons (pv 1) pa_nil)))) (pw_or1 (PW.pt (pw_and (pt_cmpR (eqD (K := K) rfl hr.units) (pv 1) (pe_tup (pa_cons pe_str pa_nil)) (nomark _)) (pw_and1 (pt_cmpR op_isN (fldK (K := K) rfl (fldK (K := K) rfl (pv 0) rfl) rfl) pe_non (nomark _)))))))) (pss_one ps_never) pss_nil)
  (pss_cons (ps_fld (pv 0) (pe_ifExp (pt_cmpR (eqD (K := K) rfl hr.units) (pv 1) (pe_tup (pa_cons pe_str pa_nil)) (nomark _)) (fldK (K := K) rfl (fldK (K := K) rfl (pv 0) rfl) rfl) (C8.pe_c (c_later_moment T) hr (by decide) rfl (pa_cons (fldK (K := K) rfl (pv 0) rfl) (pa_cons (pv 1) pa_nil)))) rfl)
  (pss_one (ps_ret (pe_pr (c_Watch_left T) hr (by decide) (pv 0)))))), ?_⟩
    walk_at "rd"
    refine ⟨(p, h, r), rfl, hp, ?_⟩
    rintro v H1 ⟨rfl, e1⟩
    have sh1 : SeqAt.shaped (.tuple [.str "undo"]) = true := by decide +kernel
    walk_at "rd"
    refine ⟨by walk_at "sz", fun q nq => ?_⟩
    refine ⟨_, .tuple [.str "undo"], dp_deed (upd_old (e1 _ _ hp) nq), .tup (sqT upd_same) (.cons (.str _) .nil), shaped_deed h r, sh1, ?_⟩
    rw [deed_nu]
    walk_at "rd"
    refine ⟨by walk_at "sz", fun q2 nq2 => ?_⟩
    have e2 := (e1.new (o := .tup [V.str "undo"]) nq).new (o := .tup [V.str "undo"]) nq2
    refine ⟨_, .tuple [.str "undo"], dp_deed (e2 _ _ hp), .tup (sqT upd_same) (.cons (.str _) .nil), shaped_deed h r, sh1, ?_⟩
    rw [deed_nu]
    have hx2 := e2 _ _ hx
    walk_at "rd"
    refine ⟨(m, p, d, ls, h, r), rfl, ⟨hm.ex e2, e2 _ _ hp, ok⟩, ?_⟩
    rintro v H3 ⟨n, rfl, e3, hn⟩
    have hx3 := e3 _ _ hx2
    walk_at "rd"
    refine ⟨_, _, _, _, rfl, hx3, c1, c2, by walk_at "sz", ?_⟩
    have e03 := e2.trans e3
    obtain ⟨H4, hH4⟩ : ∃ H4, upd H3 x (.ins Z.watch dx (putF "v_now" (.ref n) [("v_now", .ref m), ("v_mark", .non)])) = H4 := ⟨_, rfl⟩
    have off : ∀ a o, a ≠ x → H a = some o → H4 a = some o := fun a o ne h => by rw [← hH4]; exact upd_off (e03 _ _ h) ne
    have w4 : WatAt Z H4 x d (ls ++ [(h, r)]) := by
      obtain ⟨dn, lt, vs, dd, bb, b1, b2, b3⟩ := hn
      have k : ∀ {a o}, H3 a = some o → o ≠ .ins Z.watch dx [("v_now", .ref m), ("v_mark", .non)] → H4 a = some o := fun {a o} h n => by
        rw [← hH4]
        exact upd_off h (ne_of h hx3 n)
      refine ⟨dx, n, by rw [← hH4]; exact upd_same, ⟨dn, lt, vs, dd, bb, k b1 (fun z => ?_), k b2 (fun z => nomatch z), paired_map (fun _ _ ⟨u, a, b⟩ => ⟨u, a, k b (fun z => nomatch z)⟩) b3⟩, d0, d1, ok⟩
      have := congrArg (fun o => match o with | HO.ins _ _ fs => fs.length | _ => 0) z
      simp at this
    rw [hH4]
    obtain ⟨dx4, m4, hx4, _⟩ := id w4
    walk_at "rd"
    refine ⟨_, _, _, rfl, hx4, (x, d, ls ++ [(h, r)]), rfl, w4, ?_⟩
    rintro v H5 ⟨z, _, rfl, nz, e5, _, _⟩
    refine hq _ _ ⟨fun a o n h => e5 _ _ (off a o n h), ?_⟩
    obtain ⟨dx', m', b1, b2, b3⟩ := w4
    exact ⟨dx', m', e5 _ _ b1, b2.ex e5, b3⟩)
theorem WatAt.ex {Z : Adr} {H H' : Hp} {x : Addr} {d : Int} {ls : List (Int × Int)} (h : WatAt Z H x d ls) (e : Ex H H') : WatAt Z H' x d ls := by
  obtain ⟨dx', m', b1, b2, b3⟩ := h
  exact ⟨dx', m', e _ _ b1, b2.ex e, b3⟩
def sp_Watch_iadd (Z : Adr) : Sp := mkSp (fun ((x, p, _) : Addr × Addr × Int × List (Int × Int) × Int × Int) => [.ref x, .ref p]) (fun (x, p, d, ls, h, r) H => WatAt Z H x d ls ∧ H p = some (.tup [.int h, .int r]) ∧ LksOk (ls ++ [(h, r)]))
  (fun (x, _, d, ls, h, r) H v H' => v = .ref x ∧ (∀ a o, a ≠ x → H a = some o → H' a = some o) ∧ WatAt Z H' x d (ls ++ [(h, r)]))
abbrev s_Watch_iadd : Stmt := inClass (top 92) 8
theorem sc_Watch_iadd : FnScope ["self", "look"] ["self", "look"] (C8.fnScope s_Watch_iadd) := C8.fnScope_by (by decide +kernel)
theorem c_Watch_iadd (T : Txt P w K mg base Z) : C8.Met P w K mg base 12 Z.watch "__iadd__" (sp_Watch_iadd Z) [] :=
  metD (k := 11) T.m_Watch_iadd sc_Watch_iadd (fun _ _ _ _ _ _ us h => by obtain ⟨_, _, rfl⟩ := us2 (by exact h); rfl) (fun _ => rfl) (fun cdv f A outer s H0 H Q E a hr pre hq => by
    have S := sc_Watch_iadd
    obtain ⟨x, p, d, ls, h, r⟩ := a
    obtain ⟨hw, hp, ok⟩ := pre
    have hb := ok.rng (h, r) (by simp)
    obtain ⟨dx, m, hx, hrest⟩ := id hw
    refine ⟨_, (pss_cons (ps_if (pt_not (pt_val (C8.pe_c (c_is_look T) hr (by decide) rfl (pa_cons (pv 1) pa_nil)))) (pss_one ps_never) pss_nil)
  (pss_cons (ps_expr (C8.pe_mt (pl := _) (c_Watch_do T) hr (by decide) (pv 0) (pa_cons (pe_tup (pa_cons pe_str (pa_cons (pe_ix (ixT (K := K) rfl) (pv 1) pe_int (fun _ _ => rfl)) (pa_cons (pe_ix (ixT (K := K) rfl) (pv 1) pe_int (fun _ _ => rfl)) pa_nil)))) pa_nil)))
  (pss_one (ps_ret (pv 0))))), ?_⟩
    walk_at "rd"
    refine ⟨(p, h, r), rfl, ⟨hp, hb.1, hb.2.1, hb.2.2.1, hb.2.2.2⟩, ?_⟩
    rintro v H' ⟨rfl, rfl⟩
    walk_at "rd"
    refine ⟨_, _, _, rfl, hx, rfl, ?_⟩
    walk_at "rd"
    refine ⟨by walk_at "sz", fun q nq => ?_⟩
    refine ⟨(x, q, d, ls, h, r), rfl, ⟨hw.ex ((Ex.refl _).new nq), upd_same, ok⟩, ?_⟩
    rintro v H2 ⟨off, w2⟩
    walk_at "rd"
    exact hq _ _ ⟨rfl, fun a o n h => off a o n (upd_old h nq), w2⟩)
def sp_Watch_contains (Z : Adr) : Sp := mkSp (fun ((x, q, _) : Addr × Addr × Int × Int × Int × List (Int × Int)) => [.ref x, .ref q]) (fun (x, q, t, b, d, ls) H => WatAt Z H x d ls ∧ H q = some (.tup [.int t, .int b]) ∧ 0 ≤ t ∧ 1 ≤ b ∧ Int.gcd t b = 1 ∧ b < 2 ^ 29)
  (fun (_, _, t, b, d, ls) H v H' => v = .bl (tv (LeftM d ls (spotR t b))) ∧ Ex H H')
abbrev s_Watch_contains : Stmt := inClass (top 92) 9
theorem sc_Watch_contains : FnScope ["self", "speed"] ["self", "speed"] (C8.fnScope s_Watch_contains) := C8.fnScope_by (by decide +kernel)
theorem c_Watch_contains (T : Txt P w K mg base Z) : C8.Met P w K mg base 11 Z.watch "__contains__" (sp_Watch_contains Z) [] :=
  metD (k := 10) T.m_Watch_contains sc_Watch_contains (fun _ _ _ _ _ _ us h => by obtain ⟨_, _, rfl⟩ := us2 (by exact h); rfl) (fun _ => rfl) (fun cdv f A outer s H0 H Q E a hr pre hq => by
    have S := sc_Watch_contains
    obtain ⟨x, q, t, b, d, ls⟩ := a
    obtain ⟨hw, hq0, t0, b1, gc, b2⟩ := pre
    obtain ⟨dx, m, hx, hrest⟩ := id hw
    refine ⟨_, (pss_one (ps_ret (pe_cmpR (op_inOwn (c_Pattern_contains T) (hr.mono (by decide))) (pv 1) (pe_pr (c_Watch_left T) hr (by decide) (pv 0)) (by rfl)))), ?_⟩
    walk_at "rd"
    refine ⟨_, _, _, rfl, hx, (x, d, ls), rfl, hw, ?_⟩
    rintro v H1 ⟨z, r, rfl, nz, e1, hr, hp⟩
    obtain ⟨_, d1, f1, i1⟩ := hp.form
    walk_at "rd"
    refine ⟨_, _, _, rfl, i1, (z, q, t, b, r, LeftM d ls), rfl, ⟨hp, e1 _ _ hq0, t0, b1, gc, b2⟩, ?_⟩
    rintro v H2 ⟨rfl, e2⟩
    exact ⟨_, rfl, hq _ _ ⟨rfl, e1.trans e2⟩⟩)
end
end Ff
end
section
set_option maxRecDepth 100000
set_option maxHeartbeats 4000000
/-! The law's draws. -/
namespace Ff
open PySem PySem.Spec PyProof.Rows L2
local macro_rules | `(tactic| walk_at "ex") => `(tactic| first
  | exact Ex.refl _
  | with_reducible assumption
  | (refine Ex.new ?_ (by with_reducible assumption); walk_at "ex")
  | (refine Ex.mut ?_ (by walk_at "hn"); walk_at "ex")
  | (refine Ex.trans ?_ (by with_reducible assumption); walk_at "ex"))
local macro_rules | `(tactic| walk_at "hn") => `(tactic| first
  | with_reducible assumption
  | exact Ex.back (by with_reducible assumption) (by with_reducible assumption)
  | exact upd_none (by with_reducible assumption)
  | exact upd_none (upd_none (by with_reducible assumption))
  | exact Ex.back (by with_reducible assumption) (upd_none (by with_reducible assumption))
  | exact Ex.back (by with_reducible assumption) (Ex.back (by with_reducible assumption) (by with_reducible assumption)))
local macro_rules | `(tactic| walk_at "hp") => `(tactic| first
  | with_reducible assumption
  | with_reducible exact upd_same
  | (refine Ex.at (by with_reducible assumption) ?_; walk_at "ex")
  | (refine upd_old ?_ (by with_reducible assumption); walk_at "hp")
  | (refine upd_off ?_ (by with_reducible assumption); walk_at "hp"))
local macro_rules | `(tactic| walk_at "sd") => `(tactic| ((try dsimp only [CMul, CDiv, CPow]); first | exact True.intro | omega | (with_reducible assumption)))
local macro_rules | `(tactic| walk_at "sz") => `(tactic| exact Nat.le_of_ble_eq_true rfl)
local macro_rules | `(tactic| walk_at "is") => `(tactic| first
  | refine ⟨_, _, _, _, _, rfl, .ty _, .base (.int _), kt_int, ?_⟩
  | refine ⟨_, _, _, _, _, rfl, .ty _, .base (.int _), kt_intb, ?_⟩
  | refine ⟨_, _, _, _, _, rfl, .ty _, .base (.bl _), kt_bool, ?_⟩
  | refine ⟨_, _, _, _, _, rfl, .ty _, .base (.str _), kt_str, ?_⟩
  | refine ⟨_, _, _, _, _, rfl, .ty _, .base (.tup (by walk_at "hp")), kt_tup, ?_⟩
  | refine ⟨_, _, _, _, _, rfl, .ty _, .base (.dK (by walk_at "hp")), kt_dict, ?_⟩)
local macro_rules | `(tactic| walk_at "rd1") => `(tactic| first
  | refine ⟨_, rfl, ?_⟩
  | refine ⟨_, _, rfl, rfl, And.intro (by walk_at "sd") ?_⟩
  | refine ⟨_, _, rfl, rfl, ?_⟩
  | refine ⟨rfl, ?_⟩
  | refine ⟨_, _, _, _, rfl, rfl, sqT (by walk_at "hp"), rfl, ?_⟩
  | refine ⟨_, _, _, _, rfl, rfl, sqL (by walk_at "hp"), rfl, ?_⟩
  | refine ⟨_, _, rfl, sqT (by walk_at "hp"), rfl, ?_⟩
  | refine ⟨_, _, _, _, _, rfl, by walk_at "hp", by assumption, by assumption, rfl, ?_⟩
  | refine ⟨.inl ⟨rfl, _, sqL (by walk_at "hp")⟩, ?_⟩
  | refine ⟨_, _, rfl, .inl (sqL (by walk_at "hp")), ?_⟩
  | refine ⟨_, _, rfl, .inr (sqT (by walk_at "hp")), ?_⟩
  | refine ⟨(_, _), rfl, ?_⟩
  | refine ⟨(_, _, _), rfl, ?_⟩
  | refine ⟨(_, _, _, _), rfl, ?_⟩
  | refine ⟨_, _, rfl, ?_⟩
  | refine ⟨_, _, _, rfl, ?_⟩
  | walk_at "is")
local macro_rules | `(tactic| walk_at "rd") => `(tactic| repeat walk_at "rd1")

local macro_rules | `(tactic| walk_at "ib") => `(tactic| refine .inr ⟨_, rfl, ?_⟩)
local macro_rules | `(tactic| walk_at "ii") => `(tactic| refine .inl ⟨_, rfl, ?_⟩)
def drK (l c : Addr) (r t m : Int) : HO := .dK [(.inr "large", .ref l), (.inr "cells", .ref c), (.inr "rest", .int r), (.inr "turn", .int t), (.inr "mix", .int m)]
structure DrW (H : Hp) (d l c : Addr) (r t m : Int) (ns cs : List Int) : Prop where
  hd : H d = some (drK l c r t m)
  hl : H l = some (.lst (ns.map V.int))
  hc : H c = some (.lst (cs.map V.int))
  cl : c ≠ l
  n0 : ∀ n ∈ ns, 0 ≤ n
  r0 : 0 ≤ r
  m0 : 0 ≤ m
  m1 : m < 2147483648
  ln : ns.length ≤ 63
  cn : cs.length ≤ 63
/-- the draw's two lists: the large numbers' (which is written) and the cells' -/
abbrev Lc := Addr × Addr
def DrawAt (H : Hp) (d : Addr) (l : Lc) : Prop := ∃ r t m ns cs, DrW H d l.1 l.2 r t m ns cs
/-- everything stays, but the draw's dict and its large list -/
def Exc (d : Addr) (l : Lc) (H H' : Hp) : Prop := Exd d l.1 H H'
theorem Exc.refl {d : Addr} {l : Lc} (H : Hp) : Exc d l H H := Exd.refl H
theorem Exc.trans {d : Addr} {l : Lc} {H H1 H2 : Hp} (a : Exc d l H H1) (b : Exc d l H1 H2) : Exc d l H H2 := Exd.trans a b
theorem Exc.mut {d : Addr} {l : Lc} {H H' : Hp} {p : Addr} {o : HO} (e : Exc d l H H') (h : H p = none) : Exc d l H (upd H' p o) := Exd.mut e h
theorem Exc.new {d : Addr} {l : Lc} {H H' : Hp} {p : Addr} {o : HO} (e : Exc d l H H') (h : H' p = none) : Exc d l H (upd H' p o) := Exd.new e h
theorem Ex.exc {d : Addr} {l : Lc} {H H' : Hp} (e : Ex H H') : Exc d l H H' := Ex.exd e
theorem dg_rest {H : Hp} {d l c : Addr} {r t m : Int} (h : H d = some (drK l c r t m)) : DGet H d (.str "rest") (some (.int r)) := Or.inl ⟨_, .inr "rest", .inl h, rfl, rfl⟩
theorem dg_turn {H : Hp} {d l c : Addr} {r t m : Int} (h : H d = some (drK l c r t m)) : DGet H d (.str "turn") (some (.int t)) := Or.inl ⟨_, .inr "turn", .inl h, rfl, rfl⟩
theorem dg_mix {H : Hp} {d l c : Addr} {r t m : Int} (h : H d = some (drK l c r t m)) : DGet H d (.str "mix") (some (.int m)) := Or.inl ⟨_, .inr "mix", .inl h, rfl, rfl⟩
theorem dg_large {H : Hp} {d l c : Addr} {r t m : Int} (h : H d = some (drK l c r t m)) : DGet H d (.str "large") (some (.ref l)) := Or.inl ⟨_, .inr "large", .inl h, rfl, rfl⟩
theorem dg_cells {H : Hp} {d l c : Addr} {r t m : Int} (h : H d = some (drK l c r t m)) : DGet H d (.str "cells") (some (.ref c)) := Or.inl ⟨_, .inr "cells", .inl h, rfl, rfl⟩
theorem du_rest {H : Hp} {d l c : Addr} {r t m r' : Int} (h : H d = some (drK l c r t m)) : DPut H d (.str "rest") (.int r') (upd H d (drK l c r' t m)) := Or.inl ⟨_, .inr "rest", h, rfl, by walk_at "sz", rfl⟩
theorem du_turn {H : Hp} {d l c : Addr} {r t m r' : Int} (h : H d = some (drK l c r t m)) : DPut H d (.str "turn") (.int r') (upd H d (drK l c r r' m)) := Or.inl ⟨_, .inr "turn", h, rfl, by walk_at "sz", rfl⟩
theorem du_mix {H : Hp} {d l c : Addr} {r t m r' : Int} (h : H d = some (drK l c r t m)) : DPut H d (.str "mix") (.int r') (upd H d (drK l c r t r')) := Or.inl ⟨_, .inr "mix", h, rfl, by walk_at "sz", rfl⟩
theorem dr_ne {l c : Addr} {r t m : Int} {xs : List V} : HO.lst xs ≠ drK l c r t m := fun h => by unfold drK at h; cases h
local macro_rules | `(tactic| walk_at "dr") => `(tactic| first
  | refine ⟨_, _, rfl, dg_rest (by walk_at "hp"), ?_⟩
  | refine ⟨_, _, rfl, dg_turn (by walk_at "hp"), ?_⟩
  | refine ⟨_, _, rfl, dg_mix (by walk_at "hp"), ?_⟩
  | refine ⟨_, _, rfl, dg_large (by walk_at "hp"), ?_⟩
  | refine ⟨_, _, rfl, dg_cells (by walk_at "hp"), ?_⟩
  | refine ⟨_, _, rfl, du_rest (by walk_at "hp"), ?_⟩
  | refine ⟨_, _, rfl, du_turn (by walk_at "hp"), ?_⟩
  | refine ⟨_, _, rfl, du_mix (by walk_at "hp"), ?_⟩)
section
variable {P : Program} {w : World} {K : PySem.W.Frag} {mg : PySem.Str → Option Value} {base : Heap} {Z : Adr}
def sp_law_take : Sp := mkSp (fun ((d, _, n) : Addr × Lc × Int) => [.ref d, .int n]) (fun (d, l, n) H => DrawAt H d l ∧ 0 < n ∧ n < 1073741824)
  (fun (d, l, n) H v H' => ∃ i, v = .int i ∧ 0 ≤ i ∧ i < n ∧ DrawAt H' d l ∧ Exc d l H H')
abbrev s_law_take : Stmt := top 95
theorem sc_law_take : FnScope ["_law_draw", "_law_size", "_law_cell", "_law_found"] ["_law_draw", "_law_size"] (C8.fnScope s_law_take) := C8.fnScope_by (by decide +kernel)
theorem c_law_take (T : Txt P w K mg base Z) : C8.Cal P w K mg base 1 "_law_take" sp_law_take [] :=
  calD (k := 0) T.d_law_take sc_law_take (fun _ _ _ _ _ _ us h => by obtain ⟨_, _, rfl⟩ := us2 (by exact h); rfl) (fun _ => rfl) (fun cdv f A outer s H0 H Q E a hr pre hq => by
    have S := sc_law_take
    obtain ⟨d, ⟨l, c⟩, n⟩ := a
    obtain ⟨⟨r, t, m, ns, cs, W⟩, n0, n1⟩ := pre
    dsimp only at W
    obtain ⟨hd, hl, hc, cl, k0, r0, m0, m1, ln, cn⟩ := W
    refine ⟨_, (C8.pss_cut (ps_if (PW.pt (pw_and (pt_cmpR op_eq (pe_dget (hu_of hr) (pv 0) pe_str (fun _ _ => rfl)) pe_int (nomark _)) (pw_and1 (pt_cmpR (neD (K := K) rfl hr.units) (pe_dget (hu_of hr) (pv 0) pe_str (fun _ _ => rfl)) (pe_lst pa_nil) (nomark _))))) (pss_one (ps_dput (hu_of hr) (pv 0) pe_str (pe_bm PySem.F.plainAttrs_list PySem.F.slot_list_pop PySem.F.type_list_pop mt_popAt (pe_dget (hu_of hr) (pv 0) pe_str (fun _ _ => rfl)) (pa_cons pe_int pa_nil)) rfl)) (pss_one (ps_if (pt_cmpR op_eq (pe_dget (hu_of hr) (pv 0) pe_str (fun _ _ => rfl)) pe_int (nomark _)) (pss_cons (ps_dput (hu_of hr) (pv 0) pe_str (pe_op op_add (pe_dget (hu_of hr) (pv 0) pe_str (fun _ _ => rfl)) pe_int) rfl)
  (pss_cons (ps_for PassesOwn.never rfl (piL (K := K) rfl (pe_op op_cat (pe_lst (pa_cons (pe_dget (hu_of hr) (pv 0) pe_str (fun _ _ => rfl)) pa_nil)) (pe_dget (hu_of hr) (pv 0) pe_str (fun _ _ => rfl)))) (pg_name (i := 2) S.nd rfl (Or.inl rfl)) (pss_one (ps_dput (hu_of hr) (pv 0) pe_str (pe_op op_mod (pe_callTy call_int1 (by rfl) T.n_int (by decide +kernel) (pa_cons (pe_op op_add (pe_op op_add (pe_op op_mul (pe_dget (hu_of hr) (pv 0) pe_str (fun _ _ => rfl)) pe_int) (pe_op op_mul (pv 2) pe_int)) pe_int) pa_nil)) pe_int) rfl)))
  (pss_one (ps_dput (hu_of hr) (pv 0) pe_str (pe_op op_mod (pe_callTy call_int1 (by rfl) T.n_int (by decide +kernel) (pa_cons (pe_op op_pow (pe_dget (hu_of hr) (pv 0) pe_str (fun _ _ => rfl)) pe_int) pa_nil)) pe_int) rfl)))) pss_nil)))
  (pss_cons (ps_asg (pe_callB call_divmod (by rfl) T.n_divmod (by decide +kernel) (pa_cons (pe_dget (hu_of hr) (pv 0) pe_str (fun _ _ => rfl)) (pa_cons (pv 1) pa_nil))) (pgT (K := K) (n := 2) rfl (by rfl) (pgs_cons (pg_sub (pv 0) pe_str (set_dict (hu_of hr))) (pgs_cons (pg_name (i := 3) S.nd rfl (Or.inl rfl)) pgs_nil))))
  (pss_one (ps_ret (pv 3))))), ?_⟩
    have dl : d ≠ l := fun q => by rw [q, hl] at hd; exact dr_ne (Option.some.inj hd)
    have dc : d ≠ c := fun q => by rw [q, hc] at hd; exact dr_ne (Option.some.inj hd)
    refine ⟨fun σ2 H2 => Hold (∃ (o2 : Option V) (r t m : Int) (ns : List Int), σ2 = [some (.ref d), some (.int n), o2, none] ∧ Exd d l H H2 ∧ DrW H2 d l c r t m ns cs), ?_, ?_⟩
    · walk_at "rd"
      walk_at "dr"
      walk_at "rd"
      refine iteD (fun z => ?_) (fun z => ?_)
      · obtain rfl : r = 0 := V.int.inj z
        walk_at "rd"
        walk_at "dr"
        walk_at "rd"
        refine ⟨by walk_at "sz", fun q nq => ?_⟩
        refine ⟨_, .list [], dp_intsL (upd_old hl nq), .lst (sqL upd_same) .nil, shaped_ints ns, by decide +kernel, ?_⟩
        rw [eqv_nil]
        have hd1 := upd_old (o' := .lst []) hd nq
        have hl1 := upd_old (o' := .lst []) hl nq
        have hc1 := upd_old (o' := .lst []) hc nq
        have e1 : Exd d l H (upd H q (.lst [])) := (Exd.refl H).new nq
        obtain ⟨H1, hH1⟩ : ∃ H1, upd H q (.lst []) = H1 := ⟨_, rfl⟩
        rw [hH1] at hd1 hl1 hc1 e1 ⊢
        walk_at "rd"
        refine iteD (fun z => ?_) (fun z => ?_)
        · obtain ⟨n1, ns1, rfl⟩ : ∃ a b, ns = a :: b := by
            cases ns with
            | nil => exact absurd rfl z
            | cons a b => exact ⟨a, b, rfl⟩
          walk_at "rd"
          walk_at "dr"
          walk_at "rd"
          refine ⟨l, _, 0, 0, .int n1, rfl, rfl, hl1, by omega, by omega, by simp [seqIndex?], rfl, ?_⟩
          have hd2 : upd H1 l (.lst (((n1 :: ns1).map V.int).eraseIdx 0)) d = some (drK l c 0 t m) := upd_off hd1 dl
          walk_at "rd"
          walk_at "dr"
          refine .of ⟨_, n1, t, m, ns1, rfl, (e1.own (.inr rfl)).own (.inl rfl), upd_same, upd_off upd_same dl.symm, upd_off (upd_off hc1 cl) dc.symm, cl, fun x hx => k0 x (List.mem_cons_of_mem _ hx), k0 n1 (by simp), m0, m1, by simp at ln; omega, cn⟩
        · walk_at "rd"
          walk_at "dr"
          walk_at "rd"
          walk_at "dr"
          walk_at "rd"
          walk_at "dr"
          have hd2 : upd H1 d (drK l c 0 (t + 1) m) d = some (drK l c 0 (t + 1) m) := upd_same
          have hl2 := upd_off (o' := drK l c 0 (t + 1) m) hl1 dl.symm
          have hc2 := upd_off (o' := drK l c 0 (t + 1) m) hc1 dc.symm
          have e2 : Exd d l H (upd H1 d (drK l c 0 (t + 1) m)) := e1.own (.inl rfl)
          obtain ⟨H2, hH2⟩ : ∃ H2, upd H1 d (drK l c 0 (t + 1) m) = H2 := ⟨_, rfl⟩
          rw [hH2] at hd2 hl2 hc2 e2 ⊢
          walk_at "rd"
          walk_at "dr"
          refine ⟨by walk_at "sz", fun q1 nq1 => ?_⟩
          walk_at "rd"
          refine ⟨_, _, rfl, dg_cells (upd_old hd2 nq1), ?_⟩
          refine ⟨_, _, _, _, rfl, rfl, upd_same, upd_old hc2 nq1, szL (by rw [List.length_map]; simp; omega), fun q2 nq2 => ?_⟩
          have hd3 := upd_old (o' := .lst (V.int (t + 1) :: cs.map V.int)) (upd_old (o' := .lst [V.int (t + 1)]) hd2 nq1) nq2
          have hl3 := upd_old (o' := .lst (V.int (t + 1) :: cs.map V.int)) (upd_old (o' := .lst [V.int (t + 1)]) hl2 nq1) nq2
          have hc3 := upd_old (o' := .lst (V.int (t + 1) :: cs.map V.int)) (upd_old (o' := .lst [V.int (t + 1)]) hc2 nq1) nq2
          have e3 := (e2.new (o := .lst [V.int (t + 1)]) nq1).new (o := .lst (V.int (t + 1) :: cs.map V.int)) nq2
          have hq3 : upd (upd H2 q1 (.lst [V.int (t + 1)])) q2 (.lst (((t + 1) :: cs).map V.int)) q2 = some (.lst (((t + 1) :: cs).map V.int)) := upd_same
          have q2d : q2 ≠ d := (ne_of_none (upd_old hd2 nq1) nq2).symm
          have q2c : q2 ≠ c := (ne_of_none (upd_old hc2 nq1) nq2).symm
          have q2l : q2 ≠ l := (ne_of_none (upd_old hl2 nq1) nq2).symm
          obtain ⟨H3, hH3⟩ : ∃ H3, upd (upd H2 q1 (.lst [V.int (t + 1)])) q2 (.lst (V.int (t + 1) :: cs.map V.int)) = H3 := ⟨_, rfl⟩
          rw [show V.int (t + 1) :: cs.map V.int = ((t + 1) :: cs).map V.int from rfl] at hH3 hd3 hl3 hc3 e3
          rw [hH3] at hd3 hl3 hc3 e3 hq3
          have hH3 : upd (upd H2 q1 (.lst [V.int (t + 1)])) q2 (.lst ([V.int (t + 1)] ++ cs.map V.int)) = H3 := hH3
          rw [hH3]
          walk_at "rd"
          refine ⟨⟨_, sqL hq3⟩, ?_⟩
          refine for_it (walk_list (xs := ((t + 1) :: cs).map V.int)) (fun i σ H' => Hold (∃ (o2 : Option V) (m' : Int), σ = [some (.ref d), some (.int n), o2, none] ∧ Exd d l H H' ∧ H' d = some (drK l c 0 (t + 1) m') ∧ 0 ≤ m' ∧ m' < 2147483648 ∧ H' l = some (.lst (ns.map V.int)) ∧ H' c = some (.lst (cs.map V.int)) ∧ H' q2 = some (.lst (((t + 1) :: cs).map V.int))))
            (.of ⟨_, m, rfl, e3, hd3, m0, m1, hl3, hc3, hq3⟩) (fun i σ H' _ h => by obtain ⟨_, _, _, _, _, _, _, _, _, h⟩ := h.out; exact sqL h) ?_ ?_
          · rintro i y σ H4 H5 hi hP ⟨rfl, hy⟩
            obtain ⟨o2, m', rfl, e4, hd4, k1, k2, hl4, hc4, hq4⟩ := hP.out
            obtain ⟨x, hx, rfl⟩ := map_get hy
            walk_at "rd"
            walk_at "dr"
            walk_at "rd"
            walk_at "ii"
            walk_at "rd"
            walk_at "dr"
            walk_at "rd"
            exact .of ⟨_, _, rfl, e4.own (.inl rfl), upd_same, Int.emod_nonneg _ (by omega), Int.lt_trans (Int.emod_lt_of_pos _ (by omega)) (by omega), upd_off hl4 dl.symm, upd_off hc4 dc.symm, upd_off hq4 q2d⟩
          · rintro σ H4 hP
            obtain ⟨o2, m', rfl, e4, hd4, k1, k2, hl4, hc4, hq4⟩ := hP.out
            walk_at "rd"
            walk_at "dr"
            walk_at "rd"
            walk_at "ii"
            walk_at "rd"
            walk_at "dr"
            walk_at "rd"
            exact .of ⟨_, _, _, _, _, rfl, e4.own (.inl rfl), upd_same, upd_off hl4 dl.symm, upd_off hc4 dc.symm, cl, k0, Int.emod_nonneg _ (by omega), k1, k2, ln, cn⟩
      · walk_at "rd"
        walk_at "dr"
        walk_at "rd"
        refine iteD (fun z' => absurd z' z) (fun _ => ?_)
        walk_at "rd"
        exact .of ⟨_, r, t, m, ns, rfl, Exd.refl H, hd, hl, hc, cl, k0, r0, m0, m1, ln, cn⟩
    · rintro σ2 H2 hold
      obtain ⟨o2, r, t, m, ns, rfl, ex, ⟨hd, hl, hc, cl, k0, r0, m0, m1, ln, cn⟩⟩ := hold.out
      walk_at "rd"
      walk_at "dr"
      walk_at "rd"
      refine ⟨⟨n0, n1⟩, fun p np => ?_⟩
      have e3 : Exd d l H (upd H2 p (.tup [.int (r / n), .int (r % n)])) := ex.new np
      refine ⟨_, _, rfl, sqT upd_same, rfl, ?_⟩
      walk_at "rd"
      refine ⟨_, _, rfl, du_rest (upd_old hd np), ?_⟩
      walk_at "rd"
      refine hq _ _ ⟨_, rfl, Int.emod_nonneg _ (by omega), Int.emod_lt_of_pos _ n0, ⟨r / n, t, m, ns, cs, upd_same, upd_off (upd_old hl np) dl.symm, upd_off (upd_old hc np) dc.symm, cl, k0, Int.ediv_nonneg r0 (by omega), m0, m1, ln, cn⟩, (ex.new np).own (.inl rfl)⟩)
end
end Ff
end
section
set_option maxRecDepth 100000
set_option maxHeartbeats 4000000
/-! The law's draws: begin, pick. -/
namespace Ff
open PySem PySem.Spec PyProof.Rows L2
local macro_rules | `(tactic| walk_at "ex") => `(tactic| first
  | exact Ex.refl _
  | with_reducible assumption
  | (refine Ex.new ?_ (by with_reducible assumption); walk_at "ex")
  | (refine Ex.mut ?_ (by walk_at "hn"); walk_at "ex")
  | (refine Ex.trans ?_ (by with_reducible assumption); walk_at "ex"))
local macro_rules | `(tactic| walk_at "hn") => `(tactic| first
  | with_reducible assumption
  | exact Ex.back (by with_reducible assumption) (by with_reducible assumption)
  | exact upd_none (by with_reducible assumption)
  | exact upd_none (upd_none (by with_reducible assumption))
  | exact Ex.back (by with_reducible assumption) (upd_none (by with_reducible assumption))
  | exact Ex.back (by with_reducible assumption) (Ex.back (by with_reducible assumption) (by with_reducible assumption)))
local macro_rules | `(tactic| walk_at "hp") => `(tactic| first
  | with_reducible assumption
  | with_reducible exact upd_same
  | (refine Ex.at (by with_reducible assumption) ?_; walk_at "ex")
  | (refine upd_old ?_ (by with_reducible assumption); walk_at "hp")
  | (refine upd_off ?_ (by with_reducible assumption); walk_at "hp"))
local macro_rules | `(tactic| walk_at "sd") => `(tactic| ((try dsimp only [CMul, CDiv, CPow]); first | exact True.intro | omega | (with_reducible assumption)))
local macro_rules | `(tactic| walk_at "sz") => `(tactic| exact Nat.le_of_ble_eq_true rfl)
local macro_rules | `(tactic| walk_at "is") => `(tactic| first
  | refine ⟨_, _, _, _, _, rfl, .ty _, .base (.int _), kt_int, ?_⟩
  | refine ⟨_, _, _, _, _, rfl, .ty _, .base (.int _), kt_intb, ?_⟩
  | refine ⟨_, _, _, _, _, rfl, .ty _, .base (.bl _), kt_bool, ?_⟩
  | refine ⟨_, _, _, _, _, rfl, .ty _, .base (.str _), kt_str, ?_⟩
  | refine ⟨_, _, _, _, _, rfl, .ty _, .base (.tup (by walk_at "hp")), kt_tup, ?_⟩
  | refine ⟨_, _, _, _, _, rfl, .ty _, .base (.dK (by walk_at "hp")), kt_dict, ?_⟩)
local macro_rules | `(tactic| walk_at "rd1") => `(tactic| first
  | refine ⟨_, rfl, ?_⟩
  | refine ⟨_, _, rfl, rfl, And.intro (by walk_at "sd") ?_⟩
  | refine ⟨_, _, rfl, rfl, ?_⟩
  | refine ⟨rfl, ?_⟩
  | refine ⟨_, _, _, _, rfl, rfl, sqT (by walk_at "hp"), rfl, ?_⟩
  | refine ⟨_, _, _, _, rfl, rfl, sqL (by walk_at "hp"), rfl, ?_⟩
  | refine ⟨_, _, rfl, sqT (by walk_at "hp"), rfl, ?_⟩
  | refine ⟨_, _, _, _, _, rfl, by walk_at "hp", by assumption, by assumption, rfl, ?_⟩
  | refine ⟨.inl ⟨rfl, _, sqL (by walk_at "hp")⟩, ?_⟩
  | refine ⟨_, _, rfl, .inl (sqL (by walk_at "hp")), ?_⟩
  | refine ⟨_, _, rfl, .inr (sqT (by walk_at "hp")), ?_⟩
  | refine ⟨(_, _), rfl, ?_⟩
  | refine ⟨(_, _, _), rfl, ?_⟩
  | refine ⟨(_, _, _, _), rfl, ?_⟩
  | refine ⟨_, _, rfl, ?_⟩
  | refine ⟨_, _, _, rfl, ?_⟩
  | walk_at "is")
local macro_rules | `(tactic| walk_at "rd") => `(tactic| repeat walk_at "rd1")

local macro_rules | `(tactic| walk_at "ib") => `(tactic| refine .inr ⟨_, rfl, ?_⟩)
local macro_rules | `(tactic| walk_at "ii") => `(tactic| refine .inl ⟨_, rfl, ?_⟩)
theorem sqL_ex' {K : PySem.W.Frag} {H H' : Hp} {a : Addr} {xs : List V} (e : Ex H H') (h : SqL K H a xs) : SqL K H' a xs := by
  rcases h with h | h
  · rcases h with h | ⟨o, h⟩
    · exact .inl (.inl (e _ _ h))
    · exact .inl (.inr ⟨o, e _ _ h⟩)
  · exact .inr h
section
variable {P : Program} {w : World} {K : PySem.W.Frag} {mg : PySem.Str → Option Value} {base : Heap} {Z : Adr}
def sp_law_begin (K : PySem.W.Frag) : Sp := mkSp (fun ((a, _) : Addr × List Int) => [.ref a]) (fun (a, cs) H => SqL K H a (cs.map .int) ∧ cs.length ≤ 63)
  (fun _ H v H' => ∃ d l, v = .ref d ∧ DrawAt H' d l ∧ Ex H H')
abbrev s_law_begin : Stmt := top 94
theorem sc_law_begin : FnScope ["_law_script", "_law_large", "_law_cell"] ["_law_script"] (C8.fnScope s_law_begin) := C8.fnScope_by (by decide +kernel)
theorem c_law_begin (T : Txt P w K mg base Z) : C8.Cal P w K mg base 1 "_law_begin" (sp_law_begin K) [] :=
  calD (k := 0) T.d_law_begin sc_law_begin (fun _ _ _ _ _ _ us h => by obtain ⟨_, rfl⟩ := us1 (by exact h); rfl) (fun _ => rfl) (fun cdv f A outer s H0 H Q E a hr pre hq => by
    have S := sc_law_begin
    obtain ⟨a, cs⟩ := a
    obtain ⟨ha, cn⟩ := pre
    refine ⟨_, (pss_cons (ps_setLc (i := 1) (own := [("_law_cell", 2)]) rfl S.nd rfl rfl (sw_true rfl rfl rfl (by decide +kernel)) (piL (K := K) rfl (pv 0)) (blkOk_by (by kernel_rfl)) (fun _ _ _ _ _ => (pg_name (i := 2) S.nd rfl (by first | exact Or.inl rfl | exact Or.inr rfl))) (fun _ _ _ _ _ => (pts_one (pt_cmpR op_ge (pe_callB call_abs (by rfl) T.n_abs (by decide +kernel) (pa_cons (pv 2) pa_nil)) (pe_op op_pow pe_int pe_int) (nomark _)))) (fun _ _ _ _ _ => (pe_callB call_abs (by rfl) T.n_abs (by decide +kernel) (pa_cons (pv 2) pa_nil))))
  (pss_one (ps_ret (pe_disp (pps_cons pe_str (pv 1) (pps_cons pe_str (pe_callTy (lstO (K := K) rfl) (by rfl) T.n_list (by decide +kernel) (pa_cons (pv 0) pa_nil)) (pps_cons pe_str pe_int (pps_cons pe_str pe_int (pps_cons pe_str pe_int pps_nil))))) (by rfl) (by rfl) (fun z => by cases z) (by decide))))), ?_⟩
    walk_at "rd"
    refine ⟨⟨_, ha⟩, fun D nD => ?_⟩
    refine lcE (walk_list (xs := cs.map V.int)) nD (by rw [List.length_map]; omega) (fun i => ((cs[i]?).map fun x => decide ((10 : Int) ^ (18 : Int).toNat ≤ if x < 0 then -x else x)).getD false) (fun i y _ => ∃ n, y = .int n ∧ 0 ≤ n) (fun _ r => r) (fun _ r => r) (fun H e => sqL_ex' e ha) ?_ ?_
    · rintro i y H4 H5 hi e4 ⟨rfl, hy⟩ S Z hS hZ
      obtain ⟨x, hx, rfl⟩ := map_get hy
      walk_at "rd"
      refine iteD (fun z => ?_) (fun z => ?_)
      · walk_at "rd"
        exact hS _ _ (Ex.refl _) (by rw [hx]; exact decide_eq_true z) ⟨_, rfl, by split <;> omega⟩
      · walk_at "rd"
        exact hZ _ (Ex.refl _) (by rw [hx]; exact decide_eq_false z)
    · intro H3 ys e3 hD got
      obtain ⟨ns, rfl, n0⟩ := ints_of got
      have ln : ns.length ≤ 63 := by
        have h1 := paired_len got
        have h2 := List.length_filter_le (fun i => ((cs[i]?).map fun x => decide ((10 : Int) ^ (18 : Int).toNat ≤ if x < 0 then -x else x)).getD false) (List.range (cs.map V.int).length)
        simp only [List.length_range, List.length_map] at h1 h2
        omega
      walk_at "rd"
      refine fun q nq => ?_
      walk_at "rd"
      refine ⟨_, _, rfl, .inl (sqL_ex' (e3.new nq) ha), fun c nc => ?_⟩
      walk_at "rd"
      have qD : D ≠ q := ne_of_none hD nq
      have cD : c ≠ D := (ne_of_none (upd_old hD nq) nc).symm
      have cq : c ≠ q := (ne_of_none upd_same nc).symm
      refine ⟨upd_old upd_same nc, [(.inr "large", .ref D), (.inr "cells", .ref c), (.inr "rest", .int 0), (.inr "turn", .int 0), (.inr "mix", .int 7)], rfl, by walk_at "sz", ?_⟩
      exact hq _ _ ⟨q, (D, c), rfl, ⟨0, 0, 7, ns, cs, upd_same, upd_off (upd_old (upd_old hD nq) nc) qD, upd_off upd_same cq, cD, n0, by omega, by omega, by omega, ln, cn⟩, ((e3.new nq).new nc).mut (e3.back nq)⟩)
def sp_law_pick (K : PySem.W.Frag) : Sp := mkSp (fun ((d, _, x, _) : Addr × Lc × V × List V) => [.ref d, x]) (fun (d, l, x, xs) H => DrawAt H d l ∧ xs ≠ [] ∧ xs.length ≤ 60 ∧ ((∃ p, x = .ref p ∧ p ≠ l.1 ∧ (H p = some (.lst xs) ∨ H p = some (.tup xs))) ∨ ∃ z, x = .str z ∧ xs = z.cps.toList.map fun c => .str ⟨#[c]⟩))
  (fun (d, l, _, xs) H v H' => v ∈ xs ∧ DrawAt H' d l ∧ Exc d l H H')
abbrev s_law_pick : Stmt := top 96
theorem sc_law_pick : FnScope ["_law_draw", "_law_some"] ["_law_draw", "_law_some"] (C8.fnScope s_law_pick) := C8.fnScope_by (by decide +kernel)
theorem c_law_pick (T : Txt P w K mg base Z) : C8.Cal P w K mg base 2 "_law_pick" (sp_law_pick K) [] :=
  calD (k := 1) T.d_law_pick sc_law_pick (fun _ _ _ _ _ _ us h => by obtain ⟨_, _, rfl⟩ := us2 (by exact h); rfl) (fun _ => rfl) (fun cdv f A outer s H0 H Q E a hr pre hq => by
    have S := sc_law_pick
    obtain ⟨d, l, x, xs⟩ := a
    obtain ⟨hd, nn, xl, hx⟩ := pre
    have xp : 0 < xs.length := List.length_pos_iff.mpr nn
    refine ⟨_, (pss_one (ps_ret (pe_ix (ixQ (K := K) rfl) (pv 1) (C8.pe_c (c_law_take T) hr (by decide) rfl (pa_cons (pv 0) (pa_cons (pe_callB (lenQ (K := K) rfl) (by rfl) T.n_len (by decide +kernel) (pa_cons (pv 1) pa_nil)) pa_nil))) (fun _ _ => rfl)))), ?_⟩
    walk_at "rd"
    refine ⟨_, xs.length, rfl, ?_, ?_⟩
    · rcases hx with ⟨p, rfl, pl, h | h⟩ | ⟨z, rfl, rfl⟩
      · exact .inl ⟨xs, sqL h, rfl⟩
      · exact .inr ⟨xs, sqT h, rfl⟩
      · exact ⟨szL (by have : z.cps.size ≤ 60 := (by simpa using xl); exact Nat.le_trans this (by omega)), by simp; rfl⟩
    walk_at "rd"
    refine ⟨(d, l, (xs.length : Int)), rfl, ⟨hd, by omega, by omega⟩, ?_⟩
    rintro v H' ⟨i, rfl, i0, i1, hd', e⟩
    walk_at "rd"
    obtain ⟨r, t, m, ns, cs, W⟩ := id hd
    obtain ⟨v, hv⟩ : ∃ v, xs[i.toNat]? = some v := ⟨_, List.getElem?_eq_getElem (by omega)⟩
    have hm := List.mem_of_getElem? hv
    rcases hx with ⟨p, rfl, pl, h | h⟩ | ⟨z, rfl, rfl⟩
    · exact .inl ⟨p, xs, i, v, rfl, rfl, sqL (e.1 _ _ (ne_of h W.hd (fun z => by unfold drK at z; cases z)) pl h), atI_nat' i0 hv, hq _ _ ⟨hm, hd', e⟩⟩
    · exact .inr (.inl ⟨p, xs, i, v, rfl, rfl, sqT (e.1 _ _ (ne_of h W.hd (fun z => by unfold drK at z; cases z)) pl h), atI_nat' i0 hv, hq _ _ ⟨hm, hd', e⟩⟩)
    · obtain ⟨c, hc, rfl⟩ := map_get hv
      exact .inr (.inr ⟨z, i, c, rfl, rfl, szL (by have : z.cps.size ≤ 60 := (by simpa using xl); exact Nat.le_trans this (by omega)), atI_nat' i0 hc, hq _ _ ⟨hm, hd', e⟩⟩))
end
end Ff
end
section
set_option maxRecDepth 100000
set_option maxHeartbeats 4000000
/-! The law's fractions. -/
namespace Ff
open PySem PySem.Spec PyProof.Rows L2
local macro_rules | `(tactic| walk_at "ex") => `(tactic| first
  | exact Ex.refl _
  | with_reducible assumption
  | (refine Ex.new ?_ (by with_reducible assumption); walk_at "ex")
  | (refine Ex.mut ?_ (by walk_at "hn"); walk_at "ex")
  | (refine Ex.trans ?_ (by with_reducible assumption); walk_at "ex"))
local macro_rules | `(tactic| walk_at "hn") => `(tactic| first
  | with_reducible assumption
  | exact Ex.back (by with_reducible assumption) (by with_reducible assumption)
  | exact upd_none (by with_reducible assumption)
  | exact upd_none (upd_none (by with_reducible assumption))
  | exact Ex.back (by with_reducible assumption) (upd_none (by with_reducible assumption))
  | exact Ex.back (by with_reducible assumption) (Ex.back (by with_reducible assumption) (by with_reducible assumption)))
local macro_rules | `(tactic| walk_at "hp") => `(tactic| first
  | with_reducible assumption
  | with_reducible exact upd_same
  | (refine Ex.at (by with_reducible assumption) ?_; walk_at "ex")
  | (refine upd_old ?_ (by with_reducible assumption); walk_at "hp")
  | (refine upd_off ?_ (by with_reducible assumption); walk_at "hp"))
local macro_rules | `(tactic| walk_at "sd") => `(tactic| ((try dsimp only [CMul, CDiv, CPow]); first | exact True.intro | omega | (with_reducible assumption)))
local macro_rules | `(tactic| walk_at "sz") => `(tactic| exact Nat.le_of_ble_eq_true rfl)
local macro_rules | `(tactic| walk_at "is") => `(tactic| first
  | refine ⟨_, _, _, _, _, rfl, .ty _, .base (.int _), kt_int, ?_⟩
  | refine ⟨_, _, _, _, _, rfl, .ty _, .base (.int _), kt_intb, ?_⟩
  | refine ⟨_, _, _, _, _, rfl, .ty _, .base (.bl _), kt_bool, ?_⟩
  | refine ⟨_, _, _, _, _, rfl, .ty _, .base (.str _), kt_str, ?_⟩
  | refine ⟨_, _, _, _, _, rfl, .ty _, .base (.tup (by walk_at "hp")), kt_tup, ?_⟩
  | refine ⟨_, _, _, _, _, rfl, .ty _, .base (.dK (by walk_at "hp")), kt_dict, ?_⟩)
local macro_rules | `(tactic| walk_at "rd1") => `(tactic| first
  | refine ⟨_, rfl, ?_⟩
  | refine ⟨_, _, rfl, rfl, And.intro (by walk_at "sd") ?_⟩
  | refine ⟨_, _, rfl, rfl, ?_⟩
  | refine ⟨rfl, ?_⟩
  | refine ⟨_, _, _, _, rfl, rfl, sqT (by walk_at "hp"), rfl, ?_⟩
  | refine ⟨_, _, _, _, rfl, rfl, sqL (by walk_at "hp"), rfl, ?_⟩
  | refine ⟨_, _, rfl, sqT (by walk_at "hp"), rfl, ?_⟩
  | refine ⟨_, _, _, _, _, rfl, by walk_at "hp", by assumption, by assumption, rfl, ?_⟩
  | refine ⟨.inl ⟨rfl, _, sqL (by walk_at "hp")⟩, ?_⟩
  | refine ⟨_, _, rfl, .inl (sqL (by walk_at "hp")), ?_⟩
  | refine ⟨_, _, rfl, .inr (sqT (by walk_at "hp")), ?_⟩
  | refine ⟨(_, _), rfl, ?_⟩
  | refine ⟨(_, _, _), rfl, ?_⟩
  | refine ⟨(_, _, _, _), rfl, ?_⟩
  | refine ⟨_, _, rfl, ?_⟩
  | refine ⟨_, _, _, rfl, ?_⟩
  | walk_at "is")
local macro_rules | `(tactic| walk_at "rd") => `(tactic| repeat walk_at "rd1")

local macro_rules | `(tactic| walk_at "ib") => `(tactic| refine .inr ⟨_, rfl, ?_⟩)
local macro_rules | `(tactic| walk_at "ii") => `(tactic| refine .inl ⟨_, rfl, ?_⟩)
section
variable {P : Program} {w : World} {K : PySem.W.Frag} {mg : PySem.Str → Option Value} {base : Heap} {Z : Adr}
def sp_law_fraction : Sp := mkSp (fun ((t, b) : Int × Int) => [.int t, .int b]) (fun (t, b) _ => 0 ≤ t ∧ 1 ≤ b ∧ b < 2 ^ 29) (fun (t, b) H v H' => NewT [.int (redT t b), .int (redB t b)] H v H')
abbrev s_law_fraction : Stmt := top 97
theorem sc_law_fraction : FnScope ["_law_top", "_law_bottom", "_law_one", "_law_other"] ["_law_top", "_law_bottom"] (C8.fnScope s_law_fraction) := C8.fnScope_by (by decide +kernel)
theorem c_law_fraction (T : Txt P w K mg base Z) : C8.Cal P w K mg base 1 "_law_fraction" sp_law_fraction [] :=
  calD (k := 0) T.d_law_fraction sc_law_fraction (fun _ _ _ _ _ _ us h => by obtain ⟨_, _, rfl⟩ := us2 (by exact h); rfl) (fun _ => rfl) (fun cdv f A outer s H0 H Q E a hr pre hq => by
    have S := sc_law_fraction
    obtain ⟨t, b⟩ := a
    obtain ⟨ht, hb, hg⟩ := pre
    have g := gcd_le_right (a := t) hb
    refine ⟨_, (pss_cons (ps_par (i := 2) (j := 3) rfl S.nd rfl rfl (by decide) rfl rfl (pa_cons (pv 0) (pa_cons (pv 1) pa_nil)) (by rfl))
  (pss_cons (ps_while PassesOwn.never (pt_cmpR op_gt (pv 3) pe_int (nomark _)) (pss_one (ps_par (i := 2) (j := 3) rfl S.nd rfl rfl (by decide) rfl rfl (pa_cons (pv 3) (pa_cons (pe_op op_mod (pv 2) (pv 3)) pa_nil)) (by rfl))))
  (pss_one (ps_ret (pe_tup (pa_cons (pe_op op_fdiv (pv 0) (pv 2)) (pa_cons (pe_op op_fdiv (pv 1) (pv 2)) pa_nil))))))), ?_⟩
    walk_at "rd"
    refine ⟨fun m σ H' => ∃ x y : Int, σ = [some (.int t), some (.int b), some (.int x), some (.int y)] ∧ H' = H ∧ 0 ≤ x ∧ 0 ≤ y ∧ m = y.toNat ∧ Int.gcd x y = Int.gcd t b, ⟨_, t, b, rfl, rfl, ht, by omega, rfl, rfl⟩, ?_⟩
    rintro m σ H' ⟨x, y, rfl, rfl, hx, hy, rfl, hg⟩
    walk_at "rd"
    refine iteD (fun h => ?_) (fun h => ?_)
    · have h1 := Int.emod_nonneg x (Int.ne_of_gt h)
      have h2 := Int.emod_lt_of_pos x h
      refine ⟨fun σ H1 => Hold (σ = [some (.int t), some (.int b), some (.int y), some (.int (x % y))] ∧ H1 = H'), ?_, ?_⟩
      · rintro σ' H1 hP
        obtain ⟨rfl, rfl⟩ := hP.out
        exact ⟨_, by show (x % y).toNat < y.toNat; omega, y, x % y, rfl, rfl, hy, h1, rfl, (gcd_step h).trans hg⟩
      · walk_at "rd"
        exact .of ⟨rfl, rfl⟩
    · have : y = 0 := by omega
      subst this
      have xg : x = (Int.gcd t b : Int) := by rw [← hg, gcd_zero hx]
      subst xg
      walk_at "rd"
      refine ⟨by walk_at "sz", fun q nq => ?_⟩
      exact hq _ _ ⟨q, rfl, nq, by walk_at "ex", upd_same⟩)
def sp_law_lcm : Sp := mkSp (fun ((p, _) : Addr × List Int) => [.ref p]) (fun (p, ns) H => H p = some (.lst (ns.map .int)) ∧ ∀ n ∈ ns, 1 ≤ n ∧ n ≤ 10000) (fun (_, ns) H v H' => v = .int (lcmL ns) ∧ H' = H)
abbrev s_law_lcm : Stmt := top 98
theorem sc_law_lcm : FnScope ["_law_numbers", "_law_found", "_law_number", "_law_one", "_law_other"] ["_law_numbers"] (C8.fnScope s_law_lcm) := C8.fnScope_by (by decide +kernel)
theorem c_law_lcm (T : Txt P w K mg base Z) : C8.Cal P w K mg base 1 "_law_lcm" sp_law_lcm [] :=
  calD (k := 0) T.d_law_lcm sc_law_lcm (fun _ _ _ _ _ _ us h => by obtain ⟨_, rfl⟩ := us1 (by exact h); rfl) (fun _ => rfl) (fun cdv f A outer s H0 H Q E a hr pre hq => by
    have S := sc_law_lcm
    obtain ⟨p, ns⟩ := a
    obtain ⟨hp, hn⟩ := pre
    refine ⟨_, (pss_cons (ps_set (i := 1) S.nd rfl (Or.inl rfl) pe_int)
  (pss_cons (ps_for PassesOwn.never rfl (piL (K := K) rfl (pv 0)) (pg_name (i := 2) S.nd rfl (Or.inl rfl)) (pss_cons (ps_par (i := 3) (j := 4) rfl S.nd rfl rfl (by decide) rfl rfl (pa_cons (pv 1) (pa_cons (pv 2) pa_nil)) (by rfl))
  (pss_cons (ps_while PassesOwn.never (pt_cmpR op_gt (pv 4) pe_int (nomark _)) (pss_one (ps_par (i := 3) (j := 4) rfl S.nd rfl rfl (by decide) rfl rfl (pa_cons (pv 4) (pa_cons (pe_op op_mod (pv 3) (pv 4)) pa_nil)) (by rfl))))
  (pss_one (ps_set (i := 1) S.nd rfl (Or.inl rfl) (pe_op op_mul (pe_op op_fdiv (pv 1) (pv 3)) (pv 2)))))))
  (pss_one (ps_ret (pv 1))))), ?_⟩
    walk_at "rd"
    refine ⟨⟨_, sqL hp⟩, ?_⟩
    refine for_it (walk_list (xs := ns.map V.int)) (fun i σ H' => Hold (H' = H ∧ ∃ o2 o3 o4, σ = [some (.ref p), some (.int (lcmL (ns.take i))), o2, o3, o4])) (.of ⟨rfl, _, _, _, rfl⟩) (fun i σ H' _ h => by rw [h.out.1]; exact sqL hp) ?_ ?_
    · rintro i x σ H1 H2 hi hP ⟨rfl, hx⟩
      obtain ⟨rfl, o2, o3, o4, rfl⟩ := hP.out
      obtain ⟨n, hx', rfl⟩ := map_get hx
      obtain ⟨h1, h2, h3, h4⟩ := multiple_turn hn hx'
      have g := gcd_le_right (a := lcmL (ns.take i)) h2
      walk_at "rd"
      refine ⟨fun m σ H' => ∃ x y : Int, σ = [some (.ref p), some (.int (lcmL (ns.take i))), some (.int n), some (.int x), some (.int y)] ∧ H' = H2 ∧ 0 ≤ x ∧ 0 ≤ y ∧ m = y.toNat ∧ Int.gcd x y = Int.gcd (lcmL (ns.take i)) n, ⟨_, _, n, rfl, rfl, by omega, by omega, rfl, rfl⟩, ?_⟩
      rintro m σ H' ⟨x, y, rfl, rfl, hx, hy, rfl, hg⟩
      walk_at "rd"
      refine iteD (fun h => ?_) (fun h => ?_)
      · have k1 := Int.emod_nonneg x (Int.ne_of_gt h)
        have k2 := Int.emod_lt_of_pos x h
        refine ⟨fun σ H2 => Hold (σ = [some (.ref p), some (.int (lcmL (ns.take i))), some (.int n), some (.int y), some (.int (x % y))] ∧ H2 = H'), ?_, ?_⟩
        · rintro σ' H1 hP
          obtain ⟨rfl, rfl⟩ := hP.out
          exact ⟨_, by show (x % y).toNat < y.toNat; omega, y, x % y, rfl, rfl, hy, k1, rfl, (gcd_step h).trans hg⟩
        · walk_at "rd"
          exact .of ⟨rfl, rfl⟩
      · have : y = 0 := by omega
        subst this
        have xg : x = (Int.gcd (lcmL (ns.take i)) n : Int) := by rw [← hg, gcd_zero hx]
        subst xg
        walk_at "rd"
        exact .of ⟨rfl, _, _, _, by rw [h4]; rfl⟩
    · rintro σ H' hP
      obtain ⟨rfl, o2, o3, o4, rfl⟩ := hP.out
      walk_at "rd"
      refine hq _ _ ⟨?_, rfl⟩
      rw [List.length_map, List.take_length])
def sp_law_seen : Sp := mkSp (fun ((h, q, _) : Int × Addr × Int × Int) => [.int h, .ref q]) (fun (h, q, t, b) H => 1 ≤ h ∧ h ≤ 1000 ∧ H q = some (.tup [.int t, .int b]) ∧ 0 ≤ t ∧ 1 ≤ b ∧ b ≤ 100000) (fun (h, _, t, b) H v H' => NewT [.int (redT (fold2 h t b) b), .int (redB (fold2 h t b) b)] H v H')
abbrev s_law_seen : Stmt := top 101
theorem sc_law_seen : FnScope ["_law_half_here", "_law_one", "_law_top", "_law_bottom", "_law_below", "_law_gap"] ["_law_half_here", "_law_one"] (C8.fnScope s_law_seen) := C8.fnScope_by (by decide +kernel)
theorem c_law_seen (T : Txt P w K mg base Z) : C8.Cal P w K mg base 2 "_law_seen" sp_law_seen [] :=
  calD (k := 1) T.d_law_seen sc_law_seen (fun _ _ _ _ _ _ us h => by obtain ⟨_, _, rfl⟩ := us2 (by exact h); rfl) (fun _ => rfl) (fun cdv f A outer s H0 H Q E a hr pre hq => by
    have S := sc_law_seen
    obtain ⟨h, q, t, b⟩ := a
    obtain ⟨h1, h2, hp, ht, hb, hb2⟩ := pre
    refine ⟨_, (pss_cons (ps_asg (pv 1) (pgT (K := K) (n := 2) rfl (by rfl) (pgs_cons (pg_name (i := 2) S.nd rfl (Or.inl rfl)) (pgs_cons (pg_name (i := 3) S.nd rfl (Or.inl rfl)) pgs_nil))))
  (pss_cons (ps_set (i := 4) S.nd rfl (Or.inl rfl) (pe_op op_mul (pe_op op_mul (pe_op op_mul (pe_op op_fdiv (pv 2) (pe_op op_mul (pe_op op_mul pe_int (pv 0)) (pv 3))) pe_int) (pv 0)) (pv 3)))
  (pss_cons (ps_set (i := 5) S.nd rfl (Or.inl rfl) (pe_callB (call_min2 rfl) (by rfl) T.n_min (by decide +kernel) (pa_cons (pe_op op_sub (pv 2) (pv 4)) (pa_cons (pe_op op_sub (pe_op op_add (pv 4) (pe_op op_mul (pe_op op_mul pe_int (pv 0)) (pv 3))) (pv 2)) pa_nil))))
  (pss_one (ps_ret (C8.pe_c (c_law_fraction T) hr (by decide) rfl (pa_cons (pv 5) (pa_cons (pv 3) pa_nil)))))))), ?_⟩
    have c0 : 0 < 2 * h * b := Int.mul_pos (by omega) (by omega)
    have c1 : 2 * h * b ≤ 2000 * 100000 := Int.mul_le_mul (by omega) hb2 (by omega) (by omega)
    walk_at "rd"
    have e0 : t / (2 * h * b) * 2 * h * b = 2 * h * b * (t / (2 * h * b)) := by ac_rfl
    have e1 := Int.emod_add_mul_ediv t (2 * h * b)
    have e2 := Int.emod_nonneg t (Int.ne_of_gt c0)
    have e3 := Int.emod_lt_of_pos t c0
    have gap : (if t / (2 * h * b) * 2 * h * b + 2 * h * b - t < t - t / (2 * h * b) * 2 * h * b then t / (2 * h * b) * 2 * h * b + 2 * h * b - t else t - t / (2 * h * b) * 2 * h * b) = fold2 h t b := by
      rw [e0]
      unfold fold2
      rw [Int.min_def]
      split <;> split <;> omega
    have g0 : 0 ≤ fold2 h t b := by
      unfold fold2
      rw [Int.min_def]
      split <;> omega
    rw [gap]
    refine ⟨⟨g0, hb, by omega⟩, ?_⟩
    rintro v H' hv
    exact hq _ _ hv)
end
end Ff
end
section
set_option maxRecDepth 100000
set_option maxHeartbeats 4000000
/-! The law's draws: halves, speeds, words, ends. -/
namespace Ff
open PySem PySem.Spec PyProof.Rows L2
local macro_rules | `(tactic| walk_at "ex") => `(tactic| first
  | exact Ex.refl _
  | with_reducible assumption
  | (refine Ex.new ?_ (by with_reducible assumption); walk_at "ex")
  | (refine Ex.mut ?_ (by walk_at "hn"); walk_at "ex")
  | (refine Ex.trans ?_ (by with_reducible assumption); walk_at "ex"))
local macro_rules | `(tactic| walk_at "hn") => `(tactic| first
  | with_reducible assumption
  | exact Ex.back (by with_reducible assumption) (by with_reducible assumption)
  | exact upd_none (by with_reducible assumption)
  | exact upd_none (upd_none (by with_reducible assumption))
  | exact Ex.back (by with_reducible assumption) (upd_none (by with_reducible assumption))
  | exact Ex.back (by with_reducible assumption) (Ex.back (by with_reducible assumption) (by with_reducible assumption)))
local macro_rules | `(tactic| walk_at "hp") => `(tactic| first
  | with_reducible assumption
  | with_reducible exact upd_same
  | (refine Ex.at (by with_reducible assumption) ?_; walk_at "ex")
  | (refine upd_old ?_ (by with_reducible assumption); walk_at "hp")
  | (refine upd_off ?_ (by with_reducible assumption); walk_at "hp"))
local macro_rules | `(tactic| walk_at "sd") => `(tactic| ((try dsimp only [CMul, CDiv, CPow]); first | exact True.intro | omega | (with_reducible assumption)))
local macro_rules | `(tactic| walk_at "sz") => `(tactic| exact Nat.le_of_ble_eq_true rfl)
local macro_rules | `(tactic| walk_at "is") => `(tactic| first
  | refine ⟨_, _, _, _, _, rfl, .ty _, .base (.int _), kt_int, ?_⟩
  | refine ⟨_, _, _, _, _, rfl, .ty _, .base (.int _), kt_intb, ?_⟩
  | refine ⟨_, _, _, _, _, rfl, .ty _, .base (.bl _), kt_bool, ?_⟩
  | refine ⟨_, _, _, _, _, rfl, .ty _, .base (.str _), kt_str, ?_⟩
  | refine ⟨_, _, _, _, _, rfl, .ty _, .base (.tup (by walk_at "hp")), kt_tup, ?_⟩
  | refine ⟨_, _, _, _, _, rfl, .ty _, .base (.dK (by walk_at "hp")), kt_dict, ?_⟩)
local macro_rules | `(tactic| walk_at "rd1") => `(tactic| first
  | refine ⟨_, rfl, ?_⟩
  | refine ⟨_, _, rfl, rfl, And.intro (by walk_at "sd") ?_⟩
  | refine ⟨_, _, rfl, rfl, ?_⟩
  | refine ⟨rfl, ?_⟩
  | refine ⟨_, _, _, _, rfl, rfl, sqT (by walk_at "hp"), rfl, ?_⟩
  | refine ⟨_, _, _, _, rfl, rfl, sqL (by walk_at "hp"), rfl, ?_⟩
  | refine ⟨_, _, rfl, sqT (by walk_at "hp"), rfl, ?_⟩
  | refine ⟨_, _, _, _, _, rfl, by walk_at "hp", by assumption, by assumption, rfl, ?_⟩
  | refine ⟨.inl ⟨rfl, _, sqL (by walk_at "hp")⟩, ?_⟩
  | refine ⟨_, _, rfl, .inl (sqL (by walk_at "hp")), ?_⟩
  | refine ⟨_, _, rfl, .inr (sqT (by walk_at "hp")), ?_⟩
  | refine ⟨(_, _), rfl, ?_⟩
  | refine ⟨(_, _, _), rfl, ?_⟩
  | refine ⟨(_, _, _, _), rfl, ?_⟩
  | refine ⟨_, _, rfl, ?_⟩
  | refine ⟨_, _, _, rfl, ?_⟩
  | walk_at "is")
local macro_rules | `(tactic| walk_at "rd") => `(tactic| repeat walk_at "rd1")

local macro_rules | `(tactic| walk_at "ib") => `(tactic| refine .inr ⟨_, rfl, ?_⟩)
local macro_rules | `(tactic| walk_at "ii") => `(tactic| refine .inl ⟨_, rfl, ?_⟩)
theorem DrawAt.upd {H : Hp} {d p : Addr} {l : Lc} {o : HO} (h : DrawAt H d l) (n : p ≠ d ∧ p ≠ l.1 ∧ p ≠ l.2) : DrawAt (upd H p o) d l := by
  obtain ⟨r, t, m, ns, cs, W⟩ := h
  exact ⟨r, t, m, ns, cs, upd_off W.hd n.1.symm, upd_off W.hl n.2.1.symm, upd_off W.hc n.2.2.symm, W.cl, W.n0, W.r0, W.m0, W.m1, W.ln, W.cn⟩
theorem DrawAt.off {H : Hp} {d p : Addr} {l : Lc} (h : DrawAt H d l) (n : H p = none) : p ≠ d ∧ p ≠ l.1 ∧ p ≠ l.2 := by
  obtain ⟨r, t, m, ns, cs, W⟩ := h
  exact ⟨(ne_of_none W.hd n).symm, (ne_of_none W.hl n).symm, (ne_of_none W.hc n).symm⟩
theorem DrawAt.new {H : Hp} {d p : Addr} {l : Lc} {o : HO} (h : DrawAt H d l) (n : H p = none) : DrawAt (L2.upd H p o) d l := h.upd (h.off n)
theorem DrawAt.ex {H H' : Hp} {d : Addr} {l : Lc} (h : DrawAt H d l) (e : Ex H H') : DrawAt H' d l := by
  obtain ⟨r, t, m, ns, cs, W⟩ := h
  exact ⟨r, t, m, ns, cs, e _ _ W.hd, e _ _ W.hl, e _ _ W.hc, W.cl, W.n0, W.r0, W.m0, W.m1, W.ln, W.cn⟩
section
variable {P : Program} {w : World} {K : PySem.W.Frag} {mg : PySem.Str → Option Value} {base : Heap} {Z : Adr}
def sp_law_half : Sp := mkSp (fun ((d, _) : Addr × Lc) => [.ref d]) (fun (d, l) H => DrawAt H d l)
  (fun (d, l) H v H' => ∃ n, v = .int n ∧ 1 ≤ n ∧ n ≤ 60 ∧ DrawAt H' d l ∧ Exc d l H H')
abbrev s_law_half : Stmt := top 99
theorem sc_law_half : FnScope ["_law_draw", "_law_some"] ["_law_draw"] (C8.fnScope s_law_half) := C8.fnScope_by (by decide +kernel)
theorem c_law_half (T : Txt P w K mg base Z) : C8.Cal P w K mg base 3 "_law_half" sp_law_half [] :=
  calD (k := 2) T.d_law_half sc_law_half (fun _ _ _ _ _ _ us h => by obtain ⟨_, rfl⟩ := us1 (by exact h); rfl) (fun _ => rfl) (fun cdv f A outer s H0 H Q E a hr pre hq => by
    have S := sc_law_half
    obtain ⟨d, l⟩ := a
    have hd := pre
    refine ⟨_, (pss_cons (ps_set (i := 1) S.nd rfl (Or.inl rfl) (pe_lst (pa_cons (pe_op op_add pe_int (C8.pe_c (c_law_take T) hr (by decide) rfl (pa_cons (pv 0) (pa_cons pe_int pa_nil)))) (pa_cons (pe_op op_add pe_int (C8.pe_c (c_law_take T) hr (by decide) rfl (pa_cons (pv 0) (pa_cons pe_int pa_nil)))) (pa_cons (C8.pe_c (c_law_pick T) hr (by decide) rfl (pa_cons (pv 0) (pa_cons (pe_lst (pa_cons pe_int (pa_cons pe_int (pa_cons pe_int (pa_cons pe_int (pa_cons pe_int (pa_cons pe_int (pa_cons pe_int (pa_cons pe_int pa_nil))))))))) pa_nil))) pa_nil)))))
  (pss_one (ps_ret (C8.pe_c (c_law_pick T) hr (by decide) rfl (pa_cons (pv 0) (pa_cons (pe_op op_cat (pv 1) (pe_lst (pa_cons (pe_op op_add pe_int (C8.pe_c (c_law_take T) hr (by decide) rfl (pa_cons (pv 0) (pa_cons pe_int pa_nil)))) pa_nil))) pa_nil)))))), ?_⟩
    walk_at "rd"
    refine ⟨(d, l, 6), rfl, ⟨hd, by omega, by omega⟩, ?_⟩
    rintro v H1 ⟨i1, rfl, p1, q1, hd1, e1⟩
    walk_at "rd"
    refine ⟨(d, l, 12), rfl, ⟨hd1, by omega, by omega⟩, ?_⟩
    rintro v H2 ⟨i2, rfl, p2, q2, hd2, e2⟩
    walk_at "rd"
    refine ⟨by walk_at "sz", fun a na => ?_⟩
    refine ⟨(d, l, .ref a, [.int 6, .int 10, .int 12, .int 15, .int 20, .int 24, .int 30, .int 36]), rfl, ⟨hd2.new na, by simp, by simp, .inl ⟨a, rfl, (hd2.off na).2.1, .inl upd_same⟩⟩, ?_⟩
    rintro v H3 ⟨hv, hd3, e3⟩
    obtain ⟨i3, rfl, p3, q3⟩ : ∃ i, v = .int i ∧ 1 ≤ i ∧ i ≤ 60 := by
      simp at hv
      rcases hv with rfl | rfl | rfl | rfl | rfl | rfl | rfl | rfl <;> exact ⟨_, rfl, by omega, by omega⟩
    walk_at "rd"
    refine ⟨by walk_at "sz", fun b nb => ?_⟩
    have hd4 := hd3.new (o := .lst [.int (1 + i1), .int (1 + i2), .int i3]) nb
    have hb4 : upd H3 b (.lst [.int (1 + i1), .int (1 + i2), .int i3]) b = some (.lst [.int (1 + i1), .int (1 + i2), .int i3]) := upd_same
    have bo := hd3.off nb
    walk_at "rd"
    refine ⟨(d, l, 60), rfl, ⟨hd4, by omega, by omega⟩, ?_⟩
    rintro v H5 ⟨i5, rfl, p5, q5, hd5, e5⟩
    have hb5 := e5.1 _ _ bo.1 bo.2.1 hb4
    walk_at "rd"
    refine ⟨by walk_at "sz", fun c nc => ?_⟩
    refine ⟨_, _, _, _, rfl, rfl, upd_old hb5 nc, upd_same, by walk_at "sz", fun g ng => ?_⟩
    have hd6 := (hd5.new (o := .lst [.int (1 + i5)]) nc).new (o := .lst ([.int (1 + i1), .int (1 + i2), .int i3] ++ [.int (1 + i5)])) ng
    have go := (hd5.new (o := .lst [.int (1 + i5)]) nc).off ng
    have e6 : Exc d l H _ := ((((((e1.trans e2).new na).trans e3).new nb).trans e5).new nc).new (o := .lst ([.int (1 + i1), .int (1 + i2), .int i3] ++ [.int (1 + i5)])) ng
    walk_at "rd"
    refine ⟨(d, l, .ref g, [.int (1 + i1), .int (1 + i2), .int i3, .int (1 + i5)]), rfl, ⟨hd6, by simp, by simp, .inl ⟨g, rfl, go.2.1, .inl upd_same⟩⟩, ?_⟩
    rintro v H7 ⟨hv, hd7, e7⟩
    obtain ⟨i, rfl, pi, qi⟩ : ∃ i, v = .int i ∧ 1 ≤ i ∧ i ≤ 60 := by
      simp at hv
      rcases hv with rfl | rfl | rfl | rfl <;> exact ⟨_, rfl, by omega, by omega⟩
    exact hq _ _ ⟨i, rfl, pi, qi, hd7, e6.trans e7⟩)
def sp_law_speed : Sp := mkSp (fun ((d, _, r) : Addr × Lc × Int) => [.ref d, .int r]) (fun (d, l, r) H => DrawAt H d l ∧ 1 ≤ r ∧ r ≤ 1000)
  (fun (d, l, r) H v H' => ∃ q t b, v = .ref q ∧ H q = none ∧ H' q = some (.tup [.int t, .int b]) ∧ 0 ≤ t ∧ t ≤ r * b ∧ 1 ≤ b ∧ b ≤ 1000 ∧ Int.gcd t b = 1 ∧ DrawAt H' d l ∧ Exc d l H H')
abbrev s_law_speed : Stmt := top 102
theorem sc_law_speed : FnScope ["_law_draw", "_law_roof", "_law_bottom", "_law_top"] ["_law_draw", "_law_roof"] (C8.fnScope s_law_speed) := C8.fnScope_by (by decide +kernel)
theorem c_law_speed (T : Txt P w K mg base Z) : C8.Cal P w K mg base 3 "_law_speed" sp_law_speed [] :=
  calD (k := 2) T.d_law_speed sc_law_speed (fun _ _ _ _ _ _ us h => by obtain ⟨_, _, rfl⟩ := us2 (by exact h); rfl) (fun _ => rfl) (fun cdv f A outer s H0 H Q E a hr pre hq => by
    have S := sc_law_speed
    obtain ⟨d, l, r⟩ := a
    obtain ⟨hd, r1, r2⟩ := pre
    refine ⟨_, (pss_cons (ps_set (i := 2) S.nd rfl (Or.inl rfl) (C8.pe_c (c_law_pick T) hr (by decide) rfl (pa_cons (pv 0) (pa_cons (pe_lst (pa_cons pe_int (pa_cons pe_int (pa_cons pe_int (pa_cons pe_int (pa_cons pe_int (pa_cons pe_int pa_nil))))))) pa_nil))))
  (pss_cons (ps_set (i := 3) S.nd rfl (Or.inl rfl) (C8.pe_c (c_law_take T) hr (by decide) rfl (pa_cons (pv 0) (pa_cons (pe_op op_add (pe_op op_mul (pv 1) (pv 2)) pe_int) pa_nil))))
  (pss_one (ps_ret (C8.pe_c (c_law_fraction T) hr (by decide) rfl (pa_cons (pv 3) (pa_cons (pv 2) pa_nil))))))), ?_⟩
    walk_at "rd"
    refine ⟨by walk_at "sz", fun a na => ?_⟩
    refine ⟨(d, l, .ref a, [.int 1, .int 1, .int 1, .int 2, .int 3, .int 1000]), rfl, ⟨hd.new na, by simp, by simp, .inl ⟨a, rfl, (hd.off na).2.1, .inl upd_same⟩⟩, ?_⟩
    rintro v H1 ⟨hv, hd1, e1⟩
    obtain ⟨b, rfl, p1, q1⟩ : ∃ i, v = .int i ∧ 1 ≤ i ∧ i ≤ 1000 := by
      simp at hv
      rcases hv with rfl | rfl | rfl | rfl <;> exact ⟨_, rfl, by omega, by omega⟩
    have c0 : 1 ≤ r * b := Int.mul_pos (by omega) (by omega)
    have c1 : r * b ≤ 1000 * 1000 := Int.mul_le_mul r2 q1 (by omega) (by omega)
    walk_at "rd"
    refine ⟨(d, l, r * b + 1), rfl, ⟨hd1, by omega, by omega⟩, ?_⟩
    rintro v H2 ⟨t, rfl, p2, q2, hd2, e2⟩
    have e02 := ((Exc.refl H).new na).trans e1 |>.trans e2
    walk_at "rd"
    refine ⟨⟨p2, p1, by omega⟩, ?_⟩
    rintro v H3 ⟨q, rfl, nq, e3, hq3⟩
    obtain ⟨g, g0, ht, hb, b1, hg⟩ := red_dvd (t := t) p1
    refine hq _ _ ⟨q, _, _, rfl, e02.2 _ nq, hq3, ?_, ?_, b1, ?_, ?_, hd2.ex e3, e02.trans e3.exc⟩
    · rcases Int.lt_or_le (redT t b) 0 with q | q
      · have := Int.mul_neg_of_pos_of_neg g0 q
        omega
      · exact q
    · refine Int.le_of_mul_le_mul_left (a := g) ?_ g0
      have e : g * (r * redB t b) = r * (g * redB t b) := by ac_rfl
      rw [e, ← hb, ← ht]
      omega
    · refine Int.le_trans ?_ q1
      have := Int.mul_le_mul_of_nonneg_right (show 1 ≤ g by omega) (show 0 ≤ redB t b by omega)
      omega
    · unfold redT redB
      exact Int.gcd_ediv_gcd_ediv_gcd (by omega))
end
end Ff
end
section
set_option maxRecDepth 100000
set_option maxHeartbeats 4000000
/-! The law's draws: halves. -/
namespace Ff
open PySem PySem.Spec PyProof.Rows L2
local macro_rules | `(tactic| walk_at "ex") => `(tactic| first
  | exact Ex.refl _
  | with_reducible assumption
  | (refine Ex.new ?_ (by with_reducible assumption); walk_at "ex")
  | (refine Ex.mut ?_ (by walk_at "hn"); walk_at "ex")
  | (refine Ex.trans ?_ (by with_reducible assumption); walk_at "ex"))
local macro_rules | `(tactic| walk_at "hn") => `(tactic| first
  | with_reducible assumption
  | exact Ex.back (by with_reducible assumption) (by with_reducible assumption)
  | exact upd_none (by with_reducible assumption)
  | exact upd_none (upd_none (by with_reducible assumption))
  | exact Ex.back (by with_reducible assumption) (upd_none (by with_reducible assumption))
  | exact Ex.back (by with_reducible assumption) (Ex.back (by with_reducible assumption) (by with_reducible assumption)))
local macro_rules | `(tactic| walk_at "hp") => `(tactic| first
  | with_reducible assumption
  | with_reducible exact upd_same
  | (refine Ex.at (by with_reducible assumption) ?_; walk_at "ex")
  | (refine upd_old ?_ (by with_reducible assumption); walk_at "hp")
  | (refine upd_off ?_ (by with_reducible assumption); walk_at "hp"))
local macro_rules | `(tactic| walk_at "sd") => `(tactic| ((try dsimp only [CMul, CDiv, CPow]); first | exact True.intro | omega | (with_reducible assumption)))
local macro_rules | `(tactic| walk_at "sz") => `(tactic| exact Nat.le_of_ble_eq_true rfl)
local macro_rules | `(tactic| walk_at "is") => `(tactic| first
  | refine ⟨_, _, _, _, _, rfl, .ty _, .base (.int _), kt_int, ?_⟩
  | refine ⟨_, _, _, _, _, rfl, .ty _, .base (.int _), kt_intb, ?_⟩
  | refine ⟨_, _, _, _, _, rfl, .ty _, .base (.bl _), kt_bool, ?_⟩
  | refine ⟨_, _, _, _, _, rfl, .ty _, .base (.str _), kt_str, ?_⟩
  | refine ⟨_, _, _, _, _, rfl, .ty _, .base (.tup (by walk_at "hp")), kt_tup, ?_⟩
  | refine ⟨_, _, _, _, _, rfl, .ty _, .base (.dK (by walk_at "hp")), kt_dict, ?_⟩)
local macro_rules | `(tactic| walk_at "rd1") => `(tactic| first
  | refine ⟨_, rfl, ?_⟩
  | refine ⟨_, _, rfl, rfl, And.intro (by walk_at "sd") ?_⟩
  | refine ⟨_, _, rfl, rfl, ?_⟩
  | refine ⟨rfl, ?_⟩
  | refine ⟨_, _, _, _, rfl, rfl, sqT (by walk_at "hp"), rfl, ?_⟩
  | refine ⟨_, _, _, _, rfl, rfl, sqL (by walk_at "hp"), rfl, ?_⟩
  | refine ⟨_, _, rfl, sqT (by walk_at "hp"), rfl, ?_⟩
  | refine ⟨_, _, _, _, _, rfl, by walk_at "hp", by assumption, by assumption, rfl, ?_⟩
  | refine ⟨.inl ⟨rfl, _, sqL (by walk_at "hp")⟩, ?_⟩
  | refine ⟨_, _, rfl, .inl (sqL (by walk_at "hp")), ?_⟩
  | refine ⟨_, _, rfl, .inr (sqT (by walk_at "hp")), ?_⟩
  | refine ⟨(_, _), rfl, ?_⟩
  | refine ⟨(_, _, _), rfl, ?_⟩
  | refine ⟨(_, _, _, _), rfl, ?_⟩
  | refine ⟨_, _, rfl, ?_⟩
  | refine ⟨_, _, _, rfl, ?_⟩
  | walk_at "is")
local macro_rules | `(tactic| walk_at "rd") => `(tactic| repeat walk_at "rd1")

local macro_rules | `(tactic| walk_at "ib") => `(tactic| refine .inr ⟨_, rfl, ?_⟩)
local macro_rules | `(tactic| walk_at "ii") => `(tactic| refine .inl ⟨_, rfl, ?_⟩)
theorem lcmL_one {n : Int} : lcmL [n] = n := by simp [lcmL, lcm2]
theorem atI_end {α : Type} {l : List α} (h : l ≠ []) : ∃ v ∈ l, atI l (-1) = some v := by
  refine ⟨l.getLast h, List.getLast_mem h, ?_⟩
  have := atI_last l.dropLast (l.getLast h)
  rw [List.dropLast_concat_getLast] at this
  exact this
theorem lcmL_snoc {l : List Int} {n : Int} : lcmL (l ++ [n]) = lcm2 (lcmL l) n := by simp [lcmL]
section
variable {P : Program} {w : World} {K : PySem.W.Frag} {mg : PySem.Str → Option Value} {base : Heap} {Z : Adr}
def HvOk (most : Int) (ns : List Int) : Prop := (∀ n ∈ ns, 1 ≤ n ∧ n ≤ 1000) ∧ lcmL ns ≤ most
def sp_law_halves : Sp := mkSp (fun ((d, _, m, t) : Addr × Lc × Int × Int) => [.ref d, .int m, .int t]) (fun (d, l, m, t) H => DrawAt H d l ∧ 1 ≤ m ∧ m ≤ 4 ∧ 60 ≤ t ∧ t ≤ 240)
  (fun (d, l, m, t) H v H' => ∃ p n ns, v = .ref p ∧ H p = none ∧ H' p = some (.lst ((n :: ns).map .int)) ∧ (n :: ns).length ≤ 4 ∧ HvOk t (n :: ns) ∧ DrawAt H' d l ∧ Exc d l H H')
abbrev s_law_halves : Stmt := top 100
theorem sc_law_halves : FnScope ["_law_draw", "_law_many", "_law_most", "_law_found", "_law_turn", "_law_half_here"] ["_law_draw", "_law_many", "_law_most"] (C8.fnScope s_law_halves) := C8.fnScope_by (by decide +kernel)
theorem c_law_halves (T : Txt P w K mg base Z) : C8.Cal P w K mg base 4 "_law_halves" sp_law_halves [] :=
  calD (k := 3) T.d_law_halves sc_law_halves (fun _ _ _ _ _ _ us h => by obtain ⟨_, _, _, rfl⟩ := us3 (by exact h); rfl) (fun _ => rfl) (fun cdv f A outer s H0 H Q E a hr pre hq => by
    have S := sc_law_halves
    obtain ⟨d, l, m, t⟩ := a
    obtain ⟨hd, m1, m2, t1, t2⟩ := pre
    refine ⟨_, (pss_cons (ps_set (i := 3) S.nd rfl (Or.inl rfl) (pe_lst (pa_cons (pe_callB (call_min2 rfl) (by rfl) T.n_min (by decide +kernel) (pa_cons (C8.pe_c (c_law_half T) hr (by decide) rfl (pa_cons (pv 0) pa_nil)) (pa_cons (pv 2) pa_nil))) pa_nil)))
  (pss_cons (ps_for PassesOwn.never rfl (pi_range1 (by rfl) T.n_range (pa_cons (C8.pe_c (c_law_take T) hr (by decide) rfl (pa_cons (pv 0) (pa_cons (pv 1) pa_nil))) pa_nil)) (pg_name (i := 4) S.nd rfl (Or.inl rfl)) (pss_cons (ps_set (i := 5) S.nd rfl (Or.inl rfl) (C8.pe_c (c_law_pick T) hr (by decide) rfl (pa_cons (pv 0) (pa_cons (pe_lst (pa_cons (C8.pe_c (c_law_half T) hr (by decide) rfl (pa_cons (pv 0) pa_nil)) (pa_cons (pe_op op_mul (pe_ix (ixL (K := K) rfl) (pv 3) pe_int (fun _ _ => rfl)) pe_int) (pa_cons (pe_ix (ixL (K := K) rfl) (pv 3) (pe_un un_neg pe_int) (fun _ _ => rfl)) pa_nil)))) pa_nil))))
  (pss_one (ps_if (PW.pt (pw_and (pt_cmpR op_le (pv 5) pe_int (nomark _)) (pw_and1 (pt_cmpR op_le (C8.pe_c (c_law_lcm T) hr (by decide) rfl (pa_cons (pe_op op_cat (pv 3) (pe_lst (pa_cons (pv 5) pa_nil))) pa_nil)) (pv 2) (nomark _))))) (pss_one (ps_expr (pe_bm PySem.F.plainAttrs_list PySem.F.slot_list_append PySem.F.type_list_append mt_append (pv 3) (pa_cons (pv 5) pa_nil)))) pss_nil))))
  (pss_one (ps_ret (pv 3))))), ?_⟩
    walk_at "rd"
    refine ⟨(d, l), rfl, hd, ?_⟩
    rintro v H1 ⟨n, rfl, n1, n2, hd1, e1⟩
    walk_at "rd"
    refine ⟨by walk_at "sz", fun p np => ?_⟩
    have np0 := e1.2 _ np
    walk_at "rd"
    refine ⟨(d, l, m), rfl, ⟨hd1.new np, by omega, by omega⟩, ?_⟩
    rintro v H2 ⟨k, rfl, k1, k2, hd2, e2⟩
    have emin : (if t < n then t else n) = n := if_neg (by omega)
    rw [emin] at e2
    have po := hd1.off np
    have hp2 := e2.1 _ _ po.1 po.2.1 (upd_same (H := H1) (o := .lst [V.int n]))
    have e02 := (e1.new np).trans e2
    walk_at "rd"
    refine ⟨by omega, by omega, ?_⟩
    refine for_it walk_range (fun i σ H' => Hold (∃ (ns : List Int) (o4 o5 : Option V), σ = [some (.ref d), some (.int m), some (.int t), some (.ref p), o4, o5] ∧ Exc d l H H' ∧ DrawAt H' d l ∧ H' p = some (.lst ((n :: ns).map .int)) ∧ ns.length ≤ i ∧ HvOk t (n :: ns)))
      (.of ⟨[], _, _, rfl, e02, hd2, hp2, by simp, fun x hx => by simp at hx; omega, by rw [lcmL_one]; omega⟩) (fun _ _ _ _ _ => trivial) ?_ ?_
    · rintro i x σ H3 H4 hi hP ⟨rfl, rfl⟩
      obtain ⟨ns, o4, o5, rfl, e3, hd3, hp3, nl, ok⟩ := hP.out
      walk_at "rd"
      refine ⟨(d, l), rfl, hd3, ?_⟩
      rintro v H5 ⟨h1, rfl, p1, q1, hd5, e5⟩
      have hp5 := e5.1 _ _ po.1 po.2.1 hp3
      obtain ⟨vl, hvl, al⟩ := atI_end (l := (n :: ns).map V.int) (by simp)
      obtain ⟨z, hz, rfl⟩ := List.mem_map.mp hvl
      have hp5' : H5 p = some (.lst (.int n :: ns.map V.int)) := hp5
      have zr := ok.1 z hz
      have nr := ok.1 n (by simp)
      walk_at "rd"
      refine ⟨_, _, 0, .int n, rfl, rfl, sqL hp5', atI_nat (j := 0) rfl, ?_⟩
      walk_at "rd"
      refine ⟨_, _, -1, _, rfl, rfl, sqL hp5, al, ?_⟩
      walk_at "rd"
      refine ⟨by walk_at "sz", fun a na => ?_⟩
      refine ⟨(d, l, .ref a, [.int h1, .int (n * 2), .int z]), rfl, ⟨hd5.new na, by simp, by simp, .inl ⟨a, rfl, (hd5.off na).2.1, .inl upd_same⟩⟩, ?_⟩
      rintro v H6 ⟨hv, hd6, e6⟩
      obtain ⟨h, rfl, ph⟩ : ∃ i, v = .int i ∧ 1 ≤ i := by
        simp at hv
        rcases hv with rfl | rfl | rfl <;> exact ⟨_, rfl, by omega⟩
      have pa : p ≠ a := ne_of_none hp5 na
      have hp6 := e6.1 _ _ po.1 po.2.1 (upd_old (o' := .lst [.int h1, .int (n * 2), .int z]) hp5 na)
      have e06 := ((e3.trans e5).new na).trans e6
      walk_at "rd"
      refine iteD (fun hh => ?_) (fun _ => ?_)
      · walk_at "rd"
        refine ⟨by walk_at "sz", fun b nb => ?_⟩
        have e1 : (n :: ns).map V.int ++ [V.int h] = (n :: ns ++ [h]).map V.int := by simp
        refine ⟨_, _, _, _, rfl, rfl, upd_old hp6 nb, upd_same, szL (by simp; omega), fun g ng => ?_⟩
        have hp7 : upd (upd H6 b (.lst [.int h])) g (.lst ((n :: ns).map V.int ++ [V.int h])) p = some (.lst ((n :: ns).map V.int)) := upd_old (upd_old hp6 nb) ng
        have hd7 := (hd6.new (o := .lst [.int h]) nb).new (o := .lst ((n :: ns).map V.int ++ [V.int h])) ng
        have e07 := (e06.new (o := .lst [.int h]) nb).new (o := .lst ((n :: ns).map V.int ++ [V.int h])) ng
        walk_at "rd"
        refine ⟨(g, n :: ns ++ [h]), rfl, ⟨by rw [← e1]; exact upd_same, fun x hx => ?_⟩, ?_⟩
        · rw [List.mem_append] at hx
          rcases hx with hx | hx
          · have := ok.1 x hx
            omega
          · simp at hx
            omega
        rintro v H8 ⟨rfl, rfl⟩
        walk_at "rd"
        refine iteD (fun hl => ?_) (fun _ => ?_)
        · walk_at "rd"
          refine ⟨_, _, _, rfl, rfl, hp7, szlt (by simp; omega), ?_⟩
          refine .of ⟨ns ++ [h], _, _, rfl, e07.mut np0, ?_, by rw [upd_same]; simp, by simp; omega, fun x hx => ?_, by simpa using hl⟩
          · exact hd7.upd po
          · rw [← List.cons_append, List.mem_append] at hx
            rcases hx with hx | hx
            · exact ok.1 x hx
            · simp at hx
              omega
        · walk_at "rd"
          exact .of ⟨ns, _, _, rfl, e07, hd7, hp7, by omega, ok⟩
      · walk_at "rd"
        exact .of ⟨ns, _, _, rfl, e06, hd6, hp6, by omega, ok⟩
    · rintro σ H3 hP
      obtain ⟨ns, o4, o5, rfl, e3, hd3, hp3, nl, ok⟩ := hP.out
      walk_at "rd"
      exact hq _ _ ⟨p, n, ns, rfl, np0, hp3, by simp; omega, ok, hd3, e3⟩)
end
end Ff
end
section
set_option maxRecDepth 100000
set_option maxHeartbeats 4000000
/-! The law's draws: words, ends. -/
namespace Ff
open PySem PySem.Spec PyProof.Rows L2
local macro_rules | `(tactic| walk_at "ex") => `(tactic| first
  | exact Ex.refl _
  | with_reducible assumption
  | (refine Ex.new ?_ (by with_reducible assumption); walk_at "ex")
  | (refine Ex.mut ?_ (by walk_at "hn"); walk_at "ex")
  | (refine Ex.trans ?_ (by with_reducible assumption); walk_at "ex"))
local macro_rules | `(tactic| walk_at "hn") => `(tactic| first
  | with_reducible assumption
  | exact Ex.back (by with_reducible assumption) (by with_reducible assumption)
  | exact upd_none (by with_reducible assumption)
  | exact upd_none (upd_none (by with_reducible assumption))
  | exact Ex.back (by with_reducible assumption) (upd_none (by with_reducible assumption))
  | exact Ex.back (by with_reducible assumption) (Ex.back (by with_reducible assumption) (by with_reducible assumption)))
local macro_rules | `(tactic| walk_at "hp") => `(tactic| first
  | with_reducible assumption
  | with_reducible exact upd_same
  | (refine Ex.at (by with_reducible assumption) ?_; walk_at "ex")
  | (refine upd_old ?_ (by with_reducible assumption); walk_at "hp")
  | (refine upd_off ?_ (by with_reducible assumption); walk_at "hp"))
local macro_rules | `(tactic| walk_at "sd") => `(tactic| ((try dsimp only [CMul, CDiv, CPow]); first | exact True.intro | omega | (with_reducible assumption)))
local macro_rules | `(tactic| walk_at "sz") => `(tactic| exact Nat.le_of_ble_eq_true rfl)
local macro_rules | `(tactic| walk_at "is") => `(tactic| first
  | refine ⟨_, _, _, _, _, rfl, .ty _, .base (.int _), kt_int, ?_⟩
  | refine ⟨_, _, _, _, _, rfl, .ty _, .base (.int _), kt_intb, ?_⟩
  | refine ⟨_, _, _, _, _, rfl, .ty _, .base (.bl _), kt_bool, ?_⟩
  | refine ⟨_, _, _, _, _, rfl, .ty _, .base (.str _), kt_str, ?_⟩
  | refine ⟨_, _, _, _, _, rfl, .ty _, .base (.tup (by walk_at "hp")), kt_tup, ?_⟩
  | refine ⟨_, _, _, _, _, rfl, .ty _, .base (.dK (by walk_at "hp")), kt_dict, ?_⟩)
local macro_rules | `(tactic| walk_at "rd1") => `(tactic| first
  | refine ⟨_, rfl, ?_⟩
  | refine ⟨_, _, rfl, rfl, And.intro (by walk_at "sd") ?_⟩
  | refine ⟨_, _, rfl, rfl, ?_⟩
  | refine ⟨rfl, ?_⟩
  | refine ⟨_, _, _, _, rfl, rfl, sqT (by walk_at "hp"), rfl, ?_⟩
  | refine ⟨_, _, _, _, rfl, rfl, sqL (by walk_at "hp"), rfl, ?_⟩
  | refine ⟨_, _, rfl, sqT (by walk_at "hp"), rfl, ?_⟩
  | refine ⟨_, _, _, _, _, rfl, by walk_at "hp", by assumption, by assumption, rfl, ?_⟩
  | refine ⟨.inl ⟨rfl, _, sqL (by walk_at "hp")⟩, ?_⟩
  | refine ⟨_, _, rfl, .inl (sqL (by walk_at "hp")), ?_⟩
  | refine ⟨_, _, rfl, .inr (sqT (by walk_at "hp")), ?_⟩
  | refine ⟨(_, _), rfl, ?_⟩
  | refine ⟨(_, _, _), rfl, ?_⟩
  | refine ⟨(_, _, _, _), rfl, ?_⟩
  | refine ⟨_, _, rfl, ?_⟩
  | refine ⟨_, _, _, rfl, ?_⟩
  | walk_at "is")
local macro_rules | `(tactic| walk_at "rd") => `(tactic| repeat walk_at "rd1")

local macro_rules | `(tactic| walk_at "ib") => `(tactic| refine .inr ⟨_, rfl, ?_⟩)
local macro_rules | `(tactic| walk_at "ii") => `(tactic| refine .inl ⟨_, rfl, ?_⟩)
/-- a comprehension that draws -/
theorem lcD {J : It} {n : Nat} {G : Hp → Prop} {Y : Nat → Hp → V → Hp → Prop} (w : Walk J n G Y) {g : TG} {tt : TT} {te : TE} {vs : List Nat} {σ : L2.St} {H1 : Hp} {D : Addr} {Qd : Hp → Prop} {d : Addr} {l : Lc}
    (hD : H1 D = none) (hn : n ≤ 1000000) (b0 : DrawAt H1 d l) (R : Nat → V → Prop) (hG : ∀ H, Exc d l H1 H → DrawAt H d l → G H)
    (hs : ∀ i x H H', i < n → Exc d l H1 H → DrawAt H d l → Y i H x H' → ∀ (S : V → Hp → Prop) (Z : Hp → Prop), (∀ y H4, Exc d l H H4 → DrawAt H4 d l → R i y → S y H4) →
      g x (wipe σ vs) H' fun σ2 H2 => wipe σ2 vs = wipe σ vs ∧ tt σ2 H2 fun b H3 => if b = true then te σ2 H3 S else Z H3)
    (hd : ∀ H ys, Exc d l H1 H → DrawAt H d l → H D = some (.lst ys) → Paired (fun i y => R i y) (List.range n) ys → Qd H) :
    ∃ W : Nat → Nat → Hp → Prop, (∃ m, W 0 m (upd H1 D (.lst []))) ∧ ∀ i m H, W i m H →
      (J.stop i H ∧ Qd H) ∨ (J.go i H ∧ ∃ Nx : Hp → Prop, (∀ H', Nx H' → ∃ m', m' < m ∧ W (i + 1) m' H') ∧ ∀ x H', J.yld i H x H' → g x (wipe σ vs) H' fun σ2 H2 => wipe σ2 vs = wipe σ vs ∧ tt σ2 H2 fun b H3 =>
        if b = true then te σ2 H3 fun y H4 => ∃ acc, H4 D = some (.lst acc) ∧ acc.length < sizeLine ∧ Nx (upd H4 D (.lst (acc ++ [y]))) else Nx H3) :=
  lc_go w (Exc d l) (fun H => DrawAt H d l) (fun _ => true) (fun i y _ => R i y) Exc.trans (fun e => e.mut hD) (Exc.refl _) (fun _ b => b.upd (b0.off hD)) (fun _ e h => e.1 _ _ (b0.off hD).1 (b0.off hD).2.1 h) (fun _ _ r => r) (fun _ _ r => r) hn b0 hG
    (fun i x H H' hi e b y S Z s z => hs i x H H' hi e b y S Z (fun y H4 e4 b4 r => s y H4 e4 b4 rfl r)) (fun H ys e b h g => hd H ys e b h (by have e : (List.range n).filter (fun _ => true) = List.range n := List.filter_eq_self.mpr (fun _ _ => rfl); have := g; rw [e] at this; exact this))
theorem joinL_ones : ∀ cs : List Nat, TL.joinL [] (cs.map fun c => [c]) = cs
  | [] => rfl
  | [c] => rfl
  | c :: b :: r => by
    have := joinL_ones (b :: r)
    simp only [List.map_cons] at this ⊢
    rw [TL.joinL]
    rw [this]
    rfl
theorem ones_of : ∀ {l : List Nat} {ys : List V}, Paired (fun _ y => ∃ c ∈ letters.cps.toList, y = V.str ⟨#[c]⟩) l ys → ∃ cs : List Nat, ys = (cs.map fun c => (⟨#[c]⟩ : PySem.Str)).map V.str ∧ (∀ c ∈ cs, c ∈ letters.cps.toList) ∧ cs.length = l.length
  | _, _, .nil => ⟨[], rfl, by simp, rfl⟩
  | _, _, .cons ⟨c, hc, e⟩ t => by
    obtain ⟨cs, h1, h2, h3⟩ := ones_of t
    refine ⟨c :: cs, by rw [e, h1]; rfl, fun x hx => ?_, by simp [h3]⟩
    rw [List.mem_cons] at hx
    rcases hx with rfl | hx
    · exact hc
    · exact h2 x hx
theorem join_ones (cs : List Nat) : (Txt.join "" (cs.map fun c => (⟨#[c]⟩ : PySem.Str))).cps.toList = cs := by
  rw [TL.join_eq]
  have h := TL.tl_join "" (cs.map fun c => (⟨#[c]⟩ : PySem.Str))
  rw [List.map_map] at h
  exact h.trans (joinL_ones cs)
section
variable {P : Program} {w : World} {K : PySem.W.Frag} {mg : PySem.Str → Option Value} {base : Heap} {Z : Adr}
def sp_law_term : Sp := mkSp (fun ((d, _) : Addr × Lc) => [.ref d]) (fun (d, l) H => DrawAt H d l)
  (fun (d, l) H v H' => ∃ z, v = .str z ∧ WordOk z ∧ DrawAt H' d l ∧ Exc d l H H')
abbrev s_law_term : Stmt := top 103
theorem sc_law_term : FnScope ["_law_draw", "_law_letters", "_law_long", "_law_turn"] ["_law_draw"] (C8.fnScope s_law_term) := C8.fnScope_by (by decide +kernel)
theorem c_law_term (T : Txt P w K mg base Z) : C8.Cal P w K mg base 3 "_law_term" sp_law_term [] :=
  calD (k := 2) T.d_law_term sc_law_term (fun _ _ _ _ _ _ us h => by obtain ⟨_, rfl⟩ := us1 (by exact h); rfl) (fun _ => rfl) (fun cdv f A outer s H0 H Q E a hr pre hq => by
    have S := sc_law_term
    obtain ⟨d, l⟩ := a
    have hd := pre
    refine ⟨_, (pss_cons (ps_set (i := 1) S.nd rfl (Or.inr rfl) pe_str)
  (pss_cons (ps_set (i := 2) S.nd rfl (Or.inl rfl) (pe_join pe_str (pe_lc (own := [("_law_turn", 3)]) rfl S.nd (pi_range1 (by rfl) T.n_range (pa_cons (pe_op op_add pe_int (C8.pe_c (c_law_take T) hr (by decide) rfl (pa_cons (pv 0) (pa_cons pe_int pa_nil)))) pa_nil)) (blkOk_by (by kernel_rfl)) (fun _ _ _ _ _ => (pg_name (i := 3) S.nd rfl (by first | exact Or.inl rfl | exact Or.inr rfl))) (fun _ _ _ _ _ => pts_nil) (fun _ _ _ _ _ => (C8.pe_c (c_law_pick T) hr (by decide) rfl (pa_cons (pv 0) (pa_cons (pv 1) pa_nil)))))))
  (pss_one (ps_ret (C8.pe_c (c_law_pick T) hr (by decide) rfl (pa_cons (pv 0) (pa_cons (pe_lst (pa_cons pe_str (pa_cons pe_str (pa_cons pe_str (pa_cons pe_str (pa_cons pe_str (pa_cons (pv 2) pa_nil))))))) pa_nil))))))), ?_⟩
    have hd : DrawAt H d l := pre
    walk_at "rd"
    refine ⟨⟨_, rfl⟩, ?_⟩
    walk_at "rd"
    refine ⟨(d, l, 8), rfl, ⟨hd, by omega, by omega⟩, ?_⟩
    rintro v H1 ⟨k, rfl, k1, k2, hd1, e1⟩
    walk_at "rd"
    refine ⟨by omega, by omega, fun D nD => ?_⟩
    refine lcD (l := l) walk_range nD (by omega) hd1 (fun _ y => ∃ c ∈ letters.cps.toList, y = V.str ⟨#[c]⟩) (fun _ _ _ => trivial) ?_ ?_
    · rintro i x H4 H5 hi e4 hd4 ⟨rfl, rfl⟩ S Z hS
      walk_at "rd"
      refine ⟨(d, l, .str letters, letters.cps.toList.map fun c => .str ⟨#[c]⟩), rfl, ⟨hd4, by decide +kernel, by decide +kernel, .inr ⟨_, rfl, rfl⟩⟩, ?_⟩
      rintro v H6 ⟨hv, hd6, e6⟩
      obtain ⟨c, hc, rfl⟩ := List.mem_map.mp hv
      exact hS _ _ e6 hd6 ⟨c, hc, rfl⟩
    intro H6 ys e6 hd6 hD got
    obtain ⟨cs, rfl, cl, cn⟩ := ones_of got
    rw [List.length_range] at cn
    refine ⟨_, D, _, rfl, rfl, .inl (sqL hD), ?_, ?_⟩
    · have e : (cs.map fun c => (⟨#[c]⟩ : PySem.Str)).map (fun x => x.length) = cs.map fun _ => 1 := by rw [List.map_map]; rfl
      rw [e]
      have : (cs.map fun _ => 1).sum = cs.length := by
        clear e got hD cl cn
        induction cs with
        | nil => rfl
        | cons c cs ih => simp [ih]; omega
      rw [this, List.length_map]
      show cs.length + cs.length * 0 ≤ _
      omega
    have jn := join_ones cs
    obtain ⟨z, hz⟩ : ∃ z, Txt.join "" (cs.map fun c => (⟨#[c]⟩ : PySem.Str)) = z := ⟨_, rfl⟩
    rw [hz] at jn ⊢
    have wz : WordOk z := by
      have e : z.length = cs.length := by rw [← jn]; exact (Array.length_toList).symm
      exact ⟨by rw [e]; omega, by rw [e]; omega, by rw [jn]; exact cl⟩
    have e06 := (e1.trans e6)
    walk_at "rd"
    refine ⟨by walk_at "sz", fun a na => ?_⟩
    refine ⟨(d, l, .ref a, [.str "a", .str "b", .str "slow", .str "tell", .str "look", .str z]), rfl, ⟨hd6.new na, by simp, by simp, .inl ⟨a, rfl, (hd6.off na).2.1, .inl upd_same⟩⟩, ?_⟩
    rintro v H7 ⟨hv, hd7, e7⟩
    obtain ⟨y, rfl, wy⟩ : ∃ y, v = .str y ∧ WordOk y := by
      simp at hv
      rcases hv with rfl | rfl | rfl | rfl | rfl | rfl
      · exact ⟨_, rfl, by decide +kernel, by decide +kernel, by decide +kernel⟩
      · exact ⟨_, rfl, by decide +kernel, by decide +kernel, by decide +kernel⟩
      · exact ⟨_, rfl, by decide +kernel, by decide +kernel, by decide +kernel⟩
      · exact ⟨_, rfl, by decide +kernel, by decide +kernel, by decide +kernel⟩
      · exact ⟨_, rfl, by decide +kernel, by decide +kernel, by decide +kernel⟩
      · exact ⟨_, rfl, wz⟩
    exact hq _ _ ⟨y, rfl, wy, hd7, (e06.new na).trans e7⟩)
end
end Ff
end
section
set_option maxRecDepth 100000
set_option maxHeartbeats 4000000
/-! The law's draws: ends. -/
namespace Ff
open PySem PySem.Spec PyProof.Rows L2
local macro_rules | `(tactic| walk_at "ex") => `(tactic| first
  | exact Ex.refl _
  | with_reducible assumption
  | (refine Ex.new ?_ (by with_reducible assumption); walk_at "ex")
  | (refine Ex.mut ?_ (by walk_at "hn"); walk_at "ex")
  | (refine Ex.trans ?_ (by with_reducible assumption); walk_at "ex"))
local macro_rules | `(tactic| walk_at "hn") => `(tactic| first
  | with_reducible assumption
  | exact Ex.back (by with_reducible assumption) (by with_reducible assumption)
  | exact upd_none (by with_reducible assumption)
  | exact upd_none (upd_none (by with_reducible assumption))
  | exact Ex.back (by with_reducible assumption) (upd_none (by with_reducible assumption))
  | exact Ex.back (by with_reducible assumption) (Ex.back (by with_reducible assumption) (by with_reducible assumption)))
local macro_rules | `(tactic| walk_at "hp") => `(tactic| first
  | with_reducible assumption
  | with_reducible exact upd_same
  | (refine Ex.at (by with_reducible assumption) ?_; walk_at "ex")
  | (refine upd_old ?_ (by with_reducible assumption); walk_at "hp")
  | (refine upd_off ?_ (by with_reducible assumption); walk_at "hp"))
local macro_rules | `(tactic| walk_at "sd") => `(tactic| ((try dsimp only [CMul, CDiv, CPow]); first | exact True.intro | omega | (with_reducible assumption)))
local macro_rules | `(tactic| walk_at "sz") => `(tactic| exact Nat.le_of_ble_eq_true rfl)
local macro_rules | `(tactic| walk_at "is") => `(tactic| first
  | refine ⟨_, _, _, _, _, rfl, .ty _, .base (.int _), kt_int, ?_⟩
  | refine ⟨_, _, _, _, _, rfl, .ty _, .base (.int _), kt_intb, ?_⟩
  | refine ⟨_, _, _, _, _, rfl, .ty _, .base (.bl _), kt_bool, ?_⟩
  | refine ⟨_, _, _, _, _, rfl, .ty _, .base (.str _), kt_str, ?_⟩
  | refine ⟨_, _, _, _, _, rfl, .ty _, .base (.tup (by walk_at "hp")), kt_tup, ?_⟩
  | refine ⟨_, _, _, _, _, rfl, .ty _, .base (.dK (by walk_at "hp")), kt_dict, ?_⟩)
local macro_rules | `(tactic| walk_at "rd1") => `(tactic| first
  | refine ⟨_, rfl, ?_⟩
  | refine ⟨_, _, rfl, rfl, And.intro (by walk_at "sd") ?_⟩
  | refine ⟨_, _, rfl, rfl, ?_⟩
  | refine ⟨rfl, ?_⟩
  | refine ⟨_, _, _, _, rfl, rfl, sqT (by walk_at "hp"), rfl, ?_⟩
  | refine ⟨_, _, _, _, rfl, rfl, sqL (by walk_at "hp"), rfl, ?_⟩
  | refine ⟨_, _, rfl, sqT (by walk_at "hp"), rfl, ?_⟩
  | refine ⟨_, _, _, _, _, rfl, by walk_at "hp", by assumption, by assumption, rfl, ?_⟩
  | refine ⟨.inl ⟨rfl, _, sqL (by walk_at "hp")⟩, ?_⟩
  | refine ⟨_, _, rfl, .inl (sqL (by walk_at "hp")), ?_⟩
  | refine ⟨_, _, rfl, .inr (sqT (by walk_at "hp")), ?_⟩
  | refine ⟨(_, _), rfl, ?_⟩
  | refine ⟨(_, _, _), rfl, ?_⟩
  | refine ⟨(_, _, _, _), rfl, ?_⟩
  | refine ⟨_, _, rfl, ?_⟩
  | refine ⟨_, _, _, rfl, ?_⟩
  | walk_at "is")
local macro_rules | `(tactic| walk_at "rd") => `(tactic| repeat walk_at "rd1")

local macro_rules | `(tactic| walk_at "ib") => `(tactic| refine .inr ⟨_, rfl, ?_⟩)
local macro_rules | `(tactic| walk_at "ii") => `(tactic| refine .inl ⟨_, rfl, ?_⟩)
theorem ends_all {h b : Int} (h0 : 0 ≤ b) (hb : b ≤ h) (h11 : b ≤ 11) : EndsOk h ((List.range (b + 1).toNat).map fun i : Nat => (i : Int)) := by
  refine ⟨fun e he => ?_, ?_, by rw [List.length_map, List.length_range]; omega⟩
  · obtain ⟨i, hi, rfl⟩ := List.mem_map.mp he
    rw [List.mem_range] at hi
    omega
  · rw [List.pairwise_map]
    exact List.Pairwise.imp (fun h => by omega) (List.pairwise_lt_range)
section
variable {P : Program} {w : World} {K : PySem.W.Frag} {mg : PySem.Str → Option Value} {base : Heap} {Z : Adr}
def sp_law_ends : Sp := mkSp (fun ((d, _, h) : Addr × Lc × Int) => [.ref d, .int h]) (fun (d, l, h) H => DrawAt H d l ∧ 1 ≤ h ∧ h ≤ 1000)
  (fun (d, l, h) H v H' => ∃ p es, v = .ref p ∧ H p = none ∧ H' p = some (.tup (es.map V.int)) ∧ EndsOk h es ∧ DrawAt H' d l ∧ Exc d l H H')
abbrev s_law_ends : Stmt := top 104
theorem sc_law_ends : FnScope ["_law_draw", "_law_half_here", "_law_some", "_law_turn"] ["_law_draw", "_law_half_here"] (C8.fnScope s_law_ends) := C8.fnScope_by (by decide +kernel)
theorem c_law_ends (T : Txt P w K mg base Z) : C8.Cal P w K mg base 3 "_law_ends" sp_law_ends [] :=
  calD (k := 2) T.d_law_ends sc_law_ends (fun _ _ _ _ _ _ us h => by obtain ⟨_, _, rfl⟩ := us2 (by exact h); rfl) (fun _ => rfl) (fun cdv f A outer s H0 H Q E a hr pre hq => by
    have S := sc_law_ends
    obtain ⟨d, l, h⟩ := a
    obtain ⟨hd, h1, h2⟩ := pre
    refine ⟨_, (pss_cons (ps_if (pt_cmpR op_eq (C8.pe_c (c_law_take T) hr (by decide) rfl (pa_cons (pv 0) (pa_cons pe_int pa_nil))) pe_int (nomark _)) (pss_one (ps_ret (pe_callTy (tupO (K := K) rfl) (by rfl) T.n_tuple (by decide +kernel) (pa_cons (pe_listRg rfl (by rfl) T.n_list (prg_1 (by rfl) T.n_range (pe_op op_add (pe_callB (call_min2 rfl) (by rfl) T.n_min (by decide +kernel) (pa_cons (pv 1) (pa_cons pe_int pa_nil))) pe_int))) pa_nil)))) pss_nil)
  (pss_cons (ps_setLc (i := 2) (own := [("_law_turn", 3)]) rfl S.nd rfl rfl (sw_true rfl rfl rfl (by decide +kernel)) (pi_range1 (by rfl) T.n_range (pa_cons (C8.pe_c (c_law_take T) hr (by decide) rfl (pa_cons (pv 0) (pa_cons pe_int pa_nil))) pa_nil)) (blkOk_by (by kernel_rfl)) (fun _ _ _ _ _ => (pg_name (i := 3) S.nd rfl (by first | exact Or.inl rfl | exact Or.inr rfl))) (fun _ _ _ _ _ => pts_nil) (fun _ _ _ _ _ => (C8.pe_c (c_law_pick T) hr (by decide) rfl (pa_cons (pv 0) (pa_cons (pe_lst (pa_cons pe_int (pa_cons (pv 1) (pa_cons (C8.pe_c (c_law_take T) hr (by decide) rfl (pa_cons (pv 0) (pa_cons (pe_op op_add (pv 1) pe_int) pa_nil))) pa_nil)))) pa_nil)))))
  (pss_one (ps_ret (pe_callTy (tupO (K := K) rfl) (by rfl) T.n_tuple (by decide +kernel) (pa_cons (pe_callB (cr_sortedSet rfl) (by rfl) T.n_sorted (by decide +kernel) (pa_cons (pe_callTy (call_setL (K := K) rfl rfl) (by rfl) T.n_set (by decide +kernel) (pa_cons (pv 2) pa_nil)) pa_nil)) pa_nil)))))), ?_⟩
    walk_at "rd"
    refine ⟨(d, l, 12), rfl, ⟨hd, by omega, by omega⟩, ?_⟩
    rintro v H1 ⟨k, rfl, k1, k2, hd1, e1⟩
    walk_at "rd"
    refine iteD (fun _ => ?_) (fun _ => ?_)
    · walk_at "rd"
      have b0 : 0 ≤ (if 11 < h then 11 else h) := by split <;> omega
      have b1 : (if 11 < h then 11 else h) ≤ h := by split <;> omega
      have b2 : (if 11 < h then 11 else h) ≤ 11 := by split <;> omega
      obtain ⟨b, hb⟩ : ∃ b, (if 11 < h then 11 else h) = b := ⟨_, rfl⟩
      rw [hb] at b0 b1 b2 ⊢
      refine ⟨⟨by omega, by omega, by omega, by omega, by omega⟩, fun q nq => ?_⟩
      walk_at "rd"
      refine ⟨_, _, rfl, .inl ⟨sqL upd_same, fun p np => ?_⟩⟩
      have e : rgV 0 (b + 1) = ((List.range (b + 1).toNat).map fun i : Nat => (i : Int)).map V.int := by unfold rgV; simp [Function.comp_def]
      have ep := (e1.new (o := .lst (rgV 0 (b + 1))) nq)
      exact hq _ _ ⟨p, _, rfl, ep.2 _ np, by rw [upd_same, e], ends_all b0 b1 b2, (hd1.new nq).new np, ep.new np⟩
    · walk_at "rd"
      refine ⟨(d, l, 5), rfl, ⟨hd1, by omega, by omega⟩, ?_⟩
      rintro v H2 ⟨m, rfl, m1, m2, hd2, e2⟩
      walk_at "rd"
      refine ⟨by omega, by omega, fun D nD => ?_⟩
      refine lcD (l := l) walk_range nD (by omega) hd2 (fun _ y => ∃ q, y = V.int q ∧ 0 ≤ q ∧ q ≤ h) (fun _ _ _ => trivial) ?_ ?_
      · rintro i x H4 H5 hi e4 hd4 ⟨rfl, rfl⟩ S Z hS
        walk_at "rd"
        refine ⟨(d, l, h + 1), rfl, ⟨hd4, by omega, by omega⟩, ?_⟩
        rintro v H6 ⟨q, rfl, q1, q2, hd6, e6⟩
        walk_at "rd"
        refine ⟨by walk_at "sz", fun a na => ?_⟩
        refine ⟨(d, l, .ref a, [.int 0, .int h, .int q]), rfl, ⟨hd6.new na, by simp, by simp, .inl ⟨a, rfl, (hd6.off na).2.1, .inl upd_same⟩⟩, ?_⟩
        rintro v H7 ⟨hv, hd7, e7⟩
        refine hS _ _ ((e6.new na).trans e7) hd7 ?_
        simp at hv
        rcases hv with rfl | rfl | rfl <;> exact ⟨_, rfl, by omega, by omega⟩
      · intro H6 ys e6 hd6 hD got
        obtain ⟨qs, rfl, hq6⟩ := ints_of got
        have ln : qs.length < 5 := by
          have := paired_len got
          simp only [List.length_map, List.length_range] at this
          omega
        walk_at "rd"
        refine ⟨D, qs, rfl, sqL hD, by omega, fun z S n nz hS nl => ?_⟩
        walk_at "rd"
        refine ⟨z, S, n, rfl, upd_same, by omega, fun ns p inc hm hl np => ?_⟩
        walk_at "rd"
        refine ⟨_, _, rfl, .inl ⟨sqL upd_same, fun g ng => ?_⟩⟩
        have ez := (((e1.trans e2).trans e6).new (o := SetO w z S n) nz).new (o := .lst (ns.map V.int)) np
        refine hq _ _ ⟨g, ns, rfl, ez.2 _ ng, upd_same, ⟨fun e he => ?_, inc, by omega⟩, (((hd6.new nz).new np).new ng), ez.new ng⟩
        exact hq6 e ((hS e).mp ((hm e).mp he)))
end
end Ff
end
section
set_option maxRecDepth 100000
set_option maxHeartbeats 4000000
/-! The law's sheet; what can be. -/
namespace Ff
open PySem PySem.Spec PyProof.Rows L2
local macro_rules | `(tactic| walk_at "ex") => `(tactic| first
  | exact Ex.refl _
  | with_reducible assumption
  | (refine Ex.new ?_ (by with_reducible assumption); walk_at "ex")
  | (refine Ex.mut ?_ (by walk_at "hn"); walk_at "ex")
  | (refine Ex.trans ?_ (by with_reducible assumption); walk_at "ex"))
local macro_rules | `(tactic| walk_at "hn") => `(tactic| first
  | with_reducible assumption
  | exact Ex.back (by with_reducible assumption) (by with_reducible assumption)
  | exact upd_none (by with_reducible assumption)
  | exact upd_none (upd_none (by with_reducible assumption))
  | exact Ex.back (by with_reducible assumption) (upd_none (by with_reducible assumption))
  | exact Ex.back (by with_reducible assumption) (Ex.back (by with_reducible assumption) (by with_reducible assumption)))
local macro_rules | `(tactic| walk_at "hp") => `(tactic| first
  | with_reducible assumption
  | with_reducible exact upd_same
  | (refine Ex.at (by with_reducible assumption) ?_; walk_at "ex")
  | (refine upd_old ?_ (by with_reducible assumption); walk_at "hp")
  | (refine upd_off ?_ (by with_reducible assumption); walk_at "hp"))
local macro_rules | `(tactic| walk_at "sd") => `(tactic| ((try dsimp only [CMul, CDiv, CPow]); first | exact True.intro | omega | (with_reducible assumption)))
local macro_rules | `(tactic| walk_at "sz") => `(tactic| exact Nat.le_of_ble_eq_true rfl)
local macro_rules | `(tactic| walk_at "is") => `(tactic| first
  | refine ⟨_, _, _, _, _, rfl, .ty _, .base (.int _), kt_int, ?_⟩
  | refine ⟨_, _, _, _, _, rfl, .ty _, .base (.int _), kt_intb, ?_⟩
  | refine ⟨_, _, _, _, _, rfl, .ty _, .base (.bl _), kt_bool, ?_⟩
  | refine ⟨_, _, _, _, _, rfl, .ty _, .base (.str _), kt_str, ?_⟩
  | refine ⟨_, _, _, _, _, rfl, .ty _, .base (.tup (by walk_at "hp")), kt_tup, ?_⟩
  | refine ⟨_, _, _, _, _, rfl, .ty _, .base (.dK (by walk_at "hp")), kt_dict, ?_⟩)
local macro_rules | `(tactic| walk_at "rd1") => `(tactic| first
  | refine ⟨_, rfl, ?_⟩
  | refine ⟨_, _, rfl, rfl, And.intro (by walk_at "sd") ?_⟩
  | refine ⟨_, _, rfl, rfl, ?_⟩
  | refine ⟨rfl, ?_⟩
  | refine ⟨_, _, _, _, rfl, rfl, sqT (by walk_at "hp"), rfl, ?_⟩
  | refine ⟨_, _, _, _, rfl, rfl, sqL (by walk_at "hp"), rfl, ?_⟩
  | refine ⟨_, _, rfl, sqT (by walk_at "hp"), rfl, ?_⟩
  | refine ⟨_, _, _, _, _, rfl, by walk_at "hp", by assumption, by assumption, rfl, ?_⟩
  | refine ⟨.inl ⟨rfl, _, sqL (by walk_at "hp")⟩, ?_⟩
  | refine ⟨_, _, rfl, .inl (sqL (by walk_at "hp")), ?_⟩
  | refine ⟨_, _, rfl, .inr (sqT (by walk_at "hp")), ?_⟩
  | refine ⟨(_, _), rfl, ?_⟩
  | refine ⟨(_, _, _), rfl, ?_⟩
  | refine ⟨(_, _, _, _), rfl, ?_⟩
  | refine ⟨_, _, rfl, ?_⟩
  | refine ⟨_, _, _, rfl, ?_⟩
  | walk_at "is")
local macro_rules | `(tactic| walk_at "rd") => `(tactic| repeat walk_at "rd1")

local macro_rules | `(tactic| walk_at "ib") => `(tactic| refine .inr ⟨_, rfl, ?_⟩)
local macro_rules | `(tactic| walk_at "ii") => `(tactic| refine .inl ⟨_, rfl, ?_⟩)
/-! ### what neither lists nor dicts of texts are stays over draws -/
def ExN (H H' : Hp) : Prop := ∀ a o, (∀ xs, o ≠ .lst xs) → (∀ kvs, o ≠ .dK kvs) → H a = some o → H' a = some o
theorem ExN.refl (H : Hp) : ExN H H := fun _ _ _ _ h => h
theorem ExN.trans {H H1 H2 : Hp} (a : ExN H H1) (b : ExN H1 H2) : ExN H H2 := fun x o h1 h2 h => b x o h1 h2 (a x o h1 h2 h)
theorem Ex.exn {H H' : Hp} (e : Ex H H') : ExN H H' := fun a o _ _ h => e a o h
theorem Exc.exn {d : Addr} {l : Lc} {H H' : Hp} (e : Exc d l H H') (hd : DrawAt H d l) : ExN H H' := fun a o h1 h2 h => by
  obtain ⟨r, t, m, ns, cs, W⟩ := hd
  exact e.1 a o (ne_of h W.hd (h2 _)) (ne_of h W.hl (h1 _)) h
theorem exn_lst {H : Hp} {p : Addr} {xs : List V} {o : HO} (h : H p = some (.lst xs)) : ExN H (upd H p o) := fun a u h1 _ ha => upd_off ha (ne_of ha h (h1 _))
theorem exn_dK {H : Hp} {p : Addr} {xs : List (Key × V)} {o : HO} (h : H p = some (.dK xs)) : ExN H (upd H p o) := fun a u _ h2 ha => upd_off ha (ne_of ha h (h2 _))
theorem LooksAt.exn {H H' : Hp} {vs : List V} {ls : List (Int × Int)} (h : LooksAt H vs ls) (e : ExN H H') : LooksAt H' vs ls := paired_map (fun _ _ ⟨p, a, b⟩ => ⟨p, a, e _ _ (fun _ z => nomatch z) (fun _ z => nomatch z) b⟩) h
theorem MomAt.exn {Z : Adr} {H H' : Hp} {m : Addr} {d : Int} {ls : List (Int × Int)} (h : MomAt Z H m d ls) (e : ExN H H') : MomAt Z H' m d ls := by
  obtain ⟨dx, lt, vs, dd, bb, h1, h2, h3⟩ := h
  exact ⟨dx, lt, vs, dd, bb, e _ _ (fun _ z => nomatch z) (fun _ z => nomatch z) h1, e _ _ (fun _ z => nomatch z) (fun _ z => nomatch z) h2, h3.exn e⟩
theorem WatAt.exn {Z : Adr} {H H' : Hp} {x : Addr} {d : Int} {ls : List (Int × Int)} (h : WatAt Z H x d ls) (e : ExN H H') : WatAt Z H' x d ls := by
  obtain ⟨dx', m', b1, b2, b3⟩ := h
  exact ⟨dx', m', e _ _ (fun _ z => nomatch z) (fun _ z => nomatch z) b1, b2.exn e, b3⟩
theorem PatAt.exn {Z : Adr} {H H' : Hp} {x : Addr} {p : Int} {M : Int → Prop} (h : PatAt Z H x p M) (e : ExN H H') : PatAt Z H' x p M := by
  obtain ⟨dx, t, vs, ps, h1, h2, h3, h4⟩ := h
  exact ⟨dx, t, vs, ps, e _ _ (fun _ z => nomatch z) (fun _ z => nomatch z) h1, e _ _ (fun _ z => nomatch z) (fun _ z => nomatch z) h2, paired_map (fun _ _ ⟨p, a, b⟩ => ⟨p, a, e _ _ (fun _ z => nomatch z) (fun _ z => nomatch z) b⟩) h3, h4⟩
theorem ExN.tup {H H' : Hp} {a : Addr} {xs : List V} (e : ExN H H') (h : H a = some (.tup xs)) : H' a = some (.tup xs) := e _ _ (fun _ z => nomatch z) (fun _ z => nomatch z) h
/-! ### the sheet -/
def shK (d : Int) (lk hv : Addr) : HO := .dK [(.inr "doubt", .int d), (.inr "looks", .ref lk), (.inr "halves", .ref hv)]
theorem sh_nl {d : Int} {lk hv : Addr} {xs : List V} : HO.lst xs ≠ shK d lk hv := fun h => by unfold shK at h; cases h
structure SheetAt (H : Hp) (s : Addr) (d : Int) (lk hv : Addr) (vs : List V) (ls : List (Int × Int)) : Prop where
  at_ : H s = some (shK d lk hv)
  lk : H lk = some (.lst vs)
  ls : LooksAt H vs ls
theorem SheetAt.ex {H H' : Hp} {s : Addr} {d : Int} {lk hv : Addr} {vs : List V} {ls : List (Int × Int)} (h : SheetAt H s d lk hv vs ls) (e : Ex H H') : SheetAt H' s d lk hv vs ls := ⟨e _ _ h.at_, e _ _ h.lk, h.ls.ex e⟩
theorem SheetAt.exc {H H' : Hp} {s dr : Addr} {l : Lc} {d : Int} {lk hv : Addr} {vs : List V} {ls : List (Int × Int)} (h : SheetAt H s d lk hv vs ls) (e : Exc dr l H H') (hd : DrawAt H dr l) (n1 : s ≠ dr) (n2 : lk ≠ l.1) : SheetAt H' s d lk hv vs ls := by
  obtain ⟨r, t, m, ns, cs, W⟩ := id hd
  exact ⟨e.1 _ _ n1 (ne_of h.at_ W.hl (fun z => sh_nl z.symm)) h.at_, e.1 _ _ (ne_of h.lk W.hd dr_ne) n2 h.lk, h.ls.exn (e.exn hd)⟩
theorem dg_doubt {H : Hp} {s lk hv : Addr} {d : Int} (h : H s = some (shK d lk hv)) : DGet H s (.str "doubt") (some (.int d)) := Or.inl ⟨_, .inr "doubt", .inl h, rfl, rfl⟩
theorem dg_looks {H : Hp} {s lk hv : Addr} {d : Int} (h : H s = some (shK d lk hv)) : DGet H s (.str "looks") (some (.ref lk)) := Or.inl ⟨_, .inr "looks", .inl h, rfl, rfl⟩
local macro_rules | `(tactic| walk_at "sh") => `(tactic| first
  | refine ⟨_, _, rfl, dg_doubt (by walk_at "hp"), ?_⟩
  | refine ⟨_, _, rfl, dg_looks (by walk_at "hp"), ?_⟩)
theorem seen_test {h t b r d : Int} (hh : 1 ≤ h) (hb : 1 ≤ b) (ht : 0 ≤ t) :
    (d * redB (fold2 h t b) b < if redT (fold2 h t b) b - r * redB (fold2 h t b) b < 0 then -(redT (fold2 h t b) b - r * redB (fold2 h t b) b) else redT (fold2 h t b) b - r * redB (fold2 h t b) b) ↔
      ¬ (2 * r - 2 * d ≤ fold h (spotR t b) ∧ fold h (spotR t b) ≤ 2 * r + 2 * d) := by
  obtain ⟨g, g0, e1, e2, B1, hg⟩ := red_dvd (t := fold2 h t b) hb
  rw [← spot_fold hh hb ht]
  obtain ⟨T, hT⟩ : ∃ T, redT (fold2 h t b) b = T := ⟨_, rfl⟩
  obtain ⟨B, hB⟩ : ∃ B, redB (fold2 h t b) b = B := ⟨_, rfl⟩
  obtain ⟨m, hm⟩ : ∃ m, fold2 h t b = m := ⟨_, rfl⟩
  rw [hT, hB]
  rw [hT, hm] at e1
  rw [hB] at e2
  rw [hm]
  have k1 := (mul_le_spot (m := m) (e := r - d) hb).1
  have k2 := (mul_le_spot (m := m) (e := r + d) hb).2
  have q1 : (r - d) * B ≤ T ↔ (r - d) * b ≤ m := by
    rw [e1, e2, show (r - d) * (g * B) = g * ((r - d) * B) by ac_rfl]
    exact ⟨fun q => Int.mul_le_mul_of_nonneg_left q (by omega), fun q => Int.le_of_mul_le_mul_left q g0⟩
  have q2 : (r + d) * B < T ↔ (r + d) * b < m := by
    rw [e1, e2, show (r + d) * (g * B) = g * ((r + d) * B) by ac_rfl]
    exact ⟨fun q => Int.mul_lt_mul_of_pos_left q g0, fun q => Int.lt_of_mul_lt_mul_left q (by omega)⟩
  rw [← q1, Int.sub_mul] at k1
  rw [← q2, Int.add_mul] at k2
  generalize r * B = x at *
  generalize d * B = y at *
  split <;> omega
section
variable {P : Program} {w : World} {K : PySem.W.Frag} {mg : PySem.Str → Option Value} {base : Heap} {Z : Adr}
def sp_law_can_be : Sp := mkSp (fun ((s, q, _) : Addr × Addr × Int × Addr × Addr × List V × List (Int × Int) × Int × Int) => [.ref s, .ref q])
  (fun (s, q, d, lk, hv, vs, ls, t, b) H => SheetAt H s d lk hv vs ls ∧ H q = some (.tup [.int t, .int b]) ∧ 0 ≤ t ∧ 1 ≤ b ∧ b ≤ 100000 ∧ (∀ l ∈ ls, 1 ≤ l.1 ∧ l.1 ≤ 1000) ∧ 0 ≤ d ∧ d ≤ 1000)
  (fun (_, _, d, _, _, _, ls, t, b) H v H' => v = .bl (tv (LeftM d ls (spotR t b))) ∧ Ex H H')
abbrev s_law_can_be : Stmt := top 106
theorem sc_law_can_be : FnScope ["_law_sheet", "_law_one", "_law_half_here", "_law_reading", "_law_top", "_law_bottom"] ["_law_sheet", "_law_one"] (C8.fnScope s_law_can_be) := C8.fnScope_by (by decide +kernel)
theorem c_law_can_be (T : Txt P w K mg base Z) : C8.Cal P w K mg base 3 "_law_can_be" sp_law_can_be [] :=
  calD (k := 2) T.d_law_can_be sc_law_can_be (fun _ _ _ _ _ _ us h => by obtain ⟨_, _, rfl⟩ := us2 (by exact h); rfl) (fun _ => rfl) (fun cdv f A outer s H0 H Q E a hr pre hq => by
    have S := sc_law_can_be
    obtain ⟨s, q, d, lk, hv, vs, ls, t, b⟩ := a
    obtain ⟨⟨hs, hl, hls⟩, hq0, t0, b1, b2, hb, d0, d1⟩ := pre
    have vl := paired_len hls
    refine ⟨_, (pss_cons (ps_for PassesOwn.never rfl (piL (K := K) rfl (pe_dget (hu_of hr) (pv 0) pe_str (fun _ _ => rfl))) (pgT (K := K) (n := 2) rfl (by rfl) (pgs_cons (pg_name (i := 2) S.nd rfl (Or.inl rfl)) (pgs_cons (pg_name (i := 3) S.nd rfl (Or.inl rfl)) pgs_nil))) (pss_cons (ps_asg (C8.pe_c (c_law_seen T) hr (by decide) rfl (pa_cons (pv 2) (pa_cons (pv 1) pa_nil))) (pgT (K := K) (n := 2) rfl (by rfl) (pgs_cons (pg_name (i := 4) S.nd rfl (Or.inl rfl)) (pgs_cons (pg_name (i := 5) S.nd rfl (Or.inl rfl)) pgs_nil))))
  (pss_one (ps_if (pt_cmpR op_gt (pe_callB call_abs (by rfl) T.n_abs (by decide +kernel) (pa_cons (pe_op op_sub (pv 4) (pe_op op_mul (pv 3) (pv 5))) pa_nil)) (pe_op op_mul (pe_dget (hu_of hr) (pv 0) pe_str (fun _ _ => rfl)) (pv 5)) (nomark _)) (pss_one (ps_ret pe_bl)) pss_nil))))
  (pss_one (ps_ret pe_bl))), ?_⟩
    walk_at "rd"
    walk_at "sh"
    refine ⟨_, rfl, ⟨_, sqL hl⟩, ?_⟩
    refine for_it (walk_list (xs := vs)) (fun i σ H' => Hold (Ex H H' ∧ ∃ o2 o3 o4 o5, σ = [some (.ref s), some (.ref q), o2, o3, o4, o5] ∧ LeftM d (ls.take i) (spotR t b))) (.of ⟨Ex.refl _, _, _, _, _, rfl, fun l hl => by simp at hl⟩) (fun i σ H' _ h => sqL (h.out.1 _ _ hl)) ?_ ?_
    · rintro i y σ H3 H4 hi hP ⟨rfl, hy⟩
      obtain ⟨e3, o2, o3, o4, o5, rfl, ok⟩ := hP.out
      clear hP
      obtain ⟨l, hlx⟩ : ∃ l, ls[i]? = some l := ⟨_, List.getElem?_eq_getElem (by omega)⟩
      obtain ⟨u, rfl, hu⟩ := paired_get hls hy hlx
      have lm := List.mem_of_getElem? hlx
      have hb1 := hb l lm
      have hu4 := e3 _ _ hu
      have hq4 := e3 _ _ hq0
      have hs4 := e3 _ _ hs
      walk_at "rd"
      refine ⟨(l.1, q, t, b), rfl, ⟨hb1.1, hb1.2, hq4, t0, b1, b2⟩, ?_⟩
      rintro v H5 ⟨p, rfl, np, e5, hp⟩
      have hs5 := e5 _ _ hs4
      obtain ⟨g, g0, e1, e2, B1, hg⟩ := red_dvd (t := fold2 l.1 t b) b1
      have Bb : redB (fold2 l.1 t b) b ≤ 100000 := by
        have := Int.mul_le_mul_of_nonneg_right (show 1 ≤ g by omega) (show 0 ≤ redB (fold2 l.1 t b) b by omega)
        omega
      have tst := seen_test (h := l.1) (t := t) (b := b) (r := l.2) (d := d) hb1.1 b1 t0
      obtain ⟨T1, hT⟩ : ∃ T1, redT (fold2 l.1 t b) b = T1 := ⟨_, rfl⟩
      obtain ⟨B, hB⟩ : ∃ B, redB (fold2 l.1 t b) b = B := ⟨_, rfl⟩
      rw [hT, hB] at hp tst
      rw [hB] at B1 Bb
      walk_at "rd"
      walk_at "sh"
      walk_at "rd"
      refine iteD (fun z => ?_) (fun z => ?_)
      · have nz := tst.mp z
        walk_at "rd"
        refine hq _ _ ⟨congrArg V.bl (tv_false fun h => nz (h l lm)).symm, e3.trans e5⟩
      · have nz := Classical.not_not.mp fun n => z (tst.mpr n)
        walk_at "rd"
        refine .of ⟨e3.trans e5, _, _, _, _, rfl, ?_⟩
        rw [take_more hlx]
        intro l' hl'
        rw [List.mem_append, List.mem_singleton] at hl'
        rcases hl' with h | rfl
        · exact ok l' h
        · exact nz
    · rintro σ H' hP
      obtain ⟨e3, o2, o3, o4, o5, rfl, ok⟩ := hP.out
      rw [vl, List.take_length] at ok
      walk_at "rd"
      exact hq _ _ ⟨congrArg V.bl (tv_true ok).symm, e3⟩)
end
end Ff
end
section
set_option maxRecDepth 100000
set_option maxHeartbeats 4000000
/-! What is left is right. -/
namespace Ff
open PySem PySem.Spec PyProof.Rows L2
local macro_rules | `(tactic| walk_at "ex") => `(tactic| first
  | exact Ex.refl _
  | with_reducible assumption
  | (refine Ex.new ?_ (by with_reducible assumption); walk_at "ex")
  | (refine Ex.mut ?_ (by walk_at "hn"); walk_at "ex")
  | (refine Ex.trans ?_ (by with_reducible assumption); walk_at "ex"))
local macro_rules | `(tactic| walk_at "hn") => `(tactic| first
  | with_reducible assumption
  | exact Ex.back (by with_reducible assumption) (by with_reducible assumption)
  | exact upd_none (by with_reducible assumption)
  | exact upd_none (upd_none (by with_reducible assumption))
  | exact Ex.back (by with_reducible assumption) (upd_none (by with_reducible assumption))
  | exact Ex.back (by with_reducible assumption) (Ex.back (by with_reducible assumption) (by with_reducible assumption)))
local macro_rules | `(tactic| walk_at "hp") => `(tactic| first
  | with_reducible assumption
  | with_reducible exact upd_same
  | (refine Ex.at (by with_reducible assumption) ?_; walk_at "ex")
  | (refine upd_old ?_ (by with_reducible assumption); walk_at "hp")
  | (refine upd_off ?_ (by with_reducible assumption); walk_at "hp"))
local macro_rules | `(tactic| walk_at "sd") => `(tactic| ((try dsimp only [CMul, CDiv, CPow]); first | exact True.intro | omega | (with_reducible assumption)))
local macro_rules | `(tactic| walk_at "sz") => `(tactic| exact Nat.le_of_ble_eq_true rfl)
local macro_rules | `(tactic| walk_at "is") => `(tactic| first
  | refine ⟨_, _, _, _, _, rfl, .ty _, .base (.int _), kt_int, ?_⟩
  | refine ⟨_, _, _, _, _, rfl, .ty _, .base (.int _), kt_intb, ?_⟩
  | refine ⟨_, _, _, _, _, rfl, .ty _, .base (.bl _), kt_bool, ?_⟩
  | refine ⟨_, _, _, _, _, rfl, .ty _, .base (.str _), kt_str, ?_⟩
  | refine ⟨_, _, _, _, _, rfl, .ty _, .base (.tup (by walk_at "hp")), kt_tup, ?_⟩
  | refine ⟨_, _, _, _, _, rfl, .ty _, .base (.dK (by walk_at "hp")), kt_dict, ?_⟩)
local macro_rules | `(tactic| walk_at "rd1") => `(tactic| first
  | refine ⟨_, rfl, ?_⟩
  | refine ⟨_, _, rfl, rfl, And.intro (by walk_at "sd") ?_⟩
  | refine ⟨_, _, rfl, rfl, ?_⟩
  | refine ⟨rfl, ?_⟩
  | refine ⟨_, _, _, _, rfl, rfl, sqT (by walk_at "hp"), rfl, ?_⟩
  | refine ⟨_, _, _, _, rfl, rfl, sqL (by walk_at "hp"), rfl, ?_⟩
  | refine ⟨_, _, rfl, sqT (by walk_at "hp"), rfl, ?_⟩
  | refine ⟨_, _, _, _, _, rfl, by walk_at "hp", by assumption, by assumption, rfl, ?_⟩
  | refine ⟨.inl ⟨rfl, _, sqL (by walk_at "hp")⟩, ?_⟩
  | refine ⟨_, _, rfl, .inl (sqL (by walk_at "hp")), ?_⟩
  | refine ⟨_, _, rfl, .inr (sqT (by walk_at "hp")), ?_⟩
  | refine ⟨(_, _), rfl, ?_⟩
  | refine ⟨(_, _, _), rfl, ?_⟩
  | refine ⟨(_, _, _, _), rfl, ?_⟩
  | refine ⟨_, _, rfl, ?_⟩
  | refine ⟨_, _, _, rfl, ?_⟩
  | walk_at "is")
local macro_rules | `(tactic| walk_at "rd") => `(tactic| repeat walk_at "rd1")

local macro_rules | `(tactic| walk_at "ib") => `(tactic| refine .inr ⟨_, rfl, ?_⟩)
local macro_rules | `(tactic| walk_at "ii") => `(tactic| refine .inl ⟨_, rfl, ?_⟩)
local macro_rules | `(tactic| walk_at "sh") => `(tactic| first
  | refine ⟨_, _, rfl, dg_doubt (by walk_at "hp"), ?_⟩
  | refine ⟨_, _, rfl, dg_looks (by walk_at "hp"), ?_⟩)
abbrev lkD (ls : List (Int × Int)) : PyData := .list (ls.map fun l => .tuple [.int l.1, .int l.2])
theorem dp_looks {K : PySem.W.Frag} {H : Hp} {a : Addr} {vs : List V} {ls : List (Int × Int)} (h : H a = some (.lst vs)) (hl : LooksAt H vs ls) : Dp K H (.ref a) (lkD ls) := by
  refine .lst (sqL h) ?_
  clear h
  induction hl with
  | nil => exact .nil
  | cons r t ih =>
    obtain ⟨p, rfl, hp⟩ := r
    exact .cons (.tup (sqT hp) (.cons (.int _) (.cons (.int _) .nil))) ih
theorem shaped_looks (ls : List (Int × Int)) : SeqAt.shaped (lkD ls) = true := by
  have h1 : ∀ ls : List (Int × Int), PyData.canLayAll0 (ls.map fun l => .tuple [.int l.1, .int l.2]) = true := by
    intro ls
    induction ls with
    | nil => simp [PyData.canLayAll0]
    | cons b bs ih => simp [PyData.canLayAll0, PyData.canLay0, ih]
  have h2 : ∀ ls : List (Int × Int), PyData.depthAll (ls.map fun l => .tuple [.int l.1, .int l.2]) ≤ 3 := by
    intro ls
    induction ls with
    | nil => simp [PyData.depthAll]
    | cons b bs ih => simp [PyData.depthAll, PyData.depth]; omega
  unfold SeqAt.shaped lkD
  simp [PyData.canLay0, h1, PyData.depth]
  have := h2 ls
  omega
theorem eqv_looks (ls : List (Int × Int)) : (!PyData.eqv (lkD ls) (.list [])) = decide (ls ≠ []) := by
  cases ls with
  | nil => simp [lkD, PyData.eqv, PyData.eqvAll]
  | cons a l => simp [lkD, PyData.eqv, PyData.eqvAll]
theorem looks_mem {H : Hp} {vs : List V} {ls : List (Int × Int)} (h : LooksAt H vs ls) {v : V} (hv : v ∈ vs) : ∃ l ∈ ls, ∃ p, v = .ref p ∧ H p = some (.tup [.int l.1, .int l.2]) := by
  obtain ⟨i, hi, e⟩ := List.getElem_of_mem hv
  have vl := paired_len h
  have hl : ls[i]? = some (ls[i]'(by omega)) := List.getElem?_eq_getElem (by omega)
  obtain ⟨p, a, b⟩ := paired_get h (show vs[i]? = some v by rw [List.getElem?_eq_getElem hi, e]) hl
  exact ⟨_, List.mem_of_getElem? hl, p, a, b⟩
section
variable {P : Program} {w : World} {K : PySem.W.Frag} {mg : PySem.Str → Option Value} {base : Heap} {Z : Adr}
def sp_law_left_right (Z : Adr) : Sp := mkSp (fun ((dr, _, x, s, _) : Addr × Lc × Addr × Addr × Int × Int × Addr × Addr × List V × List (Int × Int)) => [.ref dr, .ref x, .ref s])
  (fun (dr, l, x, s, p, d, lk, hv, vs, ls) H => DrawAt H dr l ∧ PatAt Z H x p (LeftM d ls) ∧ SheetAt H s d lk hv vs ls ∧ s ≠ dr ∧ lk ≠ l.1 ∧ (∀ l ∈ ls, 1 ≤ l.1 ∧ l.1 ≤ 1000 ∧ 0 ≤ l.2 ∧ l.2 ≤ l.1) ∧ lcmL (ls.map (·.1)) ≤ 240 ∧ ls.length ≤ 6 ∧ 0 ≤ d ∧ d ≤ 10)
  (fun (dr, l, _) H v H' => v = .bl true ∧ DrawAt H' dr l ∧ Exc dr l H H')
abbrev s_law_left_right : Stmt := top 107
theorem sc_law_left_right : FnScope ["_law_draw", "_law_shape", "_law_sheet", "_law_whole", "_law_lap", "_law_one", "_law_half_here", "_law_reading", "_law_top", "_law_look"] ["_law_draw", "_law_shape", "_law_sheet"] (C8.fnScope s_law_left_right) := C8.fnScope_by (by decide +kernel)
theorem c_law_left_right (T : Txt P w K mg base Z) : C8.Cal P w K mg base 6 "_law_left_right" (sp_law_left_right Z) [] :=
  calD (k := 5) T.d_law_left_right sc_law_left_right (fun _ _ _ _ _ _ us h => by obtain ⟨_, _, _, rfl⟩ := us3 (by exact h); rfl) (fun _ => rfl) (fun cdv f A outer s H0 H Q E a hr pre hq => by
    have S := sc_law_left_right
    obtain ⟨dr, l, x, s, p, d, lk, hv, vs, ls⟩ := a
    obtain ⟨hd, hx, hs, ns, nl, hb, hl, ln, d0, d1⟩ := pre
    have vl := paired_len hs.ls
    have b1 : ∀ n ∈ ls.map (·.1), 1 ≤ n ∧ n ≤ 10000 := fun n hn => by
      obtain ⟨l, hl, rfl⟩ := List.mem_map.mp hn
      have := hb l hl
      omega
    have L1 := lcmL_ge (l := ls.map (·.1)) fun n hn => (b1 n hn).1
    have hs0 := hs.at_
    have hlk := hs.lk
    refine ⟨_, (pss_cons (ps_set (i := 3) S.nd rfl (Or.inl rfl) (C8.pe_c (c_law_lcm T) hr (by decide) rfl (pa_cons (pe_lc (own := [("_law_look", 9)]) rfl S.nd (piL (K := K) rfl (pe_dget (hu_of hr) (pv 2) pe_str (fun _ _ => rfl))) (blkOk_by (by kernel_rfl)) (fun _ _ _ _ _ => (pg_name (i := 9) S.nd rfl (by first | exact Or.inl rfl | exact Or.inr rfl))) (fun _ _ _ _ _ => pts_nil) (fun _ _ _ _ _ => (pe_ix (ixT (K := K) rfl) (pv 9) pe_int (fun _ _ => rfl)))) pa_nil)))
  (pss_cons (ps_for PassesOwn.never rfl (pi_range1 (by rfl) T.n_range (pa_cons pe_int pa_nil)) (pg_name (i := 4) S.nd rfl (Or.inl rfl)) (pss_cons (ps_set (i := 5) S.nd rfl (Or.inl rfl) (C8.pe_c (c_law_speed T) hr (by decide) rfl (pa_cons (pv 0) (pa_cons (pe_op op_mul pe_int (pv 3)) pa_nil))))
  (C8.pss_cut (ps_if (PW.pt (pw_and (pt_cmpR (neD (K := K) rfl hr.units) (pe_dget (hu_of hr) (pv 2) pe_str (fun _ _ => rfl)) (pe_lst pa_nil) (nomark _)) (pw_and1 (pt_cmpR op_eq (C8.pe_c (c_law_take T) hr (by decide) rfl (pa_cons (pv 0) (pa_cons pe_int pa_nil))) pe_int (nomark _))))) (pss_cons (ps_asg (C8.pe_c (c_law_pick T) hr (by decide) rfl (pa_cons (pv 0) (pa_cons (pe_dget (hu_of hr) (pv 2) pe_str (fun _ _ => rfl)) pa_nil))) (pgT (K := K) (n := 2) rfl (by rfl) (pgs_cons (pg_name (i := 6) S.nd rfl (Or.inl rfl)) (pgs_cons (pg_name (i := 7) S.nd rfl (Or.inl rfl)) pgs_nil))))
  (pss_cons (ps_set (i := 8) S.nd rfl (Or.inl rfl) (pe_op op_add (pe_op op_add (pe_op op_mul (pe_op op_mul pe_int (pv 6)) (C8.pe_c (c_law_take T) hr (by decide) rfl (pa_cons (pv 0) (pa_cons pe_int pa_nil)))) (pv 7)) (pe_op op_mul (C8.pe_c (c_law_pick T) hr (by decide) rfl (pa_cons (pv 0) (pa_cons (pe_lst (pa_cons pe_int (pa_cons (pe_un un_neg pe_int) pa_nil))) pa_nil))) (pe_dget (hu_of hr) (pv 2) pe_str (fun _ _ => rfl)))))
  (pss_one (ps_set (i := 5) S.nd rfl (Or.inl rfl) (C8.pe_c (c_law_fraction T) hr (by decide) rfl (pa_cons (pe_callB call_abs (by rfl) T.n_abs (by decide +kernel) (pa_cons (pe_op op_add (pe_op op_mul pe_int (pv 8)) (C8.pe_c (c_law_pick T) hr (by decide) rfl (pa_cons (pv 0) (pa_cons (pe_lst (pa_cons pe_int (pa_cons pe_int (pa_cons pe_int (pa_cons (pe_un un_neg pe_int) pa_nil))))) pa_nil)))) pa_nil)) (pa_cons pe_int pa_nil))))))) pss_nil)
  (pss_one (ps_if (pt_cmpR op_ne (pe_cmpR (op_inOwn (c_Pattern_contains T) (hr.mono (by decide))) (pv 5) (pv 1) (by rfl)) (C8.pe_c (c_law_can_be T) hr (by decide) rfl (pa_cons (pv 2) (pa_cons (pv 5) pa_nil))) (nomark _)) (pss_one (ps_ret pe_bl)) pss_nil)))))
  (pss_one (ps_ret pe_bl)))), ?_⟩
    walk_at "rd"
    walk_at "sh"
    refine ⟨_, rfl, ⟨_, sqL hlk⟩, fun D nD => ?_⟩
    refine lcE (walk_list (xs := vs)) nD (by omega) (fun _ => true) (fun i y _ => ∃ l, ls[i]? = some l ∧ y = .int l.1) (fun _ r => r) (fun _ r => r) (fun H e => sqL (e _ _ hlk)) ?_ ?_
    · rintro i y H4 H5 hi e4 ⟨rfl, hy⟩ S Z hS hZ
      obtain ⟨l, hx⟩ : ∃ l, ls[i]? = some l := ⟨_, List.getElem?_eq_getElem (by omega)⟩
      obtain ⟨u, rfl, hu⟩ := paired_get hs.ls hy hx
      have hu4 := e4 _ _ hu
      walk_at "rd"
      exact hS _ _ (Ex.refl _) rfl ⟨l, hx, rfl⟩
    intro H1 ys e1 hD got
    unfold Got at got
    rw [range_all, vl] at got
    have hz := got_list (H := H1) got
    subst hz
    walk_at "rd"
    refine ⟨(D, ls.map (·.1)), rfl, ⟨by rw [hD, List.map_map]; rfl, b1⟩, ?_⟩
    obtain ⟨L, hL⟩ : ∃ L, lcmL (ls.map (·.1)) = L := ⟨_, rfl⟩
    rw [hL] at L1 hl
    rintro v H' ⟨rv, rfl⟩
    rw [hL] at rv
    subst rv
    walk_at "rd"
    refine ⟨by omega, by omega, ?_⟩
    refine for_it walk_range (fun i σ H' => Hold (∃ o4 o5 o6 o7 o8, σ = [some (.ref dr), some (.ref x), some (.ref s), some (.int L), o4, o5, o6, o7, o8, none] ∧ Exc dr l H H' ∧ DrawAt H' dr l ∧ PatAt Z H' x p (LeftM d ls) ∧ SheetAt H' s d lk hv vs ls))
      (.of ⟨_, _, _, _, _, rfl, e1.exc, hd.ex e1, hx.ex e1, hs.ex e1⟩) (fun _ _ _ _ _ => trivial) ?_ ?_
    · rintro i y σ H3 H4 hi hP ⟨rfl, rfl⟩
      obtain ⟨o4, o5, o6, o7, o8, rfl, e3, hd3, hx3, hs3⟩ := hP.out
      clear hP
      walk_at "rd"
      refine ⟨(dr, l, 2 * L), rfl, ⟨hd3, by omega, by omega⟩, ?_⟩
      rintro v H5 ⟨q, t, b, rfl, nq, hq5, t0, tb, b0, b2, gc, hd5, e5⟩
      have hx5 := hx3.exn (e5.exn hd3)
      have hs5 := hs3.exc e5 hd3 ns nl
      have e05 := e3.trans e5
      refine ⟨fun σ2 H2 => Hold (∃ o4 o6 o7 o8 q t b, σ2 = [some (.ref dr), some (.ref x), some (.ref s), some (.int L), o4, some (.ref q), o6, o7, o8, none] ∧ Exc dr l H H2 ∧ DrawAt H2 dr l ∧ PatAt Z H2 x p (LeftM d ls) ∧ SheetAt H2 s d lk hv vs ls ∧
        H2 q = some (.tup [.int t, .int b]) ∧ 0 ≤ t ∧ 1 ≤ b ∧ b ≤ 1000 ∧ Int.gcd t b = 1), ?_, ?_⟩
      · have hs50 := hs5.at_
        walk_at "rd"
        walk_at "sh"
        refine ⟨by walk_at "sz", fun a na => ?_⟩
        have hs6 := hs5.ex ((Ex.refl H5).new (o := .lst []) na)
        refine ⟨_, .list [], dp_looks hs6.lk hs6.ls, .lst (sqL upd_same) .nil, shaped_looks ls, by decide +kernel, ?_⟩
        rw [eqv_looks]
        have hd6 := hd5.new (o := .lst []) na
        have hx6 := hx5.ex ((Ex.refl H5).new (o := .lst []) na)
        have hq6 := upd_old (o' := .lst []) hq5 na
        have e06 := e05.new (o := .lst []) na
        obtain ⟨H6, hH6⟩ : ∃ H6, upd H5 a (.lst []) = H6 := ⟨_, rfl⟩
        rw [hH6] at hs6 hd6 hx6 hq6 e06 ⊢
        walk_at "rd"
        refine iteD (fun ne => ?_) (fun _ => ?_)
        · walk_at "rd"
          refine ⟨(dr, l, 2), rfl, ⟨hd6, by omega, by omega⟩, ?_⟩
          rintro v H7 ⟨k, rfl, _, _, hd7, e7⟩
          have hx7 := hx6.exn (e7.exn hd6)
          have hs7 := hs6.exc e7 hd6 ns nl
          have hq7 := (e7.exn hd6).tup hq6
          have e07 := e06.trans e7
          walk_at "rd"
          refine iteD (fun _ => ?_) (fun _ => ?_)
          · have hs70 := hs7.at_
            walk_at "rd"
            walk_at "sh"
            refine ⟨(dr, l, .ref lk, vs), rfl, ⟨hd7, fun z => ne (List.eq_nil_of_length_eq_zero (by rw [← vl, z]; rfl)), by omega, .inl ⟨lk, rfl, nl, .inl hs7.lk⟩⟩, ?_⟩
            rintro v H8 ⟨hv8, hd8, e8⟩
            obtain ⟨lo, hlo, u, rfl, hu7⟩ := looks_mem hs7.ls hv8
            have hx8 := hx7.exn (e8.exn hd7)
            have hs8 := hs7.exc e8 hd7 ns nl
            have hu8 := (e8.exn hd7).tup hu7
            have e08 := e07.trans e8
            have rg := hb lo hlo
            walk_at "rd"
            refine ⟨(dr, l, 9), rfl, ⟨hd8, by omega, by omega⟩, ?_⟩
            rintro v H9 ⟨k9, rfl, k90, k91, hd9, e9⟩
            have hx9 := hx8.exn (e9.exn hd8)
            have hs9 := hs8.exc e9 hd8 ns nl
            have e09 := e08.trans e9
            walk_at "rd"
            refine ⟨by walk_at "sz", fun a1 na1 => ?_⟩
            refine ⟨(dr, l, .ref a1, [.int 1, .int (-1)]), rfl, ⟨hd9.new na1, by simp, by simp, .inl ⟨a1, rfl, (hd9.off na1).2.1, .inl upd_same⟩⟩, ?_⟩
            rintro v H10 ⟨hv10, hd10, e10⟩
            obtain ⟨c, rfl, c0, c1⟩ : ∃ c, v = .int c ∧ -1 ≤ c ∧ c ≤ 1 := by
              simp at hv10
              rcases hv10 with rfl | rfl <;> exact ⟨_, rfl, by omega, by omega⟩
            have ea := (Ex.refl H9).new (o := .lst [.int 1, .int (-1)]) na1
            have hx10 := (hx9.ex ea).exn (e10.exn (hd9.new na1))
            have hs10 := (hs9.ex ea).exc e10 (hd9.new na1) ns nl
            have e010 := (e09.new (o := .lst [.int 1, .int (-1)]) na1).trans e10
            have hs100 := hs10.at_
            walk_at "rd"
            walk_at "sh"
            walk_at "rd"
            refine ⟨by walk_at "sz", fun a2 na2 => ?_⟩
            refine ⟨(dr, l, .ref a2, [.int 0, .int 0, .int 1, .int (-1)]), rfl, ⟨hd10.new na2, by simp, by simp, .inl ⟨a2, rfl, (hd10.off na2).2.1, .inl upd_same⟩⟩, ?_⟩
            rintro v H11 ⟨hv11, hd11, e11⟩
            obtain ⟨c2, rfl⟩ : ∃ c, v = .int c := by
              simp at hv11
              rcases hv11 with rfl | rfl | rfl <;> exact ⟨_, rfl⟩
            have ea2 := (Ex.refl H10).new (o := .lst [.int 0, .int 0, .int 1, .int (-1)]) na2
            have hx11 := (hx10.ex ea2).exn (e11.exn (hd10.new na2))
            have hs11 := (hs10.ex ea2).exc e11 (hd10.new na2) ns nl
            have e011 := (e010.new (o := .lst [.int 0, .int 0, .int 1, .int (-1)]) na2).trans e11
            walk_at "rd"
            refine ⟨⟨by split <;> omega, by omega, by omega⟩, ?_⟩
            rintro v H12 ⟨q2, rfl, nq2, e12, hq12⟩
            walk_at "rd"
            obtain ⟨tt, htt⟩ : ∃ tt : Int, (if 2 * (2 * lo.1 * k9 + lo.2 + c * d) + c2 < 0 then -(2 * (2 * lo.1 * k9 + lo.2 + c * d) + c2) else 2 * (2 * lo.1 * k9 + lo.2 + c * d) + c2) = tt := ⟨_, rfl⟩
            have tt0 : 0 ≤ tt := by rw [← htt]; split <;> omega
            rw [htt] at hq12
            obtain ⟨g, g0, f1, f2, B1, hg⟩ := red_dvd (t := tt) (b := 2) (by omega)
            refine .of ⟨_, _, _, _, q2, redT tt 2, redB tt 2, rfl, e011.trans e12.exc, hd11.ex e12, hx11.ex e12, hs11.ex e12, hq12, ?_, B1, ?_, ?_⟩
            · rcases Int.lt_or_le (redT tt 2) 0 with z | z
              · have := Int.mul_neg_of_pos_of_neg g0 z
                omega
              · exact z
            · have := Int.mul_le_mul_of_nonneg_right (show 1 ≤ g by omega) (show 0 ≤ redB tt 2 by omega)
              omega
            · unfold redT redB
              exact Int.gcd_ediv_gcd_ediv_gcd (by omega)
          · walk_at "rd"
            exact .of ⟨_, _, _, _, q, t, b, rfl, e07, hd7, hx7, hs7, hq7, t0, b0, b2, gc⟩
        · walk_at "rd"
          exact .of ⟨_, _, _, _, q, t, b, rfl, e06, hd6, hx6, hs6, hq6, t0, b0, b2, gc⟩
      · rintro σ2 H2 hold
        obtain ⟨o4, o6, o7, o8, q, t, b, rfl, e2, hd2, hx2, hs2, hq2, t0, b0, b2, gc⟩ := hold.out
        obtain ⟨_, dd, fs, ii⟩ := hx2.form
        walk_at "rd"
        refine ⟨_, _, _, rfl, ii, (x, q, t, b, p, LeftM d ls), rfl, ⟨hx2, hq2, t0, b0, gc, by omega⟩, ?_⟩
        rintro v H7 ⟨rfl, e7⟩
        refine ⟨_, rfl, ?_⟩
        walk_at "rd"
        refine ⟨(s, q, d, lk, hv, vs, ls, t, b), rfl, ⟨hs2.ex e7, e7 _ _ hq2, t0, b0, by omega, fun l h => ⟨(hb l h).1, (hb l h).2.1⟩, d0, by omega⟩, ?_⟩
        rintro v H8 ⟨rfl, e8⟩
        walk_at "rd"
        refine ite0 (by simp) ?_
        walk_at "rd"
        have e28 := e7.trans e8
        exact .of ⟨_, _, _, _, _, rfl, e2.trans e28.exc, hd2.ex e28, hx2.ex e28, hs2.ex e28⟩
    · rintro σ H3 hP
      obtain ⟨o4, o5, o6, o7, o8, rfl, e3, hd3, hx3, hs3⟩ := hP.out
      walk_at "rd"
      exact hq _ _ ⟨rfl, hd3, e3⟩)
end
end Ff
end
section
set_option maxRecDepth 100000
set_option maxHeartbeats 4000000
/-! The watch is right. -/
namespace Ff
open PySem PySem.Spec PyProof.Rows L2
local macro_rules | `(tactic| walk_at "ex") => `(tactic| first
  | exact Ex.refl _
  | with_reducible assumption
  | (refine Ex.new ?_ (by with_reducible assumption); walk_at "ex")
  | (refine Ex.mut ?_ (by walk_at "hn"); walk_at "ex")
  | (refine Ex.trans ?_ (by with_reducible assumption); walk_at "ex"))
local macro_rules | `(tactic| walk_at "hn") => `(tactic| first
  | with_reducible assumption
  | exact Ex.back (by with_reducible assumption) (by with_reducible assumption)
  | exact upd_none (by with_reducible assumption)
  | exact upd_none (upd_none (by with_reducible assumption))
  | exact Ex.back (by with_reducible assumption) (upd_none (by with_reducible assumption))
  | exact Ex.back (by with_reducible assumption) (Ex.back (by with_reducible assumption) (by with_reducible assumption)))
local macro_rules | `(tactic| walk_at "hp") => `(tactic| first
  | with_reducible assumption
  | with_reducible exact upd_same
  | (refine Ex.at (by with_reducible assumption) ?_; walk_at "ex")
  | (refine upd_old ?_ (by with_reducible assumption); walk_at "hp")
  | (refine upd_off ?_ (by with_reducible assumption); walk_at "hp"))
local macro_rules | `(tactic| walk_at "sd") => `(tactic| ((try dsimp only [CMul, CDiv, CPow]); first | exact True.intro | omega | (with_reducible assumption)))
local macro_rules | `(tactic| walk_at "sz") => `(tactic| exact Nat.le_of_ble_eq_true rfl)
local macro_rules | `(tactic| walk_at "is") => `(tactic| first
  | refine ⟨_, _, _, _, _, rfl, .ty _, .base (.int _), kt_int, ?_⟩
  | refine ⟨_, _, _, _, _, rfl, .ty _, .base (.int _), kt_intb, ?_⟩
  | refine ⟨_, _, _, _, _, rfl, .ty _, .base (.bl _), kt_bool, ?_⟩
  | refine ⟨_, _, _, _, _, rfl, .ty _, .base (.str _), kt_str, ?_⟩
  | refine ⟨_, _, _, _, _, rfl, .ty _, .base (.tup (by walk_at "hp")), kt_tup, ?_⟩
  | refine ⟨_, _, _, _, _, rfl, .ty _, .base (.dK (by walk_at "hp")), kt_dict, ?_⟩)
local macro_rules | `(tactic| walk_at "rd1") => `(tactic| first
  | refine ⟨_, rfl, ?_⟩
  | refine ⟨_, _, rfl, rfl, And.intro (by walk_at "sd") ?_⟩
  | refine ⟨_, _, rfl, rfl, ?_⟩
  | refine ⟨rfl, ?_⟩
  | refine ⟨_, _, _, _, rfl, rfl, sqT (by walk_at "hp"), rfl, ?_⟩
  | refine ⟨_, _, _, _, rfl, rfl, sqL (by walk_at "hp"), rfl, ?_⟩
  | refine ⟨_, _, rfl, sqT (by walk_at "hp"), rfl, ?_⟩
  | refine ⟨_, _, _, _, _, rfl, by walk_at "hp", by assumption, by assumption, rfl, ?_⟩
  | refine ⟨.inl ⟨rfl, _, sqL (by walk_at "hp")⟩, ?_⟩
  | refine ⟨_, _, rfl, .inl (sqL (by walk_at "hp")), ?_⟩
  | refine ⟨_, _, rfl, .inr (sqT (by walk_at "hp")), ?_⟩
  | refine ⟨(_, _), rfl, ?_⟩
  | refine ⟨(_, _, _), rfl, ?_⟩
  | refine ⟨(_, _, _, _), rfl, ?_⟩
  | refine ⟨_, _, rfl, ?_⟩
  | refine ⟨_, _, _, rfl, ?_⟩
  | walk_at "is")
local macro_rules | `(tactic| walk_at "rd") => `(tactic| repeat walk_at "rd1")

local macro_rules | `(tactic| walk_at "ib") => `(tactic| refine .inr ⟨_, rfl, ?_⟩)
local macro_rules | `(tactic| walk_at "ii") => `(tactic| refine .inl ⟨_, rfl, ?_⟩)
local macro_rules | `(tactic| walk_at "rq1") => `(tactic| first
  | refine ⟨_, rfl, ?_⟩
  | refine ⟨_, _, rfl, rfl, And.intro (by walk_at "sd") ?_⟩
  | refine ⟨_, _, rfl, rfl, ?_⟩
  | refine ⟨rfl, ?_⟩)
local macro_rules | `(tactic| walk_at "rq") => `(tactic| repeat walk_at "rq1")
local macro_rules | `(tactic| walk_at "sh") => `(tactic| first
  | refine ⟨_, _, rfl, dg_doubt (by walk_at "hp"), ?_⟩
  | refine ⟨_, _, rfl, dg_looks (by walk_at "hp"), ?_⟩)
theorem eqv_nil' (l : List Int) : PyData.eqv (.list (l.map .int)) (.list []) = decide (l = []) := by
  cases l with
  | nil => simp [PyData.eqv, PyData.eqvAll]
  | cons a l => simp [PyData.eqv, PyData.eqvAll]
theorem Exc.off {dr z : Addr} {l : Lc} {H H1 H2 : Hp} (e : Exc dr l H H1) (off : ∀ a o, a ≠ z → H1 a = some o → H2 a = some o) (nz : H z = none) (hz : H2 z ≠ none) : Exc dr l H H2 := by
  refine ⟨fun a o h1 h2 h => off a o (ne_of_none h nz) (e.1 a o h1 h2 h), fun a h => ?_⟩
  by_cases q : a = z
  · subst q; exact absurd h hz
  · refine e.2 a ?_
    cases k : H1 a with
    | none => rfl
    | some o => rw [off a o q k] at h; cases h
theorem rg_get {a b : Int} {i : Nat} {y : V} (h : (rgV a b)[i]? = some y) : y = .int (a + (i : Nat)) ∧ a + (i : Nat) < b := by
  unfold rgV at h
  obtain ⟨j, hj, rfl⟩ := map_get h
  have hl := (List.getElem?_eq_some_iff.mp hj).1
  rw [List.length_range] at hl
  rw [range_get hl] at hj
  cases hj
  exact ⟨rfl, by omega⟩
theorem rg_len {a b : Int} : (rgV a b).length = (b - a).toNat := by unfold rgV; rw [List.length_map, List.length_range]
section
variable {P : Program} {w : World} {K : PySem.W.Frag} {mg : PySem.Str → Option Value} {base : Heap} {Z : Adr}
def sp_law_watch_right : Sp := mkSp (fun ((dr, _, hv, _) : Addr × Lc × Addr × List Int) => [.ref dr, .ref hv])
  (fun (dr, l, hv, ns) H => DrawAt H dr l ∧ H hv = some (.lst (ns.map .int)) ∧ hv ≠ l.1 ∧ ns ≠ [] ∧ ns.length ≤ 4 ∧ HvOk 240 ns)
  (fun (dr, l, _) H v H' => v = .bl true ∧ DrawAt H' dr l ∧ Exc dr l H H')
abbrev s_law_watch_right : Stmt := top 108
theorem sc_law_watch_right : FnScope ["_law_draw", "_law_halves_here", "_law_sheet", "_law_hidden", "_law_bench", "_law_lap", "_law_half_here", "_law_top", "_law_bottom", "_law_wide", "_law_high", "_law_some", "_law_look", "_law_reading"] ["_law_draw", "_law_halves_here"] (C8.fnScope s_law_watch_right) := C8.fnScope_by (by decide +kernel)
theorem c_law_watch_right (T : Txt P w K mg base Z) : C8.Cal P w K mg base 13 "_law_watch_right" sp_law_watch_right [] :=
  calD (k := 12) T.d_law_watch_right sc_law_watch_right (fun _ _ _ _ _ _ us h => by obtain ⟨_, _, rfl⟩ := us2 (by exact h); rfl) (fun _ => rfl) (fun cdv f A outer s H0 H Q E a hr pre hq => by
    have S := sc_law_watch_right
    obtain ⟨dr, l, hv, ns⟩ := a
    obtain ⟨hd, hhv, hvl, nn, nlen, ⟨nrg, nlcm⟩⟩ := pre
    have hvd : hv ≠ dr := by
      obtain ⟨r, t, m, ns, cs, W⟩ := id hd
      exact ne_of hhv W.hd dr_ne
    refine ⟨_, (pss_cons (ps_set (i := 2) S.nd rfl (Or.inl rfl) (pe_disp (pps_cons pe_str (C8.pe_c (c_law_take T) hr (by decide) rfl (pa_cons (pv 0) (pa_cons pe_int pa_nil))) (pps_cons pe_str (pe_lst pa_nil) (pps_cons pe_str (pv 1) pps_nil))) (by rfl) (by rfl) (fun z => by cases z) (by decide)))
  (pss_cons (ps_par (i := 3) (j := 4) rfl S.nd rfl rfl (by decide) rfl rfl (pa_cons (C8.pe_c (c_law_speed T) hr (by decide) rfl (pa_cons (pv 0) (pa_cons pe_int pa_nil))) (pa_cons (C8.pe_mk (k_Watch T) hr (by decide) rfl (pa_cons (pe_dget (hu_of hr) (pv 2) pe_str (fun _ _ => rfl)) pa_nil)) pa_nil)) (by rfl))
  (pss_cons (ps_for PassesOwn.never rfl (pi_range1 (by rfl) T.n_range (pa_cons (pe_op op_add pe_int (C8.pe_c (c_law_take T) hr (by decide) rfl (pa_cons (pv 0) (pa_cons pe_int pa_nil)))) pa_nil)) (pg_name (i := 5) S.nd rfl (Or.inl rfl)) (pss_cons (ps_set (i := 6) S.nd rfl (Or.inl rfl) (C8.pe_c (c_law_pick T) hr (by decide) rfl (pa_cons (pv 0) (pa_cons (pv 1) pa_nil))))
  (pss_cons (ps_asg (C8.pe_c (c_law_seen T) hr (by decide) rfl (pa_cons (pv 6) (pa_cons (pv 3) pa_nil))) (pgT (K := K) (n := 2) rfl (by rfl) (pgs_cons (pg_name (i := 7) S.nd rfl (Or.inr rfl)) (pgs_cons (pg_name (i := 8) S.nd rfl (Or.inr rfl)) pgs_nil))))
  (pss_cons (ps_set (i := 9) S.nd rfl (Or.inr rfl) (pe_op op_mul (pe_dget (hu_of hr) (pv 2) pe_str (fun _ _ => rfl)) (pv 8)))
  (pss_cons (ps_set (i := 10) S.nd rfl (Or.inl rfl) (pe_op op_fdiv (pe_op op_add (pv 9) (pv 7)) (pv 8)))
  (pss_cons (ps_set (i := 11) S.nd rfl (Or.inl rfl) (pe_listRg rfl (by rfl) T.n_list (prg_2 (by rfl) T.n_range (pe_callB (call_max2 rfl) (by rfl) T.n_max (by decide +kernel) (pa_cons pe_int (pa_cons (pe_op op_sub (pe_op op_sub (pv 10) (pe_op op_mul pe_int (pe_dget (hu_of hr) (pv 2) pe_str (fun _ _ => rfl)))) pe_int) pa_nil))) (pe_op op_add (pe_callB (call_min2 rfl) (by rfl) T.n_min (by decide +kernel) (pa_cons (pv 6) (pa_cons (pv 10) pa_nil))) pe_int))))
  (pss_cons (ps_setLc (i := 11) (own := [("_law_reading", 13)]) rfl S.nd rfl rfl (sw_true rfl rfl rfl (by decide +kernel)) (piL (K := K) rfl (pv 11)) (blkOk_by (by kernel_rfl)) (fun _ _ _ _ _ => (pg_name (i := 13) S.nd rfl (by first | exact Or.inl rfl | exact Or.inr rfl))) (fun _ _ _ _ _ => (pts_one (pt_cmpR op_le (pe_callB call_abs (by rfl) T.n_abs (by decide +kernel) (pa_cons (pe_op op_sub (pe_op op_mul (pv 13) (pv 8)) (pv 7)) pa_nil)) (pv 9) (nomark _)))) (fun _ _ _ _ _ => (pv 13)))
  (pss_cons (ps_if (pt_cmpR (eqD (K := K) rfl hr.units) (pv 11) (pe_lst pa_nil) (nomark _)) (pss_one ps_continue) pss_nil)
  (pss_cons (ps_set (i := 12) S.nd rfl (Or.inl rfl) (pe_tup (pa_cons (pv 6) (pa_cons (C8.pe_c (c_law_pick T) hr (by decide) rfl (pa_cons (pv 0) (pa_cons (pv 11) pa_nil))) pa_nil))))
  (pss_cons (ps_aug (i := 4) S.nd rfl (Or.inl rfl) (pv 12) (ip_own (c_Watch_iadd T) rfl T.sf_Watch (hr.mono (by decide))))
  (pss_cons (ps_expr (pe_bm PySem.F.plainAttrs_list PySem.F.slot_list_append PySem.F.type_list_append mt_append (pe_dget (hu_of hr) (pv 2) pe_str (fun _ _ => rfl)) (pa_cons (pv 12) pa_nil)))
  (pss_one (ps_if (PW.pt (pw_or (pt_cmpR (op_niOwn (c_Watch_contains T) (hr.mono (by decide))) (pv 3) (pv 4) (by rfl)) (pw_or1 (pt_not (pt_val (C8.pe_c (c_law_left_right T) hr (by decide) rfl (pa_cons (pv 0) (pa_cons (pe_pr (c_Watch_left T) hr (by decide) (pv 4)) (pa_cons (pv 2) pa_nil))))))))) (pss_one (ps_ret pe_bl)) pss_nil)))))))))))))
  (pss_one (ps_ret pe_bl))))), ?_⟩
    walk_at "rd"
    refine fun s ns0 => ?_
    have so := hd.off ns0
    walk_at "rd"
    refine ⟨(dr, l, 4), rfl, ⟨hd.new ns0, by omega, by omega⟩, ?_⟩
    rintro v H1 ⟨d, rfl, d0, d1, hd1, e1⟩
    have hs1 := e1.1 _ _ so.1 so.2.1 (upd_same (H := H) (o := .dK []))
    walk_at "rd"
    refine ⟨by walk_at "sz", fun lk nlk => ?_⟩
    have lko := hd1.off nlk
    have slk : s ≠ lk := ne_of_none hs1 nlk
    walk_at "rd"
    refine ⟨upd_old hs1 nlk, [(.inr "doubt", .int d), (.inr "looks", .ref lk), (.inr "halves", .ref hv)], rfl, by walk_at "sz", ?_⟩
    have hd2 := (hd1.new (o := .lst []) nlk).upd (o := shK d lk hv) so
    have e2 : Exc dr l H (upd (upd H1 lk (.lst [])) s (shK d lk hv)) := ((((Exc.refl H).new ns0).trans e1).new nlk).mut ns0
    have hs2 : SheetAt (upd (upd H1 lk (.lst [])) s (shK d lk hv)) s d lk hv [] [] := ⟨upd_same, upd_off upd_same slk.symm, .nil⟩
    have nlk0 : H lk = none := ((Exc.refl H).new ns0 |>.trans e1).2 _ nlk
    walk_at "rd"
    refine ⟨(dr, l, 500), rfl, ⟨hd2, by omega, by omega⟩, ?_⟩
    rintro v H3 ⟨q, t, b, rfl, nq, hq3, t0, tb, b0, b1, gc, hd3, e3⟩
    have hs3 := hs2.exc e3 hd2 so.1 lko.2.1
    have e03 := e2.trans e3
    have hs30 := hs3.at_
    walk_at "rd"
    walk_at "sh"
    refine fun z dz nz ndz dne => ?_
    refine ⟨(_, z, dz, d), rfl, ⟨nz, ndz, dne, rfl, d0, by omega⟩, ?_⟩
    rintro v H4 ⟨rfl, e4, hw4⟩
    refine ⟨rfl, ?_⟩
    have hs4 := hs3.ex e4
    have hd4 := hd3.ex e4
    have hq4 := e4 _ _ hq3
    have e04 := e03.trans e4.exc
    have nz0 : H z = none := e03.2 _ nz
    walk_at "rd"
    refine ⟨(dr, l, 6), rfl, ⟨hd4, by omega, by omega⟩, ?_⟩
    rintro v H5 ⟨m, rfl, m0, m1, hd5, e5⟩
    have hs5 := hs4.exc e5 hd4 so.1 lko.2.1
    have hw5 := hw4.exn (e5.exn hd4)
    have hq5 := (e5.exn hd4).tup hq4
    have e05 := e04.trans e5
    walk_at "rd"
    refine ⟨by omega, by omega, ?_⟩
    refine for_it walk_range (fun i σ H' => Hold (∃ (vs : List V) (ls : List (Int × Int)) (o5 o6 o7 o8 o9 o10 o11 o12 : Option V), σ = [some (.ref dr), some (.ref hv), some (.ref s), some (.ref q), some (.ref z), o5, o6, o7, o8, o9, o10, o11, o12, none] ∧ Exc dr l H H' ∧ DrawAt H' dr l ∧ SheetAt H' s d lk hv vs ls ∧ WatAt Z H' z d ls ∧
        H' q = some (.tup [.int t, .int b]) ∧ ls.length ≤ i ∧ (∀ l ∈ ls, l.1 ∈ ns ∧ 0 ≤ l.2 ∧ l.2 ≤ l.1) ∧ LeftM d ls (spotR t b)))
      (.of ⟨[], [], _, _, _, _, _, _, _, _, rfl, e05, hd5, hs5, hw5, hq5, by simp, fun l h => by simp at h, fun l h => by simp at h⟩) (fun _ _ _ _ _ => trivial) ?_ ?_
    · rintro i y σ H6 H7 hi hP ⟨rfl, rfl⟩
      obtain ⟨vs, ls, o5, o6, o7, o8, o9, o10, o11, o12, rfl, e6, hd6, hs6, hw6, hq6, lsl, lsr, lm⟩ := hP.out
      clear hP
      have i6 : i < 6 := by omega
      have hhv6 := e6.1 _ _ hvd hvl hhv
      walk_at "rd"
      refine ⟨(dr, l, .ref hv, ns.map .int), rfl, ⟨hd6, by simpa using nn, by rw [List.length_map]; omega, .inl ⟨hv, rfl, hvl, .inl hhv6⟩⟩, ?_⟩
      rintro v H8 ⟨hm8, hd8, e8⟩
      obtain ⟨h, hh, rfl⟩ := List.mem_map.mp hm8
      have hr := nrg h hh
      have hs8 := hs6.exc e8 hd6 so.1 lko.2.1
      have hw8 := hw6.exn (e8.exn hd6)
      have hq8 := (e8.exn hd6).tup hq6
      have e08 := e6.trans e8
      walk_at "rd"
      refine ⟨(h, q, t, b), rfl, ⟨hr.1, hr.2, hq8, t0, b0, by omega⟩, ?_⟩
      rintro v H9 ⟨p, rfl, np, e9, hp⟩
      have hs9 := hs8.ex e9
      have hw9 := hw8.ex e9
      have hq9 := e9 _ _ hq8
      have hd9 := hd8.ex e9
      have e09 := e08.trans e9.exc
      have hs90 := hs9.at_
      obtain ⟨g, g0, f1, f2, B1, hg⟩ := red_dvd (t := fold2 h t b) b0
      have Bb : redB (fold2 h t b) b ≤ 100000 := by
        have := Int.mul_le_mul_of_nonneg_right (show 1 ≤ g by omega) (show 0 ≤ redB (fold2 h t b) b by omega)
        omega
      have F0 : 0 ≤ fold2 h t b := by
        have hm : 0 < 2 * h * b := Int.mul_pos (by omega) (by omega)
        have r1 := Int.emod_nonneg t (Int.ne_of_gt hm)
        have r2 := Int.emod_lt_of_pos t hm
        unfold fold2
        omega
      have F1 : fold2 h t b ≤ h * b := by
        have hm : 0 < 2 * h * b := Int.mul_pos (by omega) (by omega)
        have r2 := Int.emod_lt_of_pos t hm
        have e : 2 * h * b = 2 * (h * b) := by ac_rfl
        unfold fold2
        rw [e] at r2 ⊢
        omega
      have tst := fun r => seen_test (h := h) (t := t) (b := b) (r := r) (d := d) hr.1 b0 t0
      obtain ⟨T1, hT⟩ : ∃ T1, redT (fold2 h t b) b = T1 := ⟨_, rfl⟩
      obtain ⟨B, hB⟩ : ∃ B, redB (fold2 h t b) b = B := ⟨_, rfl⟩
      have T9 : T1 ≤ h * B := by
        rw [hT] at f1
        rw [hB] at f2
        rw [f1] at F1
        refine Int.le_of_mul_le_mul_left (a := g) ?_ g0
        have e : g * (h * B) = h * (g * B) := by ac_rfl
        rw [e, ← f2]
        exact F1
      rw [hT] at f1
      rw [hT, hB] at hp
      simp only [hT, hB] at tst
      rw [hB] at B1 Bb
      have T0 : 0 ≤ T1 := by
        rcases Int.lt_or_le T1 0 with z | z
        · have := Int.mul_neg_of_pos_of_neg g0 z
          omega
        · exact z
      walk_at "rd"
      walk_at "sh"
      walk_at "rq"
      obtain ⟨G, hG⟩ : ∃ G, (d * B + T1) / B = G := ⟨_, rfl⟩
      have G0 : 0 ≤ G := by rw [← hG]; exact Int.ediv_nonneg (by have := Int.mul_nonneg d0 (show 0 ≤ B by omega); omega) (by omega)
      have G9 : G ≤ d + h := by
        rw [← hG]
        refine Int.ediv_le_of_le_mul (by omega) ?_
        rw [Int.add_mul]
        omega
      obtain ⟨lo, hlo⟩ : ∃ lo, (if G - 2 * d - 1 > 0 then G - 2 * d - 1 else 0) = lo := ⟨_, rfl⟩
      obtain ⟨hi2, hhi⟩ : ∃ hi2, (if G < h then G else h) = hi2 := ⟨_, rfl⟩
      have lo0 : 0 ≤ lo ∧ G - 2 * d - 1 ≤ lo := by rw [← hlo]; split <;> omega
      have lo9 : lo ≤ G := by rw [← hlo]; split <;> omega
      have hi0 : 0 ≤ hi2 ∧ hi2 ≤ h ∧ hi2 ≤ G := by rw [← hhi]; split <;> omega
      walk_at "sh"
      walk_at "rd"
      refine ⟨?_, fun S0 nS0 => ?_⟩
      · show RgOk (if (d * B + T1) / B - 2 * d - 1 > 0 then (d * B + T1) / B - 2 * d - 1 else 0) ((if (d * B + T1) / B < h then (d * B + T1) / B else h) + 1)
        rw [hG, hlo, hhi]
        by_cases hc : lo ≤ hi2
        · exact ⟨by omega, by omega, by omega, by omega, by omega⟩
        · exact ⟨by omega, by omega, by omega, by omega, by omega⟩
      have hS : rgV (if (d * B + T1) / B - 2 * d - 1 > 0 then (d * B + T1) / B - 2 * d - 1 else 0) ((if (d * B + T1) / B < h then (d * B + T1) / B else h) + 1) = rgV lo (hi2 + 1) := by rw [hG, hlo, hhi]
      have hS0 : upd H9 S0 (.lst (rgV (if (d * B + T1) / B - 2 * d - 1 > 0 then (d * B + T1) / B - 2 * d - 1 else 0) ((if (d * B + T1) / B < h then (d * B + T1) / B else h) + 1))) S0 = some (.lst (rgV lo (hi2 + 1))) := by rw [upd_same, hS]
      have eS0 : Ex H9 (upd H9 S0 (.lst (rgV (if (d * B + T1) / B - 2 * d - 1 > 0 then (d * B + T1) / B - 2 * d - 1 else 0) ((if (d * B + T1) / B < h then (d * B + T1) / B else h) + 1)))) := (Ex.refl H9).new nS0
      walk_at "rq"
      refine ⟨⟨_, sqL hS0⟩, fun D nD => ?_⟩
      refine lcE (walk_list (xs := rgV lo (hi2 + 1))) nD (by rw [rg_len]; omega) (fun i => decide ((if (lo + (i : Nat)) * B - T1 < 0 then -((lo + (i : Nat)) * B - T1) else (lo + (i : Nat)) * B - T1) ≤ d * B))
        (fun i y _ => ∃ r, y = V.int r ∧ (0 ≤ r ∧ r ≤ h ∧ (2 * r - 2 * d ≤ fold h (spotR t b) ∧ fold h (spotR t b) ≤ 2 * r + 2 * d))) (fun _ r => r) (fun _ r => r) (fun H e => sqL (e _ _ hS0)) ?_ ?_
      · rintro i2 y H11 H12 hi3 e11 ⟨rfl, hy⟩ S Z' hS' hZ
        obtain ⟨rfl, hy2⟩ := rg_get hy
        walk_at "rq"
        refine iteD (fun z => ?_) (fun z => ?_)
        · walk_at "rq"
          refine hS' _ _ (Ex.refl _) (decide_eq_true z) ⟨_, rfl, by omega, by omega, Classical.not_not.mp fun n => ?_⟩
          have := (tst (lo + (i2 : Nat))).mpr n
          revert this z
          generalize (lo + (i2 : Int)) * B = y1
          generalize d * B = y2
          intro z this
          split at z <;> split at this <;> omega
        · walk_at "rq"
          exact hZ _ (Ex.refl _) (decide_eq_false z)
      intro H11 ys e11 hD got
      unfold Got at got
      obtain ⟨rs, rfl, hrs⟩ := ints_of got
      have rln : rs.length ≤ 8 := by
        have h1 := paired_len got
        have h2 := List.length_filter_le (fun i => decide ((if (lo + ((i : Nat) : Int)) * B - T1 < 0 then -((lo + ((i : Nat) : Int)) * B - T1) else (lo + ((i : Nat) : Int)) * B - T1) ≤ d * B)) (List.range (rgV lo (hi2 + 1)).length)
        rw [h1, List.length_map, List.length_range, rg_len] at h2
        omega
      walk_at "rq"
      refine ⟨by walk_at "sz", fun q1 nq1 => ?_⟩
      refine ⟨_, .list [], dp_intsL (upd_old hD nq1), .lst (sqL upd_same) .nil, shaped_ints rs, by decide +kernel, ?_⟩
      rw [eqv_nil']
      have e912 : Ex H9 (upd H11 q1 (.lst [])) := (eS0.trans e11).new nq1
      have hs12 := hs9.ex e912
      have hw12 := hw9.ex e912
      have hq12 := e912 _ _ hq9
      have hd12 := hd9.ex e912
      have e012 := e09.trans e912.exc
      have hD12 := upd_old (o' := .lst []) hD nq1
      have Dl : D ≠ l.1 := ((hd9.ex eS0).off nD).2.1
      obtain ⟨H12, hH12⟩ : ∃ H12, upd H11 q1 (.lst []) = H12 := ⟨_, rfl⟩
      rw [hH12] at hs12 hw12 hq12 hd12 e012 hD12 ⊢
      clear e912 hs9 hw9 hq9 e09 hS0 eS0 hs8 hw8 hq8 e08 hs6 hw6 hq6 e6 got e11 e9 hD hs90 tst
      walk_at "rq"
      refine iteD (fun _ => ?_) (fun ne => ?_)
      · walk_at "rq"
        exact .of ⟨vs, ls, _, _, _, _, _, _, _, _, rfl, e012, hd12, hs12, hw12, hq12, by omega, lsr, lm⟩
      walk_at "rq"
      refine ⟨(dr, l, .ref D, rs.map .int), rfl, ⟨hd12, by simpa using ne, by rw [List.length_map]; omega, .inl ⟨D, rfl, Dl, .inl hD12⟩⟩, ?_⟩
      rintro v H13 ⟨hv13, hd13, e13⟩
      obtain ⟨r, hrm, rfl⟩ := List.mem_map.mp hv13
      have rr := hrs r hrm
      have hs13 := hs12.exc e13 hd12 so.1 lko.2.1
      have hw13 := hw12.exn (e13.exn hd12)
      have hq13 := (e13.exn hd12).tup hq12
      have e013 := e012.trans e13
      walk_at "rq"
      refine ⟨by walk_at "sz", fun lt nlt => ?_⟩
      have e14 := (Ex.refl H13).new (o := .tup [.int h, .int r]) nlt
      have hs14 := hs13.ex e14
      have hw14 := hw13.ex e14
      have hq14 := e14 _ _ hq13
      have hd14 := hd13.ex e14
      have e014 := e013.trans e14.exc
      have hlt14 := upd_same (H := H13) (a := lt) (o := .tup [.int h, .int r])
      obtain ⟨H14, hH14⟩ : ∃ H14, upd H13 lt (.tup [.int h, .int r]) = H14 := ⟨_, rfl⟩
      rw [hH14] at hs14 hw14 hq14 hd14 e014 hlt14
      clear hs13 hw13 hq13 hd13 e013 hs12 hw12 hq12 hd12 e012 e14
      have ok : LksOk (ls ++ [(h, r)]) := by
        refine ⟨fun l hl => ?_, ?_, by simp; omega⟩
        · rw [List.mem_append, List.mem_singleton] at hl
          rcases hl with hl | rfl
          · have h1 := lsr l hl
            have h2 := nrg _ h1.1
            exact ⟨h2.1, h2.2, h1.2.1, h1.2.2⟩
          · exact ⟨hr.1, hr.2, rr.1, rr.2.1⟩
        · have m1 := lcmL_ge (l := ns) fun n hn => (nrg n hn).1
          have mem : ∀ n ∈ (ls ++ [(h, r)]).map (·.1), n ∈ ns := fun n hn => by
            obtain ⟨l, hl, rfl⟩ := List.mem_map.mp hn
            rw [List.mem_append, List.mem_singleton] at hl
            rcases hl with hl | rfl
            · exact (lsr l hl).1
            · exact hh
          have := lcmL_le (l := (ls ++ [(h, r)]).map (·.1)) (m := lcmL ns) m1 (fun n hn => (nrg n (mem n hn)).1) fun n hn => lcmL_dvd (mem n hn)
          omega
      have lc240 : lcmL ((ls ++ [(h, r)]).map (·.1)) ≤ 240 := by
        have m1 := lcmL_ge (l := ns) fun n hn => (nrg n hn).1
        have mem : ∀ n ∈ (ls ++ [(h, r)]).map (·.1), n ∈ ns := fun n hn => by
          obtain ⟨l, hl, rfl⟩ := List.mem_map.mp hn
          rw [List.mem_append, List.mem_singleton] at hl
          rcases hl with hl | rfl
          · exact (lsr l hl).1
          · exact hh
        have := lcmL_le (l := (ls ++ [(h, r)]).map (·.1)) (m := lcmL ns) m1 (fun n hn => (nrg n (mem n hn)).1) fun n hn => lcmL_dvd (mem n hn)
        omega
      have lm2 : LeftM d (ls ++ [(h, r)]) (spotR t b) := fun l hl => by
        rw [List.mem_append, List.mem_singleton] at hl
        rcases hl with hl | rfl
        · exact lm l hl
        · exact rr.2.2
      obtain ⟨dxw, mw, hz14, _⟩ := id hw14
      rw [show upd H13 lt (.tup [V.int h, V.int r]) = H14 from hH14]
      walk_at "rq"
      refine ⟨_, _, _, rfl, hz14, (z, lt, d, ls, h, r), rfl, ⟨hw14, hlt14, ok⟩, ?_⟩
      rintro v H15 ⟨rfl, off, hw15⟩
      have nzz : ∀ {a : Addr} {o : HO}, H14 a = some o → o ≠ .ins Z.watch dxw [("v_now", .ref mw), ("v_mark", .non)] → H15 a = some o := fun {a o} h n => off a o (ne_of h hz14 n) h
      have hs15 : SheetAt H15 s d lk hv vs ls := ⟨nzz hs14.at_ (fun z => by unfold shK at z; cases z), nzz hs14.lk (fun z => nomatch z), paired_map (fun _ _ ⟨u, a, b⟩ => ⟨u, a, nzz b (fun z => nomatch z)⟩) hs14.ls⟩
      have hq15 := nzz hq14 (fun z => nomatch z)
      have hd15 : DrawAt H15 dr l := by
        obtain ⟨r, t, m, ns, cs, W⟩ := hd14
        exact ⟨r, t, m, ns, cs, nzz W.hd (fun z => by unfold drK at z; cases z), nzz W.hl (fun z => nomatch z), nzz W.hc (fun z => nomatch z), W.cl, W.n0, W.r0, W.m0, W.m1, W.ln, W.cn⟩
      have hlt15 := nzz hlt14 (fun z => nomatch z)
      have e015 : Exc dr l H H15 := e014.off off nz0 (by obtain ⟨_, _, q, _⟩ := id hw15; rw [q]; intro z; cases z)
      clear hs14 hw14 hq14 hd14 e014 hlt14 hz14 nzz
      have hs150 := hs15.at_
      have hlk15 := hs15.lk
      walk_at "rq"
      walk_at "sh"
      walk_at "rd"
      have vl := paired_len hs15.ls
      refine ⟨_, _, _, rfl, rfl, hlk15, szlt (by omega), ?_⟩
      have x16 := exn_lst (o := .lst (vs ++ [.ref lt])) hlk15
      have hs16 : SheetAt (upd H15 lk (.lst (vs ++ [.ref lt]))) s d lk hv (vs ++ [.ref lt]) (ls ++ [(h, r)]) := ⟨upd_off hs15.at_ slk, upd_same, paired_app2 (hs15.ls.exn x16) (.cons ⟨lt, rfl, x16.tup hlt15⟩ .nil)⟩
      have hw16 := hw15.exn x16
      have hq16 := x16.tup hq15
      have hd16 := hd15.upd (o := .lst (vs ++ [.ref lt])) lko
      have e016 := e015.mut (o := .lst (vs ++ [.ref lt])) nlk0
      obtain ⟨H16, hH16⟩ : ∃ H16, upd H15 lk (.lst (vs ++ [.ref lt])) = H16 := ⟨_, rfl⟩
      rw [hH16] at hs16 hw16 hq16 hd16 e016
      rw [show upd H15 lk (.lst (vs ++ [V.ref lt])) = H16 from hH16]
      clear hs15 hw15 hq15 hd15 e015 hlt15 x16 hs150 hlk15
      obtain ⟨dxw, mw, hz16, _⟩ := id hw16
      walk_at "rq"
      refine ⟨_, _, _, rfl, hz16, (z, q, t, b, d, ls ++ [(h, r)]), rfl, ⟨hw16, hq16, t0, b0, gc, by omega⟩, ?_⟩
      rintro v H17 ⟨rfl, e17⟩
      rw [tv_true lm2]
      refine ⟨_, rfl, ?_⟩
      walk_at "rq"
      try refine ite0 rfl ?_
      have hw17 := hw16.ex e17
      obtain ⟨dxw, mw, hz17, _⟩ := id hw17
      walk_at "rq"
      refine ⟨_, _, _, rfl, hz17, (z, d, ls ++ [(h, r)]), rfl, hw17, ?_⟩
      rintro v H18 ⟨y, r2, rfl, ny, e18, hr2, hy⟩
      have e1618 := e17.trans e18
      walk_at "rq"
      refine ⟨(dr, l, y, s, r2, d, lk, hv, _, _), rfl, ⟨hd16.ex e1618, hy, hs16.ex e1618, so.1, lko.2.1, ok.rng, lc240, ok.ln, d0, by omega⟩, ?_⟩
      rintro v H19 ⟨rfl, hd19, e19⟩
      have x19 := e1618.exn.trans (e19.exn (hd16.ex e1618))
      walk_at "rq"
      try refine ite0 rfl ?_
      walk_at "rq"
      refine .of ⟨vs ++ [.ref lt], ls ++ [(h, r)], _, _, _, _, _, _, _, _, rfl, (e016.trans e1618.exc).trans e19, hd19, (hs16.ex e1618).exc e19 (hd16.ex e1618) so.1 lko.2.1, hw16.exn x19, x19.tup hq16, by simp; omega, fun l hl => ?_, lm2⟩
      rw [List.mem_append, List.mem_singleton] at hl
      rcases hl with hl | rfl
      · exact lsr l hl
      · exact ⟨hh, rr.1, rr.2.1⟩
    · rintro σ H6 hP
      obtain ⟨vs, ls, o5, o6, o7, o8, o9, o10, o11, o12, rfl, e6, hd6, hs6, hw6, hq6, lsl, lsr, lm⟩ := hP.out
      walk_at "rq"
      exact hq _ _ ⟨rfl, hd6, e6⟩)
end
end Ff
end
section
set_option maxRecDepth 100000
set_option maxHeartbeats 4000000
/-! The law's rows. -/
namespace Ff
open PySem PySem.Spec PyProof.Rows L2
local macro_rules | `(tactic| walk_at "ex") => `(tactic| first
  | exact Ex.refl _
  | with_reducible assumption
  | (refine Ex.new ?_ (by with_reducible assumption); walk_at "ex")
  | (refine Ex.mut ?_ (by walk_at "hn"); walk_at "ex")
  | (refine Ex.trans ?_ (by with_reducible assumption); walk_at "ex"))
local macro_rules | `(tactic| walk_at "hn") => `(tactic| first
  | with_reducible assumption
  | exact Ex.back (by with_reducible assumption) (by with_reducible assumption)
  | exact upd_none (by with_reducible assumption)
  | exact upd_none (upd_none (by with_reducible assumption))
  | exact Ex.back (by with_reducible assumption) (upd_none (by with_reducible assumption))
  | exact Ex.back (by with_reducible assumption) (Ex.back (by with_reducible assumption) (by with_reducible assumption)))
local macro_rules | `(tactic| walk_at "hp") => `(tactic| first
  | with_reducible assumption
  | with_reducible exact upd_same
  | (refine Ex.at (by with_reducible assumption) ?_; walk_at "ex")
  | (refine upd_old ?_ (by with_reducible assumption); walk_at "hp")
  | (refine upd_off ?_ (by with_reducible assumption); walk_at "hp"))
local macro_rules | `(tactic| walk_at "sd") => `(tactic| ((try dsimp only [CMul, CDiv, CPow]); first | exact True.intro | omega | (with_reducible assumption)))
local macro_rules | `(tactic| walk_at "sz") => `(tactic| exact Nat.le_of_ble_eq_true rfl)
local macro_rules | `(tactic| walk_at "is") => `(tactic| first
  | refine ⟨_, _, _, _, _, rfl, .ty _, .base (.int _), kt_int, ?_⟩
  | refine ⟨_, _, _, _, _, rfl, .ty _, .base (.int _), kt_intb, ?_⟩
  | refine ⟨_, _, _, _, _, rfl, .ty _, .base (.bl _), kt_bool, ?_⟩
  | refine ⟨_, _, _, _, _, rfl, .ty _, .base (.str _), kt_str, ?_⟩
  | refine ⟨_, _, _, _, _, rfl, .ty _, .base (.tup (by walk_at "hp")), kt_tup, ?_⟩
  | refine ⟨_, _, _, _, _, rfl, .ty _, .base (.dK (by walk_at "hp")), kt_dict, ?_⟩)
local macro_rules | `(tactic| walk_at "rd1") => `(tactic| first
  | refine ⟨_, rfl, ?_⟩
  | refine ⟨_, _, rfl, rfl, And.intro (by walk_at "sd") ?_⟩
  | refine ⟨_, _, rfl, rfl, ?_⟩
  | refine ⟨rfl, ?_⟩
  | refine ⟨_, _, _, _, rfl, rfl, sqT (by walk_at "hp"), rfl, ?_⟩
  | refine ⟨_, _, _, _, rfl, rfl, sqL (by walk_at "hp"), rfl, ?_⟩
  | refine ⟨_, _, rfl, sqT (by walk_at "hp"), rfl, ?_⟩
  | refine ⟨_, _, _, _, _, rfl, by walk_at "hp", by assumption, by assumption, rfl, ?_⟩
  | refine ⟨.inl ⟨rfl, _, sqL (by walk_at "hp")⟩, ?_⟩
  | refine ⟨_, _, rfl, .inl (sqL (by walk_at "hp")), ?_⟩
  | refine ⟨_, _, rfl, .inr (sqT (by walk_at "hp")), ?_⟩
  | refine ⟨(_, _), rfl, ?_⟩
  | refine ⟨(_, _, _), rfl, ?_⟩
  | refine ⟨(_, _, _, _), rfl, ?_⟩
  | refine ⟨_, _, rfl, ?_⟩
  | refine ⟨_, _, _, rfl, ?_⟩
  | walk_at "is")
local macro_rules | `(tactic| walk_at "rd") => `(tactic| repeat walk_at "rd1")

local macro_rules | `(tactic| walk_at "ib") => `(tactic| refine .inr ⟨_, rfl, ?_⟩)
local macro_rules | `(tactic| walk_at "ii") => `(tactic| refine .inl ⟨_, rfl, ?_⟩)
/-- a test with a word behind it: what follows is shown once for each answer -/
def tCutT (tt : TT) : TT := fun σ H R => ∃ C : Bool → Hp → Prop, tt σ H C ∧ ∀ b H', C b H' → R b H'
theorem pt_cut {X : Cx} {e : Expr} {tt : TT} (h : PT X e tt) : PT X e (tCutT tt) := by
  refine ⟨fun pins s σ H Q I k => ?_⟩
  obtain ⟨C, k1, k2⟩ := k
  refine thn (h.run pins s σ H C I k1) fun b s1 q => ?_
  obtain ⟨H', I', q⟩ := q
  exact ⟨H', I', k2 b H' q⟩
theorem rowV_tell {H : Hp} {p : Addr} {z : PySem.Str} (h : H p = some (.tup [.str "tell", .str z])) : rowV H (.ref p) (.tell z) := ⟨p, rfl, h⟩
theorem rowV_look {H : Hp} {p e t : Addr} {h : Int} {es ts : List Int} (h1 : H p = some (.tup [.str "look", .int h, .ref e, .ref t])) (h2 : H e = some (.tup (es.map .int))) (h3 : H t = some (.tup (ts.map .int))) : rowV H (.ref p) (.look h es ts) := ⟨p, e, t, rfl, h1, h2, h3⟩
theorem rowV_exn {H H' : Hp} {v : V} {r : Row} (h : rowV H v r) (e : ExN H H') : rowV H' v r := by
  cases r with
  | tell w => obtain ⟨p, a, b⟩ := h; exact ⟨p, a, e _ _ (fun _ z => nomatch z) (fun _ z => nomatch z) b⟩
  | look h es ts => obtain ⟨p, q, t, a, b, c, d⟩ := h; exact ⟨p, q, t, a, e _ _ (fun _ z => nomatch z) (fun _ z => nomatch z) b, e _ _ (fun _ z => nomatch z) (fun _ z => nomatch z) c, e _ _ (fun _ z => nomatch z) (fun _ z => nomatch z) d⟩
theorem RowsAt.exn {H H' : Hp} {vs : List V} {rows : List Row} (h : RowsAt H vs rows) (e : ExN H H') : RowsAt H' vs rows := paired_map (fun _ _ q => rowV_exn q e) h
section
variable {P : Program} {w : World} {K : PySem.W.Frag} {mg : PySem.Str → Option Value} {base : Heap} {Z : Adr}
def sp_law_rows : Sp := mkSp (fun ((d, _, m) : Addr × Lc × Int) => [.ref d, .int m]) (fun (d, l, m) H => DrawAt H d l ∧ 60 ≤ m ∧ m ≤ 240)
  (fun (d, l, m) H v H' => ∃ p vs rows, v = .ref p ∧ H p = none ∧ H' p = some (.tup vs) ∧ RowsAt H' vs rows ∧ RowsOk rows ∧ (∃ ns, HvOk m ns ∧ ∀ h es ts, Row.look h es ts ∈ rows → h ∈ ns) ∧ DrawAt H' d l ∧ Exc d l H H')
abbrev s_law_rows : Stmt := top 105
theorem sc_law_rows : FnScope ["_law_draw", "_law_most_of", "_law_halves_here", "_law_found", "_law_many", "_law_at", "_law_half_here", "_law_ends_here", "_law_goals", "_law_turn", "_law_later"] ["_law_draw", "_law_most_of"] (C8.fnScope s_law_rows) := C8.fnScope_by (by decide +kernel)
theorem c_law_rows (T : Txt P w K mg base Z) : C8.Cal P w K mg base 5 "_law_rows" sp_law_rows [] :=
  calD (k := 4) T.d_law_rows sc_law_rows (fun _ _ _ _ _ _ us h => by obtain ⟨_, _, rfl⟩ := us2 (by exact h); rfl) (fun _ => rfl) (fun cdv f A outer s H0 H Q E a hr pre hq => by
    have S := sc_law_rows
    obtain ⟨d, l, m⟩ := a
    obtain ⟨hd, m1, m2⟩ := pre
    refine ⟨_, (pss_cons (ps_par (i := 2) (j := 3) rfl S.nd rfl rfl (by decide) rfl rfl (pa_cons (C8.pe_c (c_law_halves T) hr (by decide) rfl (pa_cons (pv 0) (pa_cons pe_int (pa_cons (pv 1) pa_nil)))) (pa_cons (pe_lst pa_nil) pa_nil)) (by rfl))
  (pss_cons (ps_set (i := 4) S.nd rfl (Or.inl rfl) (pe_op op_add pe_int (C8.pe_c (c_law_take T) hr (by decide) rfl (pa_cons (pv 0) (pa_cons (C8.pe_c (c_law_pick T) hr (by decide) rfl (pa_cons (pv 0) (pa_cons (pe_lst (pa_cons pe_int (pa_cons pe_int (pa_cons pe_int (pa_cons pe_int pa_nil))))) pa_nil))) pa_nil)))))
  (pss_cons (ps_for PassesOwn.never rfl (pi_range1 (by rfl) T.n_range (pa_cons (pv 4) pa_nil)) (pg_name (i := 5) S.nd rfl (Or.inl rfl)) (pss_one (ps_if (pt_cut (PW.pt (pw_or (pt_cmpR op_eq (C8.pe_c (c_law_take T) hr (by decide) rfl (pa_cons (pv 0) (pa_cons pe_int pa_nil))) pe_int (nomark _)) (pw_or1 (PW.pt (pw_and (pt_cmpR op_eq (pv 5) (pe_op op_sub (pv 4) pe_int) (nomark _)) (pw_and1 (pt_cmpR op_gt (C8.pe_c (c_law_take T) hr (by decide) rfl (pa_cons (pv 0) (pa_cons pe_int pa_nil))) pe_int (nomark _))))))))) (pss_one (ps_expr (pe_bm PySem.F.plainAttrs_list PySem.F.slot_list_append PySem.F.type_list_append mt_append (pv 3) (pa_cons (pe_tup (pa_cons pe_str (pa_cons (C8.pe_c (c_law_term T) hr (by decide) rfl (pa_cons (pv 0) pa_nil)) pa_nil))) pa_nil)))) (pss_cons (ps_set (i := 6) S.nd rfl (Or.inl rfl) (C8.pe_c (c_law_pick T) hr (by decide) rfl (pa_cons (pv 0) (pa_cons (pv 2) pa_nil))))
  (pss_cons (ps_par (i := 7) (j := 8) rfl S.nd rfl rfl (by decide) rfl rfl (pa_cons (C8.pe_c (c_law_ends T) hr (by decide) rfl (pa_cons (pv 0) (pa_cons (pv 6) pa_nil))) (pa_cons (pe_lst pa_nil) pa_nil)) (by rfl))
  (pss_cons (ps_for PassesOwn.never rfl (pi_range1 (by rfl) T.n_range (pa_cons (pe_op op_add (pe_op op_mul pe_int (pe_callB (lenS (K := K) rfl) (by rfl) T.n_len (by decide +kernel) (pa_cons (pv 7) pa_nil))) pe_int) pa_nil)) (pg_name (i := 9) S.nd rfl (Or.inl rfl)) (pss_cons (ps_set (i := 10) S.nd rfl (Or.inl rfl) (pe_op op_add (pe_op op_add (pv 5) pe_int) (C8.pe_c (c_law_take T) hr (by decide) rfl (pa_cons (pv 0) (pa_cons (pe_callB (call_max2 rfl) (by rfl) T.n_max (by decide +kernel) (pa_cons pe_int (pa_cons (pe_op op_sub (pe_op op_sub (pv 4) (pv 5)) pe_int) pa_nil))) pa_nil)))))
  (pss_one (ps_expr (pe_bm PySem.F.plainAttrs_list PySem.F.slot_list_append PySem.F.type_list_append mt_append (pv 8) (pa_cons (C8.pe_c (c_law_pick T) hr (by decide) rfl (pa_cons (pv 0) (pa_cons (pe_lst (pa_cons (pe_callB (call_min2 rfl) (by rfl) T.n_min (by decide +kernel) (pa_cons (pe_op op_sub (pv 4) pe_int) (pa_cons (pv 10) pa_nil))) (pa_cons (pe_callB (call_min2 rfl) (by rfl) T.n_min (by decide +kernel) (pa_cons (pe_op op_sub (pv 4) pe_int) (pa_cons (pv 10) pa_nil))) (pa_cons (C8.pe_c (c_law_take T) hr (by decide) rfl (pa_cons (pv 0) (pa_cons (pv 4) pa_nil))) pa_nil)))) pa_nil))) pa_nil))))))
  (pss_one (ps_expr (pe_bm PySem.F.plainAttrs_list PySem.F.slot_list_append PySem.F.type_list_append mt_append (pv 3) (pa_cons (pe_tup (pa_cons pe_str (pa_cons (pv 6) (pa_cons (pv 7) (pa_cons (pe_callTy (tupO (K := K) rfl) (by rfl) T.n_tuple (by decide +kernel) (pa_cons (pv 8) pa_nil)) pa_nil))))) pa_nil))))))))))
  (pss_one (ps_ret (pe_callTy (tupO (K := K) rfl) (by rfl) T.n_tuple (by decide +kernel) (pa_cons (pv 3) pa_nil))))))), ?_⟩
    walk_at "rd"
    refine ⟨(d, l, 3, m), rfl, ⟨hd, by omega, by omega, m1, m2⟩, ?_⟩
    rintro v H1 ⟨hp, n, ns, rfl, nhp, hhp1, nl, ok, hd1, e1⟩
    have hpo := hd.off nhp
    walk_at "rd"
    refine ⟨by walk_at "sz", fun f nf => ?_⟩
    have fo := hd1.off nf
    have hpf : hp ≠ f := ne_of_none hhp1 nf
    have nf0 : H f = none := e1.2 _ nf
    have hd1' := hd1.new (o := .lst []) nf
    walk_at "rd"
    refine ⟨by walk_at "sz", fun a na => ?_⟩
    refine ⟨(d, l, .ref a, [.int 7, .int 7, .int 7, .int 17]), rfl, ⟨hd1'.new na, by simp, by simp, .inl ⟨a, rfl, (hd1'.off na).2.1, .inl upd_same⟩⟩, ?_⟩
    rintro v H2 ⟨hv2, hd2, e2⟩
    obtain ⟨k, rfl, k1, k2⟩ : ∃ k, v = .int k ∧ 1 ≤ k ∧ k ≤ 17 := by
      simp at hv2
      rcases hv2 with rfl | rfl <;> exact ⟨_, rfl, by omega, by omega⟩
    walk_at "rd"
    refine ⟨(d, l, k), rfl, ⟨hd2, by omega, by omega⟩, ?_⟩
    rintro v H3 ⟨j, rfl, j1, j2, hd3, e3⟩
    have e03 : Exc d l H H3 := (((e1.new (o := .lst []) nf).new (o := .lst [.int 7, .int 7, .int 7, .int 17]) na).trans e2).trans e3
    have hhp3 := (e2.trans e3).1 _ _ hpo.1 hpo.2.1 (upd_old (o' := .lst [.int 7, .int 7, .int 7, .int 17]) (upd_old (o' := .lst []) hhp1 nf) na)
    have hf3 := (e2.trans e3).1 _ _ fo.1 fo.2.1 (upd_old (o' := .lst [.int 7, .int 7, .int 7, .int 17]) (upd_same (H := H1) (a := f) (o := .lst [])) na)
    walk_at "rd"
    refine ⟨by omega, by omega, ?_⟩
    refine for_it walk_range (fun i σ H' => Hold (∃ (vs : List V) (rows : List Row) (o5 o6 o7 o8 o9 o10 : Option V), σ = [some (.ref d), some (.int m), some (.ref hp), some (.ref f), some (.int (1 + j)), o5, o6, o7, o8, o9, o10] ∧ Exc d l H H' ∧ DrawAt H' d l ∧ H' hp = some (.lst ((n :: ns).map .int)) ∧ H' f = some (.lst vs) ∧ RowsAt H' vs rows ∧ rows.length = i ∧
        (∀ r ∈ rows, RowOk (1 + j) r) ∧ ∀ h es ts, Row.look h es ts ∈ rows → h ∈ n :: ns))
      (.of ⟨[], [], _, _, _, _, _, _, rfl, e03, hd3, hhp3, hf3, .nil, rfl, by simp, by simp⟩) (fun _ _ _ _ _ => trivial) ?_ ?_
    · rintro i y σ HX H4 hi hP ⟨rfl, rfl⟩
      obtain ⟨vs, rows, o5, o6, o7, o8, o9, o10, rfl, e4, hd4, hhp4, hf4, hr4, rl, ro, rh⟩ := hP.out
      clear hP
      have vl := paired_len hr4
      walk_at "rd"
      refine ⟨fun b H9 => Hold (Exc d l H4 H9 ∧ DrawAt H9 d l), ?_, ?_⟩
      · walk_at "rd"
        refine ⟨(d, l, 3), rfl, ⟨hd4, by omega, by omega⟩, ?_⟩
        rintro v H6 ⟨a1, rfl, _, _, hd6, e6⟩
        walk_at "rd"
        refine iteD (fun _ => ?_) (fun _ => ?_)
        · exact .of ⟨e6, hd6⟩
        · walk_at "rd"
          refine iteD (fun _ => ?_) (fun _ => ?_)
          · walk_at "rd"
            refine ⟨(d, l, 3), rfl, ⟨hd6, by omega, by omega⟩, ?_⟩
            rintro v H7 ⟨a2, rfl, _, _, hd7, e7⟩
            walk_at "rd"
            exact .of ⟨e6.trans e7, hd7⟩
          · exact .of ⟨e6, hd6⟩
      · rintro b H9 hold
        obtain ⟨e9, hd9⟩ := hold.out
        have hhp9 := e9.1 _ _ hpo.1 hpo.2.1 hhp4
        have hf9 := e9.1 _ _ fo.1 fo.2.1 hf4
        have hr9 := hr4.exn (e9.exn hd4)
        have e09 := e4.trans e9
        refine iteB (fun _ => ?_) (fun _ => ?_)
        · walk_at "rd"
          refine ⟨(d, l), rfl, hd9, ?_⟩
          rintro v H10 ⟨z, rfl, wz, hd10, e10⟩
          have hhp10 := e10.1 _ _ hpo.1 hpo.2.1 hhp9
          have hf10 := e10.1 _ _ fo.1 fo.2.1 hf9
          have hr10 := hr9.exn (e10.exn hd9)
          walk_at "rd"
          refine ⟨by walk_at "sz", fun p np => ?_⟩
          have pf : p ≠ f := (ne_of_none hf10 np).symm
          have hf11 := upd_old (o' := .tup [.str "tell", .str z]) hf10 np
          walk_at "rd"
          refine ⟨_, _, _, rfl, rfl, hf11, szlt (by omega), ?_⟩
          have xn : ExN H10 (upd (upd H10 p (.tup [.str "tell", .str z])) f (.lst (vs ++ [.ref p]))) := ((Ex.refl H10).new np).exn.trans (exn_lst hf11)
          refine .of ⟨vs ++ [.ref p], rows ++ [.tell z], _, _, _, _, _, _, rfl, ((e09.trans e10).new np).mut nf0, (hd10.new np).upd fo, upd_off (upd_old hhp10 np) hpf, upd_same, paired_app2 (hr10.exn xn) (.cons (rowV_tell (upd_off upd_same pf)) .nil), by simp; omega, fun r hr => ?_, fun h es ts hm => ?_⟩
          · rw [List.mem_append, List.mem_singleton] at hr
            rcases hr with hr | rfl
            · exact ro r hr
            · exact .tell wz
          · rw [List.mem_append, List.mem_singleton] at hm
            rcases hm with hm | hm
            · exact rh h es ts hm
            · cases hm
        · walk_at "rd"
          refine ⟨(d, l, .ref hp, (n :: ns).map .int), rfl, ⟨hd9, by simp, by simp at nl ⊢; omega, .inl ⟨hp, rfl, hpo.2.1, .inl hhp9⟩⟩, ?_⟩
          rintro v H10 ⟨hm, hd10, e10⟩
          obtain ⟨h, hh, rfl⟩ := List.mem_map.mp hm
          have hrg := ok.1 h hh
          have hhp10 := e10.1 _ _ hpo.1 hpo.2.1 hhp9
          have hf10 := e10.1 _ _ fo.1 fo.2.1 hf9
          have hr10 := hr9.exn (e10.exn hd9)
          walk_at "rd"
          refine ⟨(d, l, h), rfl, ⟨hd10, hrg.1, hrg.2⟩, ?_⟩
          rintro v H11 ⟨ep, es, rfl, nep, hep11, eo, hd11, e11⟩
          have epo := hd10.off nep
          have hhp11 := e11.1 _ _ hpo.1 hpo.2.1 hhp10
          have hf11 := e11.1 _ _ fo.1 fo.2.1 hf10
          have hr11 := hr10.exn (e11.exn hd10)
          walk_at "rd"
          refine ⟨by walk_at "sz", fun g ng => ?_⟩
          have go := hd11.off ng
          have gf : f ≠ g := ne_of_none hf11 ng
          have gp : hp ≠ g := ne_of_none hhp11 ng
          have ge : ep ≠ g := ne_of_none hep11 ng
          have ng0 : H g = none := ((e09.trans e10).trans e11).2 _ ng
          have hd12 := hd11.new (o := .lst []) ng
          have e012 := ((e09.trans e10).trans e11).new (o := .lst []) ng
          have hhp12 := upd_old (o' := .lst []) hhp11 ng
          have hf12 := upd_old (o' := .lst []) hf11 ng
          have hep12 := upd_old (o' := .lst []) hep11 ng
          have hg12 := upd_same (H := H11) (a := g) (o := .lst [])
          have hr12 := hr11.ex ((Ex.refl H11).new (o := .lst []) ng)
          obtain ⟨H12, hH12⟩ : ∃ H12, upd H11 g (.lst []) = H12 := ⟨_, rfl⟩
          rw [hH12] at hd12 e012 hhp12 hf12 hep12 hg12 hr12 ⊢
          have eln := eo.ln
          walk_at "rd"
          rw [List.length_map]
          refine ⟨by omega, by omega, ?_⟩
          refine for_it walk_range (fun jj σ H' => Hold (∃ (gs : List Int) (o9 o10 : Option V), σ = [some (.ref d), some (.int m), some (.ref hp), some (.ref f), some (.int (1 + j)), some (.int (0 + (i : Int))), some (.int h), some (.ref ep), some (.ref g), o9, o10] ∧ Exc d l H H' ∧ DrawAt H' d l ∧ H' hp = some (.lst ((n :: ns).map .int)) ∧ H' f = some (.lst vs) ∧ RowsAt H' vs rows ∧ H' ep = some (.tup (es.map .int)) ∧
              H' g = some (.lst (gs.map .int)) ∧ gs.length = jj ∧ ∀ x ∈ gs, 0 ≤ x ∧ x < (1 + j)))
            (.of ⟨[], _, _, rfl, e012, hd12, hhp12, hf12, hr12, hep12, hg12, rfl, by simp⟩) (fun _ _ _ _ _ => trivial) ?_ ?_
          · rintro j2 y σ HX H13 hj hP ⟨rfl, rfl⟩
            obtain ⟨gs, o9, o10, rfl, e13, hd13, hhp13, hf13, hr13, hep13, hg13, gl, gr⟩ := hP.out
            clear hP
            walk_at "rd"
            refine ⟨(d, l, _), rfl, ⟨hd13, by split <;> omega, by split <;> omega⟩, ?_⟩
            rintro v H15 ⟨a3, rfl, a30, a31, hd15, e15⟩
            have hhp15 := e15.1 _ _ hpo.1 hpo.2.1 hhp13
            have hf15 := e15.1 _ _ fo.1 fo.2.1 hf13
            have hep15 := e15.1 _ _ epo.1 epo.2.1 hep13
            have hg15 := e15.1 _ _ go.1 go.2.1 hg13
            have hr15 := hr13.exn (e15.exn hd13)
            walk_at "rd"
            refine ⟨(d, l, (1 + j)), rfl, ⟨hd15, by omega, by omega⟩, ?_⟩
            rintro v H16 ⟨a4, rfl, a40, a41, hd16, e16⟩
            have hhp16 := e16.1 _ _ hpo.1 hpo.2.1 hhp15
            have hf16 := e16.1 _ _ fo.1 fo.2.1 hf15
            have hep16 := e16.1 _ _ epo.1 epo.2.1 hep15
            have hg16 := e16.1 _ _ go.1 go.2.1 hg15
            have hr16 := hr15.exn (e16.exn hd15)
            obtain ⟨lt, hlt⟩ : ∃ lt, (if 0 + (i : Int) + 1 + a3 < (1 + j) - 1 then 0 + (i : Int) + 1 + a3 else (1 + j) - 1) = lt := ⟨_, rfl⟩
            have lt0 : 0 ≤ lt ∧ lt < (1 + j) := by rw [← hlt]; split <;> omega
            walk_at "rd"
            refine ⟨by walk_at "sz", fun a5 na5 => ?_⟩
            rw [hlt]
            refine ⟨(d, l, .ref a5, [.int lt, .int lt, .int a4]), rfl, ⟨hd16.new na5, by simp, by simp, .inl ⟨a5, rfl, (hd16.off na5).2.1, .inl upd_same⟩⟩, ?_⟩
            rintro v H17 ⟨hv17, hd17, e17⟩
            obtain ⟨q, rfl, q0, q1⟩ : ∃ q, v = .int q ∧ 0 ≤ q ∧ q < (1 + j) := by
              simp at hv17
              rcases hv17 with rfl | rfl <;> exact ⟨_, rfl, by omega, by omega⟩
            have hhp17 := e17.1 _ _ hpo.1 hpo.2.1 (upd_old (o' := .lst [.int lt, .int lt, .int a4]) hhp16 na5)
            have hf17 := e17.1 _ _ fo.1 fo.2.1 (upd_old (o' := .lst [.int lt, .int lt, .int a4]) hf16 na5)
            have hep17 := e17.1 _ _ epo.1 epo.2.1 (upd_old (o' := .lst [.int lt, .int lt, .int a4]) hep16 na5)
            have hg17 := e17.1 _ _ go.1 go.2.1 (upd_old (o' := .lst [.int lt, .int lt, .int a4]) hg16 na5)
            have hr17 := (hr16.ex ((Ex.refl H16).new (o := .lst [.int lt, .int lt, .int a4]) na5)).exn (e17.exn (hd16.new na5))
            walk_at "rd"
            refine ⟨_, _, _, rfl, rfl, hg17, szlt (by rw [List.length_map]; omega), ?_⟩
            refine .of ⟨gs ++ [q], _, _, rfl, ((((e13.trans e15).trans e16).new na5).trans e17).mut ng0, hd17.upd go, upd_off hhp17 gp, upd_off hf17 gf, hr17.exn (exn_lst hg17), upd_off hep17 ge, by rw [upd_same, List.map_append]; rfl, by simp; omega, fun x hx => ?_⟩
            rw [List.mem_append, List.mem_singleton] at hx
            rcases hx with hx | rfl
            · exact gr x hx
            · exact ⟨q0, q1⟩
          · rintro σ H13 hP
            obtain ⟨gs, o9, o10, rfl, e13, hd13, hhp13, hf13, hr13, hep13, hg13, gl, gr⟩ := hP.out
            clear hP
            walk_at "rd"
            refine ⟨_, _, rfl, .inl ⟨sqL hg13, fun t nt => ?_⟩⟩
            walk_at "rd"
            refine ⟨by walk_at "sz", fun p np => ?_⟩
            have hf14 := upd_old (o' := .tup [.str "look", .int h, .ref ep, .ref t]) (upd_old (o' := .tup (gs.map .int)) hf13 nt) np
            have hep14 := upd_old (o' := .tup [.str "look", .int h, .ref ep, .ref t]) (upd_old (o' := .tup (gs.map .int)) hep13 nt) np
            have ht14 := upd_old (o' := .tup [.str "look", .int h, .ref ep, .ref t]) (upd_same (H := H13) (a := t) (o := .tup (gs.map .int))) np
            have pf : p ≠ f := (ne_of_none (upd_old (o' := .tup (gs.map .int)) hf13 nt) np).symm
            have ef : ep ≠ f := fun z => by rw [z, hf13] at hep13; cases hep13
            have tf : t ≠ f := (ne_of_none hf13 nt).symm
            walk_at "rd"
            refine ⟨_, _, _, rfl, rfl, hf14, szlt (by omega), ?_⟩
            have xn := (((Ex.refl H13).new (o := .tup (gs.map .int)) nt).new (o := .tup [.str "look", .int h, .ref ep, .ref t]) np).exn.trans (exn_lst (o := .lst (vs ++ [.ref p])) hf14)
            refine .of ⟨vs ++ [.ref p], rows ++ [.look h es gs], _, _, _, _, _, _, rfl, ((e13.new nt).new np).mut nf0, ((hd13.new nt).new np).upd fo, upd_off (upd_old (upd_old hhp13 nt) np) hpf, upd_same, paired_app2 (hr13.exn xn) (.cons (rowV_look (upd_off upd_same pf) (upd_off hep14 ef) (upd_off ht14 tf)) .nil), by simp; omega, fun r hr => ?_, fun h' es' ts' hm => ?_⟩
            · rw [List.mem_append, List.mem_singleton] at hr
              rcases hr with hr | rfl
              · exact ro r hr
              · exact .look hrg.1 hrg.2 eo (by omega) gr
            · rw [List.mem_append, List.mem_singleton] at hm
              rcases hm with hm | hm
              · exact rh h' es' ts' hm
              · cases hm
                exact hh
    · rintro σ H4 hP
      obtain ⟨vs, rows, o5, o6, o7, o8, o9, o10, rfl, e4, hd4, hhp4, hf4, hr4, rl, ro, rh⟩ := hP.out
      clear hP
      walk_at "rd"
      refine ⟨_, _, rfl, .inl ⟨sqL hf4, fun p np => ?_⟩⟩
      have rlN : (rows.length : Int) = (1 + j) := by omega
      refine hq _ _ ⟨p, vs, rows, rfl, e4.2 _ np, upd_same, hr4.ex ((Ex.refl H4).new np), ⟨by omega, by omega, fun r hr => by rw [rlN]; exact ro r hr⟩, ⟨n :: ns, ok, rh⟩, hd4.new np, e4.new np⟩)
end
end Ff
end
section
set_option maxRecDepth 100000
/-! What a program tells it can be led to: the plain law. -/
namespace Ff
open PySem PySem.Spec PyProof.Rows L2
theorem tg_step {rows : List Row} {s d a nx : Int} (ro : RowsOk rows) (d0 : 0 ≤ d) (h : stepR rows s a = some nx) : ∃ r, rows[a.toNat]? = some r ∧ Tg r s d nx ∧ 0 ≤ nx ∧ nx < (rows.length : Int) := by
  unfold stepR at h
  cases q : rows[a.toNat]? with
  | none => rw [q] at h; cases h
  | some r =>
    rw [q] at h
    have ok := ro.2.2 r (List.mem_of_getElem? q)
    cases r with
    | tell w => cases h
    | look k es ts =>
      have h : some (goalS k es ts s) = some nx := h
      cases ok with
      | look h1 h2 e l t =>
        obtain ⟨g1, g2⟩ := goalS_get (h := k) (s := s) l
        have e := Option.some.inj h
        rw [e] at g1 g2
        have f := fold_rng (h := k) s h1
        have rg := t nx g2
        exact ⟨_, rfl, ⟨fold k s, f.1, f.2, by omega, by omega, g1⟩, rg.1, rg.2⟩
structure PthS (rows : List Row) (s d : Int) (p : List Int) (a : Int) : Prop where
  last : p.getLast? = some a
  rs : ∀ x ∈ p, RS rows s d x ∧ 0 ≤ x ∧ x < (rows.length : Int)
  nd : p.Nodup
  st : ∀ x ∈ p, x = a ∨ ∃ y ∈ p, stepR rows s x = some y
theorem path_law {rows : List Row} {s d : Int} (ro : RowsOk rows) (d0 : 0 ≤ d) : ∀ (m : Nat) (p : List Int) (a : Int), PthS rows s d p a → p.length + m = rows.length + 1 → LF rows d (wordAt rows (pathGo rows s m p a)) s
  | 0, p, a, I, hl => by
    have := nodup_le rows.length p I.nd fun x hx => (I.rs x hx).2
    omega
  | m + 1, p, a, I, hl => by
    have am : a ∈ p := List.mem_of_getLast? I.last
    have ar := I.rs a am
    cases st : stepR rows s a with
    | none =>
      rw [path_stop st]
      obtain ⟨r, hr⟩ : ∃ r, rows[a.toNat]? = some r := ⟨_, List.getElem?_eq_getElem (by omega)⟩
      cases r with
      | tell w =>
        have e : wordAt rows p = some w := by
          unfold wordAt
          rw [I.last]
          show (match rows[a.toNat]? with | some (.tell w) => some w | _ => none) = _
          rw [hr]
        rw [e]
        exact ⟨a, ar.1, ar.2.1, hr⟩
      | look k es ts =>
        unfold stepR at st
        rw [hr] at st
        cases st
    | some nx =>
      rw [path_turn st]
      obtain ⟨r, hr, tg, n0, n1⟩ := tg_step ro d0 st
      by_cases w : nx ∈ p
      · rw [if_pos w]
        have e : wordAt rows (p ++ [nx]) = none := by
          unfold wordAt
          rw [List.getLast?_append]
          show (match rows[nx.toNat]? with | some (.tell w) => some w | _ => none) = _
          have : ∃ y, stepR rows s nx = some y := by
            rcases I.st nx w with e | ⟨y, _, h⟩
            · exact ⟨nx, by rw [e] at st ⊢; exact st⟩
            · exact ⟨y, h⟩
          obtain ⟨y, hy⟩ := this
          obtain ⟨r, hr, tg, _⟩ := tg_step ro d0 hy
          cases r with
          | tell w => exact tg.elim
          | look k es ts => rw [hr]
        rw [e]
        refine ⟨fun k => k ∈ p, ⟨a, am⟩, fun k hk => ?_⟩
        have kr := I.rs k hk
        have : ∃ y ∈ p, stepR rows s k = some y := by
          rcases I.st k hk with e | h
          · exact ⟨nx, w, by rw [e]; exact st⟩
          · exact h
        obtain ⟨y, hy, hs⟩ := this
        obtain ⟨r, hr, tg, _⟩ := tg_step ro d0 hs
        exact ⟨kr.1, kr.2.1, r, y, hr, tg, hy⟩
      · rw [if_neg w]
        refine path_law ro d0 m (p ++ [nx]) nx ⟨by simp, fun x hx => ?_, ?_, fun x hx => ?_⟩ (by simp; omega)
        · rw [List.mem_append, List.mem_singleton] at hx
          rcases hx with hx | rfl
          · exact I.rs x hx
          · exact ⟨.step ar.1 ar.2.1 hr tg, n0, n1⟩
        · rw [List.nodup_append]
          refine ⟨I.nd, by simp, fun x hx y hy => ?_⟩
          rw [List.mem_singleton] at hy
          subst hy
          exact fun e => w (e ▸ hx)
        · rw [List.mem_append, List.mem_singleton] at hx
          rcases hx with hx | rfl
          · right
            rcases I.st x hx with e | ⟨y, hy, h⟩
            · exact ⟨nx, by simp, by rw [e]; exact st⟩
            · exact ⟨y, List.mem_append_left _ hy, h⟩
          · exact .inl rfl
/-- with any doubt a program can be led to what it tells -/
theorem out_led {rows : List Row} {s d : Int} (ro : RowsOk rows) (d0 : 0 ≤ d) : LF rows d (outW rows s) s := by
  have r1 := ro.1
  refine path_law ro d0 rows.length [0] 0 ⟨rfl, fun x hx => ?_, by simp, fun x hx => ?_⟩ (by simp; omega)
  · rw [List.mem_singleton] at hx
    subst hx
    exact ⟨.zero, by omega, by omega⟩
  · rw [List.mem_singleton] at hx
    exact .inl hx
end Ff
end
section
set_option maxRecDepth 100000
/-! What a program can be led to: the dicts, the sayings. -/
namespace Ff
open PySem PySem.Spec PyProof.Rows L2
theorem valV_mem {κ : Type} [DecidableEq κ] {k : κ} {u : V} : ∀ {kvs : List (κ × V)}, (kvs.map Prod.fst).Nodup → (k, u) ∈ kvs → valV kvs k = some u
  | p :: r, nd, h => by
    rw [List.map_cons, List.nodup_cons] at nd
    rw [List.mem_cons] at h
    rcases h with rfl | h
    · exact valV_pos rfl
    · rw [valV_neg fun e => nd.1 (by rw [e]; exact List.mem_map.mpr ⟨_, h, rfl⟩)]
      exact valV_mem nd.2 h
theorem valV_off {κ : Type} [DecidableEq κ] {k : κ} : ∀ {kvs : List (κ × V)}, k ∉ kvs.map Prod.fst → valV kvs k = none
  | [], _ => rfl
  | p :: r, h => by
    rw [List.map_cons, List.mem_cons] at h
    rw [valV_neg fun e => h (.inl e.symm)]
    exact valV_off fun m => h (.inr m)
/-- a dict of patterns under words, at d -/
structure DA (Z : Adr) (P : Program) (w : World) (L : Int) (F : Option PySem.Str → Int → Prop) (H : Hp) (d : Addr) (kvs : List (Wd × V)) : Prop where
  at_ : H d = some (DO P w d kvs)
  nd : (kvs.map Prod.fst).Nodup
  ln : kvs.length ≤ 30
  keys : ∀ k, k ∈ kvs.map Prod.fst ↔ ∃ s, 0 ≤ s ∧ s ≤ 2 * L ∧ F k s
  pat : ∀ k u, (k, u) ∈ kvs → ∃ x p, u = .ref x ∧ p ∣ L ∧ PatAt Z H x p (F k)
section
variable {Z : Adr} {P : Program} {w : World} {L : Int} {F : Option PySem.Str → Int → Prop} {H H' : Hp} {d : Addr} {kvs : List (Wd × V)}
theorem DictP.da {v : V} (h : DictP Z P w L F H v) : ∃ d kvs, v = .ref d ∧ DA Z P w L F H d kvs := by
  obtain ⟨d, kvs, e, a, b, c, f, g⟩ := h
  exact ⟨d, kvs, e, a, b, c, f, g⟩
theorem DA.ex (h : DA Z P w L F H d kvs) (e : Ex H H') : DA Z P w L F H' d kvs :=
  ⟨e _ _ h.at_, h.nd, h.ln, h.keys, fun k u m => by obtain ⟨x, p, a, b, c⟩ := h.pat k u m; exact ⟨x, p, a, b, c.ex e⟩⟩
theorem DA.exn (h : DA Z P w L F H d kvs) (e : ExN H H') : DA Z P w L F H' d kvs :=
  ⟨e _ _ (fun _ => do_ne) (fun _ z => by unfold DO at z; cases z) h.at_, h.nd, h.ln, h.keys, fun k u m => by obtain ⟨x, p, a, b, c⟩ := h.pat k u m; exact ⟨x, p, a, b, c.exn e⟩⟩
theorem DA.get (h : DA Z P w L F H d kvs) {k : Option PySem.Str} (m : k ∈ kvs.map Prod.fst) : ∃ a p, valV kvs k = some (.ref a) ∧ p ∣ L ∧ PatAt Z H a p (F k) := by
  obtain ⟨⟨k', u⟩, hm, rfl⟩ := List.mem_map.mp m
  obtain ⟨x, p, rfl, b, c⟩ := h.pat _ _ hm
  exact ⟨x, p, valV_mem h.nd hm, b, c⟩
theorem DA.pats (h : DA Z P w L F H d kvs) {a : Addr} {o : HO} (n : ∀ C dx fs, H a ≠ some (.ins C dx fs)) (n2 : ∀ xs, H a ≠ some (.tup xs)) : ∀ k ∈ kvs.map Prod.fst, ∃ b p, valV kvs k = some (.ref b) ∧ p ∣ L ∧ PatAt Z (upd H a o) b p (F k) := fun k m => by
  obtain ⟨b, p, e1, e2, e3⟩ := h.get m
  exact ⟨b, p, e1, e2, e3.off n n2⟩
theorem DA.ni (h : DA Z P w L F H d kvs) : (∀ C dx fs, H d ≠ some (.ins C dx fs)) ∧ (∀ xs, H d ≠ some (.tup xs)) :=
  ⟨fun C dx fs z => (by rw [h.at_] at z; unfold DO at z; cases z), fun xs z => (by rw [h.at_] at z; unfold DO at z; cases z)⟩
end
/-! ### the sayings out of what is led to -/
def say1 (G : Option PySem.Str → Int → Prop) (kv : Wd × V) : Option Say := match kv with
  | (some z, .ref a) => some (z, a, G (some z))
  | _ => none
theorem say1_some {G : Option PySem.Str → Int → Prop} {kv : Wd × V} {p : Say} (h : say1 G kv = some p) : kv = (some p.1, .ref p.2.1) ∧ p.2.2 = G (some p.1) := by
  obtain ⟨k, v⟩ := kv
  cases k with
  | none => cases h
  | some z =>
    cases v <;> first | cases h | skip
    exact ⟨rfl, rfl⟩
def sayL (G : Option PySem.Str → Int → Prop) (kvs : List (Wd × V)) : List Say := kvs.filterMap (say1 G)
theorem sayL_mem {G : Option PySem.Str → Int → Prop} {kvs : List (Wd × V)} {p : Say} (h : p ∈ sayL G kvs) : (some p.1, V.ref p.2.1) ∈ kvs ∧ p.2.2 = G (some p.1) := by
  obtain ⟨kv, hk, e⟩ := List.mem_filterMap.mp h
  obtain ⟨rfl, e2⟩ := say1_some e
  exact ⟨hk, e2⟩
theorem sayL_nd {G : Option PySem.Str → Int → Prop} : ∀ {kvs : List (Wd × V)}, (kvs.map Prod.fst).Nodup → ((sayL G kvs).map Prod.fst).Nodup
  | [], _ => .nil
  | kv :: r, nd => by
    rw [List.map_cons, List.nodup_cons] at nd
    have ih := sayL_nd (G := G) nd.2
    unfold sayL
    rw [List.filterMap_cons]
    cases q : say1 G kv with
    | none => exact ih
    | some p =>
      show ((p :: sayL G r).map Prod.fst).Nodup
      rw [List.map_cons, List.nodup_cons]
      refine ⟨fun m => ?_, ih⟩
      obtain ⟨p', hp', e⟩ := List.mem_map.mp m
      have h1 := (sayL_mem hp').1
      have h2 := (say1_some q).1
      refine nd.1 (List.mem_map.mpr ⟨_, h1, ?_⟩)
      rw [h2]
      show some p'.1 = some p.1
      rw [e]
theorem got_fm2 {α β : Type} {F : β → V → Prop} {l : List α} {g : α → Option β} : ∀ (n : Nat) (ys : List V), n ≤ l.length → Paired (fun i y => ∃ x b, l[i]? = some x ∧ g x = some b ∧ F b y) ((List.range n).filter fun i => ((l[i]?).bind g).isSome) ys → Paired F ((l.take n).filterMap g) ys
  | 0, ys, _, p => by cases p; exact .nil
  | n + 1, ys, hn, p => by
    rw [List.range_succ, List.filter_append] at p
    obtain ⟨y1, y2, rfl, p1, p2⟩ := paired_split p
    have ih := got_fm2 n y1 (by omega) p1
    have hx : l[n]? = some l[n] := List.getElem?_eq_getElem (by omega)
    rw [take_more hx, List.filterMap_append]
    refine paired_app2 ih ?_
    cases q : g l[n] with
    | none =>
      have : ([n].filter fun i => ((l[i]?).bind g).isSome) = [] := by simp [hx, q]
      rw [this] at p2
      cases p2
      simp [q]
      exact .nil
    | some b =>
      have : ([n].filter fun i => ((l[i]?).bind g).isSome) = [n] := by simp [hx, q]
      rw [this] at p2
      cases p2 with
      | cons r t =>
        cases t
        obtain ⟨x, b', e1, e2, h⟩ := r
        rw [hx] at e1
        cases e1
        rw [q] at e2
        cases e2
        simp [q]
        exact .cons h .nil
theorem mergeK_new : ∀ (more kvs : List (Key × V)), ((kvs ++ more).map Prod.fst).Nodup → mergeK kvs more = kvs ++ more
  | [], kvs, _ => by simp [mergeK]
  | p :: r, kvs, nd => by
    have h : p.1 ∉ kvs.map Prod.fst := fun m => by
      rw [List.map_append, List.nodup_append] at nd
      exact nd.2.2 _ m _ (by simp) rfl
    have e : mergeK kvs (p :: r) = mergeK (putK kvs p.1 p.2) r := rfl
    rw [e, putK_fresh h, mergeK_new r _ (by rw [List.append_assoc]; exact nd)]
    simp
theorem syV_nd {sy : List Say} (nd : (sy.map Prod.fst).Nodup) : ((syV sy).map Prod.fst).Nodup := by
  have e : (syV sy).map Prod.fst = (sy.map Prod.fst).map (fun z => (Sum.inr z : Key)) := by unfold syV; simp [Function.comp_def]
  rw [e]
  exact List.Pairwise.map _ (fun a b h e => h (Sum.inr.inj e)) nd
/-- the sayings with another pattern under a word -/
def syPut (sy : List Say) (w : PySem.Str) (z : Addr) (M : Int → Prop) : List Say := sy.map fun p => if p.1 = w then (w, z, M) else p
theorem syPut_fst {sy : List Say} {w : PySem.Str} {z : Addr} {M : Int → Prop} : (syPut sy w z M).map Prod.fst = sy.map Prod.fst := by
  unfold syPut
  rw [List.map_map]
  refine List.map_congr_left fun p _ => ?_
  show (if p.1 = w then (w, z, M) else p).1 = p.1
  split
  · rename_i h; exact h.symm
  · rfl
theorem syPut_V {sy : List Say} {w : PySem.Str} {z : Addr} {M : Int → Prop} (h : w ∈ sy.map Prod.fst) : putK (syV sy) (Sum.inr w) (.ref z) = syV (syPut sy w z M) := by
  unfold putK
  rw [if_pos]
  · unfold syV syPut
    rw [List.map_map, List.map_map]
    refine List.map_congr_left fun p _ => ?_
    show (if (Sum.inr p.1 : Key) = Sum.inr w then ((Sum.inr p.1 : Key), V.ref z) else ((Sum.inr p.1 : Key), V.ref p.2.1)) = ((Sum.inr (if p.1 = w then (w, z, M) else p).1 : Key), V.ref (if p.1 = w then (w, z, M) else p).2.1)
    by_cases q : p.1 = w
    · rw [if_pos q, if_pos (by rw [q]), q]
    · rw [if_neg q, if_neg (fun e => q (by cases e; rfl))]
  · rw [List.any_eq_true]
    obtain ⟨p, hp, e⟩ := List.mem_map.mp h
    exact ⟨_, List.mem_map.mpr ⟨p, hp, rfl⟩, decide_eq_true (by show (Sum.inr p.1 : Key) = _; rw [e])⟩
theorem SayAt.put {Z : Adr} {L : Int} {H : Hp} {a z : Addr} {r : Int} {sy : List Say} {w : PySem.Str} {M : Int → Prop} (h : SayAt Z L H a sy) (m : w ∈ sy.map Prod.fst) (hr : r ∣ L) (hz : PatAt Z H z r M) :
    SayAt Z L (upd H a (.dK (putK (syV sy) (Sum.inr w) (.ref z)))) a (syPut sy w z M) := by
  have ai : ∀ C dx fs, H a ≠ some (.ins C dx fs) := fun C dx fs q => by rw [h.at_] at q; cases q
  have at_ : ∀ xs, H a ≠ some (.tup xs) := fun xs q => by rw [h.at_] at q; cases q
  refine ⟨by rw [upd_same, syPut_V m], by rw [syPut_fst]; exact h.nd, by unfold syPut; rw [List.length_map]; exact h.ln, fun p hp => ?_⟩
  obtain ⟨p', hp', rfl⟩ := List.mem_map.mp hp
  obtain ⟨wk, q, hq, hpat⟩ := h.pat p' hp'
  by_cases e : p'.1 = w
  · rw [if_pos e]
    exact ⟨by rw [← e]; exact wk, r, hr, hz.off ai at_⟩
  · rw [if_neg e]
    exact ⟨wk, q, hq, hpat.off ai at_⟩
/-- all words with all that leads there -/
def FullS (rows : List Row) (d L : Int) (sy : List Say) : Prop := (∀ p ∈ sy, p.2.2 = LF rows d (some p.1)) ∧ ∀ w s, 0 ≤ s → s ≤ 2 * L → tells rows d w s → ∃ p ∈ sy, p.1 = w
theorem full_ok {rows : List Row} {d L : Int} {sy : List Say} (f : FullS rows d L sy) : (∀ s, 0 ≤ s → s ≤ 2 * L → OKs rows d sy s) ↔ ¬ ∃ s, 0 ≤ s ∧ s ≤ 2 * L ∧ LF rows d none s := by
  constructor
  · rintro h ⟨s, h0, h1, l⟩
    exact (h s h0 h1).2 l
  · intro h s h0 h1
    refine ⟨fun w t => ?_, fun l => h ⟨s, h0, h1, l⟩⟩
    obtain ⟨p, hp, e⟩ := f.2 w s h0 h1 t
    refine ⟨p, hp, e, ?_⟩
    rw [f.1 p hp, e]
    exact t
theorem full_put {rows : List Row} {d L : Int} {sy : List Say} {w : PySem.Str} {z : Addr} (f : FullS rows d L sy) : FullS rows d L (syPut sy w z (LF rows d (some w))) := by
  constructor
  · intro p hp
    obtain ⟨p', hp', rfl⟩ := List.mem_map.mp hp
    by_cases e : p'.1 = w
    · rw [if_pos e]
    · rw [if_neg e]
      exact f.1 p' hp'
  · intro w' s h0 h1 t
    obtain ⟨p, hp, e⟩ := f.2 w' s h0 h1 t
    have : w' ∈ (syPut sy w z (LF rows d (some w))).map Prod.fst := by rw [syPut_fst]; exact List.mem_map.mpr ⟨p, hp, e⟩
    obtain ⟨p', hp', e'⟩ := List.mem_map.mp this
    exact ⟨p', hp', e'⟩
/-- without what the program tells, something is wrong -/
theorem not_ok {rows : List Row} {d L s : Int} {sy : List Say} {w : PySem.Str} {z : Addr} {G : Int → Prop} (ro : RowsOk rows) (d0 : 0 ≤ d) (h0 : 0 ≤ s) (h1 : s ≤ 2 * L) (e : outW rows s = some w) :
    ¬ ∀ s, 0 ≤ s → s ≤ 2 * L → OKs rows d (syPut sy w z (fun k => G k ∧ ¬ outW rows k = some w)) s := by
  intro h
  have t : LF rows d (some w) s := by rw [← e]; exact out_led ro d0
  obtain ⟨p, hp, pe, ps⟩ := (h s h0 h1).1 w t
  obtain ⟨p', hp', rfl⟩ := List.mem_map.mp hp
  by_cases q : p'.1 = w
  · rw [if_pos q] at ps
    exact ps.2 e
  · rw [if_neg q] at pe
    exact q pe
theorem full_of {Z : Adr} {P : Program} {w : World} {L : Int} {rows : List Row} {d : Int} {H : Hp} {a : Addr} {kvs : List (Wd × V)} (h : DA Z P w L (LF rows d) H a kvs) : FullS rows d L (sayL (LF rows d) kvs) := by
  refine ⟨fun p hp => (sayL_mem hp).2, fun z s h0 h1 t => ?_⟩
  have m := (h.keys (some z)).mpr ⟨s, h0, h1, t⟩
  obtain ⟨⟨k, u⟩, hm, e⟩ := List.mem_map.mp m
  dsimp only at e
  subst e
  obtain ⟨x, p, rfl, _, _⟩ := h.pat _ _ hm
  exact ⟨(z, x, LF rows d (some z)), List.mem_filterMap.mpr ⟨_, hm, rfl⟩, rfl⟩
theorem word_of_led {rows : List Row} {d s : Int} {w : PySem.Str} (ro : RowsOk rows) (h : LF rows d (some w) s) : WordOk w := by
  obtain ⟨k, _, _, hk⟩ := h
  have := ro.2.2 _ (List.mem_of_getElem? hk)
  cases this with
  | tell h => exact h
end Ff
end
section
set_option maxRecDepth 100000
set_option maxHeartbeats 4000000
/-! What is led to is right. -/
namespace Ff
open PySem PySem.Spec PyProof.Rows L2
local macro_rules | `(tactic| walk_at "ex") => `(tactic| first
  | exact Ex.refl _
  | with_reducible assumption
  | (refine Ex.new ?_ (by with_reducible assumption); walk_at "ex")
  | (refine Ex.mut ?_ (by walk_at "hn"); walk_at "ex")
  | (refine Ex.trans ?_ (by with_reducible assumption); walk_at "ex"))
local macro_rules | `(tactic| walk_at "hn") => `(tactic| first
  | with_reducible assumption
  | exact Ex.back (by with_reducible assumption) (by with_reducible assumption)
  | exact upd_none (by with_reducible assumption)
  | exact upd_none (upd_none (by with_reducible assumption))
  | exact Ex.back (by with_reducible assumption) (upd_none (by with_reducible assumption))
  | exact Ex.back (by with_reducible assumption) (Ex.back (by with_reducible assumption) (by with_reducible assumption)))
local macro_rules | `(tactic| walk_at "hp") => `(tactic| first
  | with_reducible assumption
  | with_reducible exact upd_same
  | (refine Ex.at (by with_reducible assumption) ?_; walk_at "ex")
  | (refine upd_old ?_ (by with_reducible assumption); walk_at "hp")
  | (refine upd_off ?_ (by with_reducible assumption); walk_at "hp"))
local macro_rules | `(tactic| walk_at "sd") => `(tactic| ((try dsimp only [CMul, CDiv, CPow]); first | exact True.intro | omega | (with_reducible assumption)))
local macro_rules | `(tactic| walk_at "sz") => `(tactic| exact Nat.le_of_ble_eq_true rfl)
local macro_rules | `(tactic| walk_at "is") => `(tactic| first
  | refine ⟨_, _, _, _, _, rfl, .ty _, .base (.int _), kt_int, ?_⟩
  | refine ⟨_, _, _, _, _, rfl, .ty _, .base (.int _), kt_intb, ?_⟩
  | refine ⟨_, _, _, _, _, rfl, .ty _, .base (.bl _), kt_bool, ?_⟩
  | refine ⟨_, _, _, _, _, rfl, .ty _, .base (.str _), kt_str, ?_⟩
  | refine ⟨_, _, _, _, _, rfl, .ty _, .base (.tup (by walk_at "hp")), kt_tup, ?_⟩
  | refine ⟨_, _, _, _, _, rfl, .ty _, .base (.dK (by walk_at "hp")), kt_dict, ?_⟩)
local macro_rules | `(tactic| walk_at "rd1") => `(tactic| first
  | refine ⟨_, rfl, ?_⟩
  | refine ⟨_, _, rfl, rfl, And.intro (by walk_at "sd") ?_⟩
  | refine ⟨_, _, rfl, rfl, ?_⟩
  | refine ⟨rfl, ?_⟩
  | refine ⟨_, _, _, _, rfl, rfl, sqT (by walk_at "hp"), rfl, ?_⟩
  | refine ⟨_, _, _, _, rfl, rfl, sqL (by walk_at "hp"), rfl, ?_⟩
  | refine ⟨_, _, rfl, sqT (by walk_at "hp"), rfl, ?_⟩
  | refine ⟨_, _, _, _, _, rfl, by walk_at "hp", by assumption, by assumption, rfl, ?_⟩
  | refine ⟨.inl ⟨rfl, _, sqL (by walk_at "hp")⟩, ?_⟩
  | refine ⟨_, _, rfl, .inl (sqL (by walk_at "hp")), ?_⟩
  | refine ⟨_, _, rfl, .inr (sqT (by walk_at "hp")), ?_⟩
  | refine ⟨(_, _), rfl, ?_⟩
  | refine ⟨(_, _, _), rfl, ?_⟩
  | refine ⟨(_, _, _, _), rfl, ?_⟩
  | refine ⟨_, _, rfl, ?_⟩
  | refine ⟨_, _, _, rfl, ?_⟩
  | walk_at "is")
local macro_rules | `(tactic| walk_at "rd") => `(tactic| repeat walk_at "rd1")

local macro_rules | `(tactic| walk_at "ib") => `(tactic| refine .inr ⟨_, rfl, ?_⟩)
local macro_rules | `(tactic| walk_at "ii") => `(tactic| refine .inl ⟨_, rfl, ?_⟩)
local macro_rules | `(tactic| walk_at "rq1") => `(tactic| first
  | refine ⟨_, rfl, ?_⟩
  | refine ⟨_, _, rfl, rfl, And.intro (by walk_at "sd") ?_⟩
  | refine ⟨_, _, rfl, rfl, ?_⟩
  | refine ⟨rfl, ?_⟩)
local macro_rules | `(tactic| walk_at "rq") => `(tactic| repeat walk_at "rq1")
theorem ProgAt.exn {Z : Adr} {H H' : Hp} {x : Addr} {rows : List Row} {hs : List Int} (h : ProgAt Z H x rows hs) (e : ExN H H') : ProgAt Z H' x rows hs := by
  obtain ⟨dx, t, a, vs, h1, h2, h3, h4, h5, h6⟩ := h
  exact ⟨dx, t, a, vs, e _ _ (fun _ z => nomatch z) (fun _ z => nomatch z) h1, e _ _ (fun _ z => nomatch z) (fun _ z => nomatch z) h2, h3.exn e, e _ _ (fun _ z => nomatch z) (fun _ z => nomatch z) h4, h5, h6⟩
theorem dp_strs {K : PySem.W.Frag} {H : Hp} {a : Addr} {l : List PySem.Str} (h : H a = some (.lst (l.map .str))) : Dp K H (.ref a) (.list (l.map .str)) := by
  refine .lst (sqL h) ?_
  clear h
  induction l with
  | nil => exact .nil
  | cons b bs ih => exact .cons (.str b) ih
theorem shaped_strs {l : List PySem.Str} (ok : ∀ z ∈ l, PyData.strOk z = true) : SeqAt.shaped (.list (l.map .str)) = true := by
  have h1 : PyData.canLayAll0 (l.map .str) = true := by
    induction l with
    | nil => simp [PyData.canLayAll0]
    | cons b bs ih => simp [PyData.canLayAll0, PyData.canLay0, ih fun z hz => ok z (by simp [hz]), ok b (by simp)]
  have h2 : PyData.depthAll (l.map .str) ≤ 1 := by
    clear ok h1
    induction l with
    | nil => simp [PyData.depthAll]
    | cons b bs ih => simp [PyData.depthAll, PyData.depth]; try omega
  unfold SeqAt.shaped
  simp [PyData.canLay0, h1, PyData.depth]
  omega
theorem eqv_strs (l : List PySem.Str) : PyData.eqv (.list (l.map .str)) (.list []) = decide (l = []) := by
  cases l with
  | nil => simp [PyData.eqv, PyData.eqvAll]
  | cons a l => simp [PyData.eqv, PyData.eqvAll]
theorem pair_ps {H : Hp} {sy : List Say} {ys : List V} (h : Paired (fun (p : Say) y => ∃ q, y = V.ref q ∧ H q = some (.tup [.str p.1, .ref p.2.1])) sy ys) : ∃ ps : List Addr, ys = ps.map V.ref ∧ Paired (fun p (kv : Key × V) => H p = some (.tup [kV kv.1, kv.2])) ps (syV sy) := by
  induction h with
  | nil => exact ⟨[], rfl, .nil⟩
  | cons r t ih =>
    obtain ⟨q, rfl, hq⟩ := r
    obtain ⟨ps, rfl, hp⟩ := ih
    exact ⟨q :: ps, rfl, .cons hq hp⟩
theorem lcm_le2 {p q L : Int} (h1 : 1 ≤ p) (h2 : 1 ≤ q) (d1 : p ∣ L) (d2 : q ∣ L) (hL : 1 ≤ L) : lcmL [p, q] ∣ L ∧ lcmL [p, q] ≤ L := by
  have d : lcmL [p, q] ∣ L := lcmL_least (by simp; exact ⟨h1, h2⟩) (by simp; exact ⟨d1, d2⟩)
  exact ⟨d, Int.le_of_dvd (by omega) d⟩
theorem rd_ex {H H' : Hp} {a : Addr} {o : HO} (h : Rd H a o) (e : Ex H H') : Rd H' a o := by
  rcases h with h | ⟨od, h⟩
  · exact .inl (e _ _ h)
  · exact .inr ⟨od, e _ _ h⟩
theorem rd_lock {P : Program} {w : World} {H : Hp} {a b : Addr} {ka kb : List (Wd × V)} {od : Obj} (h1 : H a = some (DO P w a ka)) (h2 : H b = some (DO P w b kb)) : Rd (upd H a (.frz od (DO P w a ka))) b (DO P w b kb) := by
  by_cases q : b = a
  · subst q
    rw [h1] at h2
    exact .inr ⟨od, by rw [upd_same, Option.some.inj h2]⟩
  · exact .inl (upd_off h2 q)
def wordIs (kv : Wd × V) : Option PySem.Str := kv.1
section
variable {P : Program} {w : World} {K : PySem.W.Frag} {mg : PySem.Str → Option Value} {base : Heap} {Z : Adr}
def sp_law_led_right : Sp := mkSp (fun ((d, _, t, _) : Addr × Lc × Addr × List V × List Row) => [.ref d, .ref t])
  (fun (d, l, t, vs, rows) H => DrawAt H d l ∧ H t = some (.tup vs) ∧ RowsAt H vs rows ∧ RowsOk rows ∧ ∀ hs, HalvesOk rows hs → lcmL hs ≤ 5040)
  (fun (d, l, _) H v H' => v = .bl true ∧ DrawAt H' d l ∧ Exc d l H H')
abbrev s_law_led_right : Stmt := top 109
theorem sc_law_led_right : FnScope ["_law_draw", "_law_table", "_law_made", "_law_small", "_law_plain", "_law_told", "_law_more", "_law_term_here", "_law_sayings"] ["_law_draw", "_law_table"] (C8.fnScope s_law_led_right) := C8.fnScope_by (by decide +kernel)
theorem c_law_led_right (T : Txt P w K mg base Z) : C8.Cal P w K mg base 8 "_law_led_right" sp_law_led_right [] :=
  calD (k := 7) T.d_law_led_right sc_law_led_right (fun _ _ _ _ _ _ us h => by obtain ⟨_, _, rfl⟩ := us2 (by exact h); rfl) (fun _ => rfl) (fun cdv f A outer s H0 H Q E a hr pre hq => by
    have S := sc_law_led_right
    obtain ⟨d, l, t, vs, rows⟩ := a
    obtain ⟨hd, ht, hr0, ro, hlc⟩ := pre
    refine ⟨_, (pss_cons (ps_par (i := 2) (j := 3) rfl S.nd rfl rfl (by decide) rfl rfl (pa_cons (C8.pe_mk (k_Program T) hr (by decide) rfl (pa_cons (pv 1) pa_nil)) (pa_cons (C8.pe_c (c_law_take T) hr (by decide) rfl (pa_cons (pv 0) (pa_cons pe_int pa_nil))) pa_nil)) (by rfl))
  (pss_cons (ps_asg (pe_tup (pa_cons (C8.pe_c (c_outcomes T) hr (by decide) rfl (pa_cons (pv 2) pa_nil)) (pa_cons (C8.pe_c (c_led T) hr (by decide) rfl (pa_cons (pv 2) (pa_cons (pv 3) pa_nil))) (pa_cons (C8.pe_c (c_led T) hr (by decide) rfl (pa_cons (pv 2) (pa_cons (pe_op op_add (pe_op op_add (pv 3) pe_int) (C8.pe_c (c_law_take T) hr (by decide) rfl (pa_cons (pv 0) (pa_cons pe_int pa_nil)))) pa_nil))) pa_nil)))) (pgT (K := K) (n := 3) rfl (by rfl) (pgs_cons (pg_name (i := 4) S.nd rfl (Or.inl rfl)) (pgs_cons (pg_name (i := 5) S.nd rfl (Or.inr rfl)) (pgs_cons (pg_name (i := 6) S.nd rfl (Or.inl rfl)) pgs_nil)))))
  (pss_cons (ps_lock (ps_for PassesOwn.never rfl (pi_keysO (pv 4)) (pg_name (i := 7) S.nd rfl (Or.inl rfl)) (pss_one (ps_if (PW.pt (pw_or (pt_cmpR op_niO (pv 7) (pv 5) (by rfl)) (pw_or1 (pt_not (pt_val (C8.pe_mt (pl := _) (c_Pattern_within T) hr (by decide) (getO (P := P) (w := w) rfl rfl (pv 4) (pv 7) (fun _ _ => rfl)) (pa_cons (getO (P := P) (w := w) rfl rfl (pv 5) (pv 7) (fun _ _ => rfl)) pa_nil))))))) (pss_one (ps_ret pe_bl)) pss_nil))))
  (pss_cons (ps_lock (ps_for PassesOwn.never rfl (pi_keysO (pv 5)) (pg_name (i := 7) S.nd rfl (Or.inl rfl)) (pss_one (ps_if (PW.pt (pw_or (pt_cmpR op_niO (pv 7) (pv 6) (by rfl)) (pw_or1 (pt_not (pt_val (C8.pe_mt (pl := _) (c_Pattern_within T) hr (by decide) (getO (P := P) (w := w) rfl rfl (pv 5) (pv 7) (fun _ _ => rfl)) (pa_cons (getO (P := P) (w := w) rfl rfl (pv 6) (pv 7) (fun _ _ => rfl)) pa_nil))))))) (pss_one (ps_ret pe_bl)) pss_nil))))
  (pss_cons (ps_set (i := 8) S.nd rfl (Or.inl rfl) (pe_callTy (call_dictP rfl) (by rfl) T.n_dict (by decide +kernel) (pa_cons (pe_lock (pe_lc (own := [("_law_term_here", 7)]) rfl S.nd (pi_keysO (pv 5)) (blkOk_by (by kernel_rfl)) (fun _ _ _ _ _ => (pg_name (i := 7) S.nd rfl (by first | exact Or.inl rfl | exact Or.inr rfl))) (fun _ _ _ _ _ => (pts_one (pt_cmpR op_notN (pv 7) pe_non (nomark _)))) (fun _ _ _ _ _ => (pe_tup (pa_cons (pv 7) (pa_cons (getO (P := P) (w := w) rfl rfl (pv 5) (pv 7) (fun _ _ => rfl)) pa_nil)))))) pa_nil)))
  (pss_cons (ps_if (pt_cmpR op_ne (pe_cmpR op_isN (C8.pe_c (c_misled T) hr (by decide) rfl (pa_cons (pv 2) (pa_cons (pv 3) (pa_cons (pv 8) pa_nil)))) pe_non (nomark _)) (pe_cmpR op_niO pe_non (pv 5) (by rfl)) (nomark _)) (pss_one (ps_ret pe_bl)) pss_nil)
  (pss_cons (ps_if (pt_cmpR (eqD (K := K) rfl hr.units) (pe_lock (pe_lc (own := [("_law_term_here", 7)]) rfl S.nd (pi_keysO (pv 5)) (blkOk_by (by kernel_rfl)) (fun _ _ _ _ _ => (pg_name (i := 7) S.nd rfl (by first | exact Or.inl rfl | exact Or.inr rfl))) (fun _ _ _ _ _ => (pts_one (pt_cmpR op_notN (pv 7) pe_non (nomark _)))) (fun _ _ _ _ _ => (pv 7)))) (pe_lst pa_nil) (nomark _)) (pss_one (ps_ret pe_bl)) pss_nil)
  (pss_cons (ps_set (i := 7) S.nd rfl (Or.inl rfl) (C8.pe_c (c_law_pick T) hr (by decide) rfl (pa_cons (pv 0) (pa_cons (pe_lock (pe_lc (own := [("_law_term_here", 7)]) rfl S.nd (pi_keysO (pv 5)) (blkOk_by (by kernel_rfl)) (fun _ _ _ _ _ => (pg_name (i := 7) S.nd rfl (by first | exact Or.inl rfl | exact Or.inr rfl))) (fun _ _ _ _ _ => (pts_one (pt_cmpR op_notN (pv 7) pe_non (nomark _)))) (fun _ _ _ _ _ => (pv 7)))) pa_nil))))
  (pss_cons (ps_dput (hu_of hr) (pv 8) (pv 7) (pe_ifExp (pt_cmpR op_inO (pv 7) (pv 4) (by rfl)) (pe_op (op_own (c_Pattern_sub T) rfl T.sf_Pattern (hr.mono (by decide))) (pe_dget (hu_of hr) (pv 8) (pv 7) (fun _ _ => rfl)) (getO (P := P) (w := w) rfl rfl (pv 4) (pv 7) (fun _ _ => rfl))) (pe_dget (hu_of hr) (pv 8) (pv 7) (fun _ _ => rfl))) rfl)
  (pss_one (ps_ret (pe_or (pe_cmpR op_notN (C8.pe_c (c_misled T) hr (by decide) rfl (pa_cons (pv 2) (pa_cons (pv 3) (pa_cons (pv 8) pa_nil)))) pe_non (nomark _)) (pe_one (pe_and (pe_cmpR op_niO pe_non (pv 5) (by rfl)) (pe_one (pe_cmpR op_niO (pv 7) (pv 4) (by rfl))))))))))))))))), ?_⟩
    walk_at "rd"
    refine fun x dx nx ndx dne => ?_
    refine ⟨(_, x, dx, t, vs, rows), rfl, ⟨nx, ndx, dne, rfl, ht, hr0, ro⟩, ?_⟩
    rintro v H1 ⟨rfl, e1, hs, hx1⟩
    refine ⟨rfl, ?_⟩
    have hd1 := hd.ex e1
    walk_at "rd"
    refine ⟨(d, l, 3), rfl, ⟨hd1, by omega, by omega⟩, ?_⟩
    rintro v H2 ⟨u, rfl, u0, u1, hd2, e2⟩
    have hx2 := hx1.exn (e2.exn hd1)
    have e02 := (Ex.exc (d := d) (l := l) e1).trans e2
    obtain ⟨_, _, _, _, _, _, _, _, hh, _⟩ := id hx2
    have hl := hlc hs hh
    have L1 := lcmL_ge (l := hs) fun n hn => (hh.bounds ro n hn).1
    walk_at "rd"
    refine ⟨(x, rows, hs), rfl, ⟨hx2, hl⟩, ?_⟩
    rintro v H3 ⟨e3, D3⟩
    have D3 : DictP Z P w (lcmL hs) (fun k s => outW rows s = k) H3 v := D3
    obtain ⟨pd, kvp, rfl, A3⟩ := D3.da
    clear D3
    walk_at "rd"
    refine ⟨(x, u, rows, hs), rfl, ⟨hx2.ex e3, u0, by omega, hl⟩, ?_⟩
    rintro v H4 ⟨e4, D4⟩
    have D4 : DictP Z P w (lcmL hs) (LF rows u) H4 v := D4
    obtain ⟨td, kvt, rfl, B4⟩ := D4.da
    clear D4
    have e34 := e3.trans e4
    walk_at "rd"
    refine ⟨(d, l, 3), rfl, ⟨hd2.ex e34, by omega, by omega⟩, ?_⟩
    rintro v H5 ⟨j, rfl, j0, j1, hd5, e5⟩
    have x5 := e34.exn.trans (e5.exn (hd2.ex e34))
    have x45 := e5.exn (hd2.ex e34)
    have e05 := (e02.trans e34.exc).trans e5
    walk_at "rd"
    refine ⟨(x, u + 1 + j, rows, hs), rfl, ⟨hx2.exn x5, by omega, by omega, hl⟩, ?_⟩
    rintro v H6 ⟨e6, D6⟩
    have D6 : DictP Z P w (lcmL hs) (LF rows (u + 1 + j)) H6 v := D6
    obtain ⟨md, kvm, rfl, C6⟩ := D6.da
    clear D6
    obtain ⟨L, hL⟩ : ∃ L, lcmL hs = L := ⟨_, rfl⟩
    rw [hL] at A3 B4 C6 hl L1
    walk_at "rd"
    refine ⟨by walk_at "sz", fun tp ntp => ?_⟩
    have A7 := ((A3.ex e4).exn x45).ex (e6.new (o := .tup [.ref pd, .ref td, .ref md]) ntp)
    have B7 := (B4.exn x45).ex (e6.new (o := .tup [.ref pd, .ref td, .ref md]) ntp)
    have C7 := C6.ex ((Ex.refl H6).new (o := .tup [.ref pd, .ref td, .ref md]) ntp)
    have hd7 := (hd5.ex e6).new (o := .tup [.ref pd, .ref td, .ref md]) ntp
    have hx7 := (hx2.exn x5).ex (e6.new (o := .tup [.ref pd, .ref td, .ref md]) ntp)
    have e07 := (e05.trans e6.exc).new (o := .tup [.ref pd, .ref td, .ref md]) ntp
    refine ⟨_, _, rfl, sqT upd_same, rfl, ?_⟩
    obtain ⟨H7, hH7⟩ : ∃ H7, upd H6 tp (.tup [.ref pd, .ref td, .ref md]) = H7 := ⟨_, rfl⟩
    rw [hH7] at A7 B7 C7 hd7 hx7 e07 ⊢
    walk_at "rd"
    refine ⟨pd, _, A7.at_, do_mut, fun od => ?_⟩
    walk_at "rd"
    refine ⟨_, _, _, rfl, upd_same, ?_⟩
    have pA := A7.pats (a := pd) (o := .frz od (DO P w pd kvp)) A7.ni.1 A7.ni.2
    have pB := B7.pats (a := pd) (o := .frz od (DO P w pd kvp)) A7.ni.1 A7.ni.2
    have rt := rd_lock (od := od) A7.at_ B7.at_
    have fz := upd_same (H := H7) (a := pd) (o := .frz od (DO P w pd kvp))
    obtain ⟨HL, hHL⟩ : ∃ HL, upd H7 pd (.frz od (DO P w pd kvp)) = HL := ⟨_, rfl⟩
    rw [hHL] at pA pB rt fz ⊢
    refine for_it (walkO (d := pd) (o := od) (kvs := kvp)) (fun i σ H' => Hold (Ex HL H' ∧ ∃ o7 : Option V, σ = [some (.ref d), some (.ref t), some (.ref x), some (.int u), some (.ref pd), some (.ref td), some (.ref md), o7, none])) (.of ⟨Ex.refl _, _, rfl⟩) (fun i σ H' _ h => h.out.1 _ _ fz) ?_ ?_
    · rintro i y σ H8 H9 hi hP ⟨rfl, k, v, hkv, rfl⟩
      obtain ⟨e8, o7, rfl⟩ := hP.out
      have km : k ∈ kvp.map Prod.fst := List.mem_map.mpr ⟨_, List.mem_of_getElem? hkv, rfl⟩
      obtain ⟨s, s0, s1, hs'⟩ := (A7.keys k).mp km
      have kt : k ∈ kvt.map Prod.fst := (B7.keys k).mpr ⟨s, s0, s1, by rw [← hs']; exact out_led ro u0⟩
      obtain ⟨a1, p1, va, pd1, P1⟩ := pA k km
      obtain ⟨a2, p2, vb, pd2, P2⟩ := pB k kt
      have P1 := P1.ex e8
      have P2 := P2.ex e8
      obtain ⟨_, _, _, _, i1, _, _, f1⟩ := id P1
      obtain ⟨_, _, _, _, i2, _, _, f2⟩ := id P2
      have lc := lcm_le2 f1.p1 f2.p1 pd1 pd2 L1
      walk_at "rq"
      refine ⟨td, kvt, k, rfl, rfl, rd_ex rt e8, ?_⟩
      rw [vb]
      walk_at "rq"
      walk_at "rq"
      refine ⟨pd, kvp, k, _, rfl, rfl, .inr ⟨od, e8 _ _ fz⟩, va, ?_⟩
      walk_at "rq"
      refine ⟨_, _, _, rfl, i1, rfl, ?_⟩
      walk_at "rq"
      refine ⟨td, kvt, k, _, rfl, rfl, rd_ex rt e8, vb, ?_⟩
      walk_at "rq"
      refine ⟨(a1, a2, p1, p2, fun s => outW rows s = k, LF rows u k), rfl, ⟨P1, P2, by omega⟩, ?_⟩
      rintro v H10 ⟨rfl, e10⟩
      rw [tv_true (show ∀ s, 0 ≤ s → outW rows s = k → LF rows u k s from fun s _ e => by rw [← e]; exact out_led ro u0)]
      walk_at "rq"
      walk_at "rq"
      exact .of ⟨e8.trans e10, _, rfl⟩
    intro σ H8 hP
    obtain ⟨e8, o7, rfl⟩ := hP.out
    clear hP
    refine ⟨e8 _ _ fz, ?_⟩
    have eU := Ex.unlock (H' := H8) (by rw [hHL]; exact e8) A7.at_
    obtain ⟨H9, hH9⟩ : ∃ H9, upd H8 pd (DO P w pd kvp) = H9 := ⟨_, rfl⟩
    rw [hH9] at eU
    rw [show upd H8 pd (DO P w pd kvp) = H9 from hH9]
    have A9 := A7.ex eU
    have B9 := B7.ex eU
    have C9 := C7.ex eU
    have hd9 := hd7.ex eU
    have hx9 := hx7.ex eU
    have e09 := e07.trans eU.exc
    clear A7 B7 C7 hd7 hx7 e07 pA pB rt fz hHL eU
    walk_at "rq"
    refine ⟨td, _, B9.at_, do_mut, fun od => ?_⟩
    walk_at "rq"
    refine ⟨_, _, _, rfl, upd_same, ?_⟩
    have pB := B9.pats (a := td) (o := .frz od (DO P w td kvt)) B9.ni.1 B9.ni.2
    have pC := C9.pats (a := td) (o := .frz od (DO P w td kvt)) B9.ni.1 B9.ni.2
    have rt := rd_lock (od := od) B9.at_ C9.at_
    have fz := upd_same (H := H9) (a := td) (o := .frz od (DO P w td kvt))
    obtain ⟨HL, hHL⟩ : ∃ HL, upd H9 td (.frz od (DO P w td kvt)) = HL := ⟨_, rfl⟩
    rw [hHL] at pB pC rt fz ⊢
    refine for_it (walkO (d := td) (o := od) (kvs := kvt)) (fun i σ H' => Hold (Ex HL H' ∧ ∃ o7 : Option V, σ = [some (.ref d), some (.ref t), some (.ref x), some (.int u), some (.ref pd), some (.ref td), some (.ref md), o7, none])) (.of ⟨Ex.refl _, _, rfl⟩) (fun i σ H' _ h => h.out.1 _ _ fz) ?_ ?_
    · rintro i y σ H8 H10 hi hP ⟨rfl, k, v, hkv, rfl⟩
      obtain ⟨e8, o7, rfl⟩ := hP.out
      have km : k ∈ kvt.map Prod.fst := List.mem_map.mpr ⟨_, List.mem_of_getElem? hkv, rfl⟩
      obtain ⟨s, s0, s1, hs'⟩ := (B9.keys k).mp km
      have kt : k ∈ kvm.map Prod.fst := (C9.keys k).mpr ⟨s, s0, s1, LF_more (by omega) hs'⟩
      obtain ⟨a1, p1, va, pd1, P1⟩ := pB k km
      obtain ⟨a2, p2, vb, pd2, P2⟩ := pC k kt
      have P1 := P1.ex e8
      have P2 := P2.ex e8
      obtain ⟨_, _, _, _, i1, _, _, f1⟩ := id P1
      obtain ⟨_, _, _, _, i2, _, _, f2⟩ := id P2
      have lc := lcm_le2 f1.p1 f2.p1 pd1 pd2 L1
      walk_at "rq"
      refine ⟨md, kvm, k, rfl, rfl, rd_ex rt e8, ?_⟩
      rw [vb]
      walk_at "rq"
      walk_at "rq"
      refine ⟨td, kvt, k, _, rfl, rfl, .inr ⟨od, e8 _ _ fz⟩, va, ?_⟩
      walk_at "rq"
      refine ⟨_, _, _, rfl, i1, rfl, ?_⟩
      walk_at "rq"
      refine ⟨md, kvm, k, _, rfl, rfl, rd_ex rt e8, vb, ?_⟩
      walk_at "rq"
      refine ⟨(a1, a2, p1, p2, LF rows u k, LF rows (u + 1 + j) k), rfl, ⟨P1, P2, by omega⟩, ?_⟩
      rintro v H10 ⟨rfl, e10⟩
      rw [tv_true (show ∀ s, 0 ≤ s → LF rows u k s → LF rows (u + 1 + j) k s from fun s _ e => LF_more (by omega) e)]
      walk_at "rq"
      walk_at "rq"
      exact .of ⟨e8.trans e10, _, rfl⟩
    intro σ H8 hP
    obtain ⟨e8, o7, rfl⟩ := hP.out
    clear hP
    refine ⟨e8 _ _ fz, ?_⟩
    have eU := Ex.unlock (H' := H8) (by rw [hHL]; exact e8) B9.at_
    obtain ⟨H10, hH10⟩ : ∃ H10, upd H8 td (DO P w td kvt) = H10 := ⟨_, rfl⟩
    rw [hH10] at eU
    rw [show upd H8 td (DO P w td kvt) = H10 from hH10]
    have A10 := A9.ex eU
    have B10 := B9.ex eU
    have hd10 := hd9.ex eU
    have hx10 := hx9.ex eU
    have e010 := e09.trans eU.exc
    clear A9 B9 C9 hd9 hx9 e09 pB pC rt fz hHL eU
    have fullB := full_of B10
    have bln := B10.ln
    -- the sayings
    walk_at "rq"
    refine ⟨td, _, B10.at_, do_mut, fun od => ?_⟩
    walk_at "rq"
    refine ⟨_, _, _, rfl, upd_same, fun D nD => ?_⟩
    have fz := upd_same (H := H10) (a := td) (o := .frz od (DO P w td kvt))
    obtain ⟨HL, hHL⟩ : ∃ HL, upd H10 td (.frz od (DO P w td kvt)) = HL := ⟨_, rfl⟩
    rw [hHL] at fz nD ⊢
    refine lcE (walkO (d := td) (o := od) (kvs := kvt)) nD (by omega) (fun i => ((kvt[i]?).bind (say1 (LF rows u))).isSome) (fun i y H => ∃ kv p, kvt[i]? = some kv ∧ say1 (LF rows u) kv = some p ∧ ∃ q, y = V.ref q ∧ H q = some (.tup [.str p.1, .ref p.2.1]))
      (fun e ⟨kv, p, h1, h2, q, h3, h4⟩ => ⟨kv, p, h1, h2, q, h3, e _ _ h4⟩) (fun hD ⟨kv, p, h1, h2, q, h3, h4⟩ => ⟨kv, p, h1, h2, q, h3, upd_off h4 (ne_of h4 hD (fun z => nomatch z))⟩) (fun H e => e _ _ fz) ?_ ?_
    · rintro i y H11 H12 hi e11 ⟨rfl, k, v, hkv, rfl⟩ S Z' hS hZ
      cases k with
      | none =>
        walk_at "rq"
        exact hZ _ (Ex.refl _) (by rw [hkv]; rfl)
      | some z =>
        have km := List.mem_of_getElem? hkv
        obtain ⟨a1, p1, rfl, pd1, P1⟩ := B10.pat _ _ km
        walk_at "rq"
        refine ⟨td, kvt, some z, _, rfl, rfl, .inr ⟨od, e11 _ _ fz⟩, valV_mem B10.nd km, ?_⟩
        walk_at "rq"
        refine ⟨by walk_at "sz", fun q nq => ?_⟩
        exact hS _ _ ((Ex.refl _).new nq) (by rw [hkv]; rfl) ⟨_, _, hkv, rfl, q, rfl, upd_same⟩
    intro H11 ys e11 hD got
    obtain ⟨ps, rfl, hps⟩ := pair_ps (by
      have got2 := got_fm2 (F := fun (p : Say) y => ∃ q, y = V.ref q ∧ H11 q = some (.tup [.str p.1, .ref p.2.1])) kvt.length ys (Nat.le_refl _) got
      rw [List.take_length] at got2
      exact got2)
    refine ⟨e11 _ _ fz, ?_⟩
    have eU := Ex.unlock (H' := H11) (by rw [hHL]; exact e11) B10.at_
    have Dt : D ≠ td := (ne_of_none fz nD).symm
    have hD12 := upd_off (o' := DO P w td kvt) hD Dt
    have hps12 := paired_map (G := fun p (kv : Key × V) => SqT K (upd H11 td (DO P w td kvt)) p [kV kv.1, kv.2]) (fun p kv h => sqT (upd_off h (ne_of h (e11 _ _ fz) (fun z => nomatch z)))) hps
    obtain ⟨H12, hH12⟩ : ∃ H12, upd H11 td (DO P w td kvt) = H12 := ⟨_, rfl⟩
    rw [hH12] at eU hD12 hps12
    rw [show upd H11 td (DO P w td kvt) = H12 from hH12]
    obtain ⟨sy, hsy⟩ : ∃ sy, sayL (LF rows u) kvt = sy := ⟨_, rfl⟩
    rw [show kvt.filterMap (say1 (LF rows u)) = sy from hsy] at hps12
    have snd := sayL_nd (G := LF rows u) B10.nd
    have smem := fun p => sayL_mem (G := LF rows u) (kvs := kvt) (p := p)
    rw [hsy] at fullB snd
    simp only [hsy] at smem
    refine ⟨D, ps, syV sy, rfl, sqL hD12, hps12, fun s ns => ?_⟩
    rw [mergeK_new _ _ (by simpa using syV_nd snd), List.nil_append]
    have so := (hd10.ex eU).off ns
    have eS : Ex H10 (upd H12 s (.dK (syV sy))) := eU.new ns
    have A13 := A10.ex eS
    have B13 := B10.ex eS
    have hd13 := hd10.ex eS
    have hx13 := hx10.ex eS
    have e013 := e010.trans eS.exc
    have ns0 : H s = none := (e010.trans eU.exc).2 _ ns
    have say : SayAt Z L (upd H12 s (.dK (syV sy))) s sy := by
      refine ⟨upd_same, snd, ?_, fun p hp => ?_⟩
      · rw [← hsy]
        exact Nat.le_trans (List.length_filterMap_le _ _) bln
      · obtain ⟨h1, h2⟩ := smem p hp
        obtain ⟨x1, p1, e, pd1, P1⟩ := B13.pat _ _ h1
        cases e
        obtain ⟨s1, _, _, h3⟩ := (B13.keys (some p.1)).mp (List.mem_map.mpr ⟨_, h1, rfl⟩)
        exact ⟨word_of_led ro h3, p1, pd1, by rw [h2]; exact P1⟩
    obtain ⟨H13, hH13⟩ : ∃ H13, upd H12 s (.dK (syV sy)) = H13 := ⟨_, rfl⟩
    rw [hH13] at A13 B13 hd13 hx13 e013 say ⊢
    clear A10 B10 hd10 hx10 e010 hps hps12 got fz hHL eS eU
    have noneK : (¬ ∃ s, 0 ≤ s ∧ s ≤ 2 * L ∧ LF rows u none s) ↔ valV kvt none = none := by
      rw [← B13.keys none]
      constructor
      · exact valV_off
      · intro h m
        obtain ⟨a1, p1, e, _⟩ := B13.get m
        rw [h] at e
        cases e
    walk_at "rq"
    refine ⟨(x, u, s, rows, hs, sy), rfl, ⟨hx13, u0, by omega, by rw [hL]; exact hl, by rw [hL]; exact say⟩, ?_⟩
    rintro v H14 ⟨e14, mis⟩
    rw [hL, full_ok fullB, noneK] at mis
    have key : decide (v = V.non) = !(valV kvt none).isSome := by
      rcases mis with ⟨h, rfl⟩ | ⟨h, p, xs, rfl, _⟩
      · rw [h]; rfl
      · have h : ¬ valV kvt none = none := fun z => by
          obtain ⟨s1, h0, h1, h2⟩ := h
          exact h2 ((full_ok fullB).mpr (noneK.mpr z) s1 h0 h1)
        cases q : valV kvt none with
        | none => exact absurd q h
        | some _ => rfl
    walk_at "rq"
    refine ⟨td, kvt, none, rfl, rfl, .inl (e14 _ _ B13.at_), ?_⟩
    rw [key]
    walk_at "rq"
    refine ite0 (by simp) ?_
    have A14 := A13.ex e14
    have B14 := B13.ex e14
    have hd14 := hd13.ex e14
    have hx14 := hx13.ex e14
    have e014 := e013.trans e14.exc
    have say14 : SayAt Z L H14 s sy := ⟨e14 _ _ say.at_, say.nd, say.ln, fun p hp => by obtain ⟨a, q, b, c⟩ := say.pat p hp; exact ⟨a, q, b, c.ex e14⟩⟩
    clear A13 B13 hd13 hx13 e013 mis key say
    obtain ⟨ws, hws⟩ : ∃ ws, kvt.filterMap wordIs = ws := ⟨_, rfl⟩
    have wsl : ws.length ≤ 30 := by rw [← hws]; exact Nat.le_trans (List.length_filterMap_le _ _) bln
    have wsm : ∀ z ∈ ws, some z ∈ kvt.map Prod.fst := fun z hz => by
      rw [← hws] at hz
      obtain ⟨kv, h1, h2⟩ := List.mem_filterMap.mp hz
      exact List.mem_map.mpr ⟨kv, h1, h2⟩
    -- the words, first
    walk_at "rq"
    refine ⟨td, _, B14.at_, do_mut, fun od => ?_⟩
    walk_at "rq"
    refine ⟨_, _, _, rfl, upd_same, fun D2 nD2 => ?_⟩
    have fz := upd_same (H := H14) (a := td) (o := .frz od (DO P w td kvt))
    obtain ⟨HL, hHL⟩ : ∃ HL, upd H14 td (.frz od (DO P w td kvt)) = HL := ⟨_, rfl⟩
    rw [hHL] at fz nD2 ⊢
    refine lcE (walkO (d := td) (o := od) (kvs := kvt)) nD2 (by omega) (fun i => ((kvt[i]?).bind wordIs).isSome) (fun i y _ => ∃ kv b, kvt[i]? = some kv ∧ wordIs kv = some b ∧ y = V.str b) (fun _ r => r) (fun _ r => r) (fun H e => e _ _ fz) ?_ ?_
    · rintro i y H15 H16 hi e15 ⟨rfl, k, v, hkv, rfl⟩ S Z' hS hZ
      cases k with
      | none =>
        walk_at "rq"
        exact hZ _ (Ex.refl _) (by rw [hkv]; rfl)
      | some z =>
        walk_at "rq"
        exact hS _ _ (Ex.refl _) (by rw [hkv]; rfl) ⟨_, z, hkv, rfl, rfl⟩
    intro H15 ys e15 hD2 got
    have hz := got_filterMap (l := kvt) (g := wordIs) (h := V.str) kvt.length ys (Nat.le_refl _) got
    rw [List.take_length, hws] at hz
    subst hz
    refine ⟨e15 _ _ fz, ?_⟩
    have eU := Ex.unlock (H' := H15) (by rw [hHL]; exact e15) B14.at_
    have Dt : D2 ≠ td := (ne_of_none fz nD2).symm
    have hD16 := upd_off (o' := DO P w td kvt) hD2 Dt
    obtain ⟨H16, hH16⟩ : ∃ H16, upd H15 td (DO P w td kvt) = H16 := ⟨_, rfl⟩
    rw [hH16] at eU hD16
    rw [show upd H15 td (DO P w td kvt) = H16 from hH16]
    walk_at "rq"
    refine ⟨by walk_at "sz", fun q nq => ?_⟩
    refine ⟨_, .list [], dp_strs (upd_old hD16 nq), .lst (sqL upd_same) .nil, shaped_strs (fun z hz => ?_), by decide +kernel, ?_⟩
    · obtain ⟨s1, _, _, h3⟩ := (B14.keys (some z)).mp (wsm z hz)
      exact word_strOk (word_of_led ro h3)
    rw [eqv_strs]
    have eV : Ex H14 (upd H16 q (.lst [])) := eU.new nq
    have A17 := A14.ex eV
    have B17 := B14.ex eV
    have hd17 := hd14.ex eV
    have hx17 := hx14.ex eV
    have e017 := e014.trans eV.exc
    have say17 : SayAt Z L (upd H16 q (.lst [])) s sy := ⟨eV _ _ say14.at_, say14.nd, say14.ln, fun p hp => by obtain ⟨a, q, b, c⟩ := say14.pat p hp; exact ⟨a, q, b, c.ex eV⟩⟩
    obtain ⟨H17, hH17⟩ : ∃ H17, upd H16 q (.lst []) = H17 := ⟨_, rfl⟩
    rw [hH17] at A17 B17 hd17 hx17 e017 say17 ⊢
    clear A14 B14 hd14 hx14 e014 say14 fz hHL eV eU
    walk_at "rq"
    refine iteD (fun _ => ?_) (fun ne => ?_)
    · walk_at "rq"
      exact hq _ _ ⟨rfl, hd17, e017⟩
    -- the words, again
    walk_at "rq"
    refine ⟨td, _, B17.at_, do_mut, fun od => ?_⟩
    walk_at "rq"
    refine ⟨_, _, _, rfl, upd_same, fun D3 nD3 => ?_⟩
    have fz := upd_same (H := H17) (a := td) (o := .frz od (DO P w td kvt))
    obtain ⟨HL, hHL⟩ : ∃ HL, upd H17 td (.frz od (DO P w td kvt)) = HL := ⟨_, rfl⟩
    rw [hHL] at fz nD3 ⊢
    refine lcE (walkO (d := td) (o := od) (kvs := kvt)) nD3 (by omega) (fun i => ((kvt[i]?).bind wordIs).isSome) (fun i y _ => ∃ kv b, kvt[i]? = some kv ∧ wordIs kv = some b ∧ y = V.str b) (fun _ r => r) (fun _ r => r) (fun H e => e _ _ fz) ?_ ?_
    · rintro i y H15 H16 hi e15 ⟨rfl, k, v, hkv, rfl⟩ S Z' hS hZ
      cases k with
      | none =>
        walk_at "rq"
        exact hZ _ (Ex.refl _) (by rw [hkv]; rfl)
      | some z =>
        walk_at "rq"
        exact hS _ _ (Ex.refl _) (by rw [hkv]; rfl) ⟨_, z, hkv, rfl, rfl⟩
    intro H18 ys e18 hD3 got3
    have hz := got_filterMap (l := kvt) (g := wordIs) (h := V.str) kvt.length ys (Nat.le_refl _) got3
    rw [List.take_length, hws] at hz
    subst hz
    refine ⟨e18 _ _ fz, ?_⟩
    have eU := Ex.unlock (H' := H18) (by rw [hHL]; exact e18) B17.at_
    have Dt : D3 ≠ td := (ne_of_none fz nD3).symm
    have hD19 := upd_off (o' := DO P w td kvt) hD3 Dt
    obtain ⟨H19, hH19⟩ : ∃ H19, upd H18 td (DO P w td kvt) = H19 := ⟨_, rfl⟩
    rw [hH19] at eU hD19
    rw [show upd H18 td (DO P w td kvt) = H19 from hH19]
    have hd19 := hd17.ex eU
    have nD3' : H17 D3 = none := by
      rw [← hHL] at nD3
      exact upd_none nD3
    walk_at "rq"
    refine ⟨(d, l, .ref D3, ws.map .str), rfl, ⟨hd19, by simpa using ne, by rw [List.length_map]; omega, .inl ⟨D3, rfl, (hd17.off nD3').2.1, .inl hD19⟩⟩, ?_⟩
    rintro v H20 ⟨hv20, hd20, e20⟩
    obtain ⟨z, hz, rfl⟩ := List.mem_map.mp hv20
    have x20 := eU.exn.trans (e20.exn hd19)
    have A20 := A17.exn x20
    have B20 := B17.exn x20
    have hx20 := hx17.exn x20
    have e020 := (e017.trans eU.exc).trans e20
    have say20 : SayAt Z L H20 s sy := ⟨e20.1 _ _ so.1 so.2.1 (eU _ _ say17.at_), say17.nd, say17.ln, fun p hp => by obtain ⟨a, q, b, c⟩ := say17.pat p hp; exact ⟨a, q, b, c.exn x20⟩⟩
    clear A17 B17 hd17 hx17 e017 say17 fz hHL x20 hd19
    have zt := wsm z hz
    obtain ⟨a2, p2, vb, pd2, P2⟩ := B20.get zt
    obtain ⟨p0, hp0, ep0⟩ : ∃ p ∈ sy, p.1 = z := by
      obtain ⟨s1, h0, h1, h2⟩ := (B20.keys (some z)).mp zt
      exact fullB.2 z s1 h0 h1 h2
    have sm : z ∈ sy.map Prod.fst := List.mem_map.mpr ⟨p0, hp0, ep0⟩
    have pa2 : p0.2.1 = a2 := by
      have h1 := (smem p0 hp0).1
      rw [ep0] at h1
      have := valV_mem B20.nd h1
      rw [vb] at this
      cases this
      rfl
    have vs2 : valV (syV sy) (Sum.inr z) = some (.ref a2) := by
      have := syV_in say20.nd hp0
      rw [ep0, pa2] at this
      exact this
    have svl : (syV sy).length = sy.length := by unfold syV; rw [List.length_map]
    have sln := say20.ln
    obtain ⟨⟨ps2, f2⟩, dd2, fs2, i2⟩ := P2.form
    walk_at "rq"
    refine ⟨pd, kvp, some z, rfl, rfl, .inl A20.at_, ?_⟩
    by_cases zp : some z ∈ kvp.map Prod.fst
    · obtain ⟨a1, p1, va, pd1, P1⟩ := A20.get zp
      obtain ⟨⟨ps1, f1⟩, dd1, fs1, i1⟩ := P1.form
      have lc := lcm_le2 f2.p1 f1.p1 pd2 pd1 L1
      rw [va]
      walk_at "rq"
      walk_at "rq"
      refine ⟨_, _, rfl, Or.inl ⟨_, .inr z, .inl say20.at_, rfl, vs2.symm⟩, ?_⟩
      walk_at "rq"
      refine ⟨pd, kvp, some z, _, rfl, rfl, .inl A20.at_, va, ?_⟩
      walk_at "rq"
      refine ⟨_, _, _, _, _, _, rfl, rfl, i2, i1, (a2, a1, p2, p1, LF rows u (some z), fun s => outW rows s = some z), rfl, ⟨P2, P1, by omega⟩, ?_⟩
      rintro v H21 ⟨y, r, rfl, ny, e21, hr21, hy⟩
      have say21 : SayAt Z L H21 s sy := ⟨e21 _ _ say20.at_, say20.nd, say20.ln, fun p hp => by obtain ⟨a, q, b, c⟩ := say20.pat p hp; exact ⟨a, q, b, c.ex e21⟩⟩
      walk_at "rq"
      refine ⟨s, _, rfl, .inl ⟨_, Sum.inr z, say21.at_, rfl, szlt (by omega), rfl⟩, ?_⟩
      have say22 := say21.put sm (Int.dvd_trans hr21 lc.1) hy
      have hx22 := (hx20.ex e21).exn (exn_dK (o := .dK (putK (syV sy) (Sum.inr z) (.ref y))) say21.at_)
      have hd22 := (hd20.ex e21).upd (o := .dK (putK (syV sy) (Sum.inr z) (.ref y))) so
      have e022 := (e020.trans e21.exc).mut (o := .dK (putK (syV sy) (Sum.inr z) (.ref y))) ns0
      obtain ⟨H22, hH22⟩ : ∃ H22, upd H21 s (.dK (putK (syV sy) (Sum.inr z) (.ref y))) = H22 := ⟨_, rfl⟩
      rw [hH22] at say22 hx22 hd22 e022
      rw [show upd H21 s (.dK (putK (syV sy) (Sum.inr z) (.ref y))) = H22 from hH22]
      walk_at "rq"
      refine ⟨(x, u, s, rows, hs, _), rfl, ⟨hx22, u0, by omega, by rw [hL]; exact hl, by rw [hL]; exact say22⟩, ?_⟩
      rintro v H23 ⟨e23, mis⟩
      rw [hL] at mis
      obtain ⟨s1, h0, h1, h2⟩ := (A20.keys (some z)).mp zp
      have nok := not_ok (sy := sy) (z := y) (G := LF rows u (some z)) ro u0 h0 h1 h2
      rcases mis with ⟨h, rfl⟩ | ⟨_, p, xs, rfl, _⟩
      · exact absurd h nok
      · walk_at "rq"
        exact hq _ _ ⟨rfl, hd22.ex e23, e022.trans e23.exc⟩
    · rw [valV_off zp]
      walk_at "rq"
      walk_at "rq"
      refine ⟨_, _, rfl, Or.inl ⟨_, .inr z, .inl say20.at_, rfl, vs2.symm⟩, ?_⟩
      walk_at "rq"
      refine ⟨s, _, rfl, .inl ⟨_, Sum.inr z, say20.at_, rfl, szlt (by omega), rfl⟩, ?_⟩
      have say22 := say20.put sm pd2 P2
      have hx22 := hx20.exn (exn_dK (o := .dK (putK (syV sy) (Sum.inr z) (.ref a2))) say20.at_)
      have A22 := A20.exn (exn_dK (o := .dK (putK (syV sy) (Sum.inr z) (.ref a2))) say20.at_)
      have B22 := B20.exn (exn_dK (o := .dK (putK (syV sy) (Sum.inr z) (.ref a2))) say20.at_)
      have hd22 := hd20.upd (o := .dK (putK (syV sy) (Sum.inr z) (.ref a2))) so
      have e022 := e020.mut (o := .dK (putK (syV sy) (Sum.inr z) (.ref a2))) ns0
      obtain ⟨H22, hH22⟩ : ∃ H22, upd H20 s (.dK (putK (syV sy) (Sum.inr z) (.ref a2))) = H22 := ⟨_, rfl⟩
      rw [hH22] at say22 hx22 hd22 e022 A22 B22
      rw [show upd H20 s (.dK (putK (syV sy) (Sum.inr z) (.ref a2))) = H22 from hH22]
      walk_at "rq"
      refine ⟨(x, u, s, rows, hs, _), rfl, ⟨hx22, u0, by omega, by rw [hL]; exact hl, by rw [hL]; exact say22⟩, ?_⟩
      rintro v H23 ⟨e23, mis⟩
      rw [hL, full_ok (full_put fullB), noneK] at mis
      rcases mis with ⟨h, rfl⟩ | ⟨_, p, xs, rfl, _⟩
      · walk_at "rq"
        refine ⟨td, kvt, none, rfl, rfl, .inl (e23 _ _ B22.at_), ?_⟩
        rw [h]
        walk_at "rq"
        refine ⟨pd, kvp, some z, rfl, rfl, .inl (e23 _ _ A22.at_), ?_⟩
        rw [valV_off zp]
        exact hq _ _ ⟨rfl, hd22.ex e23, e022.trans e23.exc⟩
      · walk_at "rq"
        exact hq _ _ ⟨rfl, hd22.ex e23, e022.trans e23.exc⟩)
end
end Ff
end
section
set_option maxRecDepth 100000
set_option maxHeartbeats 4000000
/-! The law. -/
namespace Ff
open PySem PySem.Spec PyProof.Rows L2
local macro_rules | `(tactic| walk_at "ex") => `(tactic| first
  | exact Ex.refl _
  | with_reducible assumption
  | (refine Ex.new ?_ (by with_reducible assumption); walk_at "ex")
  | (refine Ex.mut ?_ (by walk_at "hn"); walk_at "ex")
  | (refine Ex.trans ?_ (by with_reducible assumption); walk_at "ex"))
local macro_rules | `(tactic| walk_at "hn") => `(tactic| first
  | with_reducible assumption
  | exact Ex.back (by with_reducible assumption) (by with_reducible assumption)
  | exact upd_none (by with_reducible assumption)
  | exact upd_none (upd_none (by with_reducible assumption))
  | exact Ex.back (by with_reducible assumption) (upd_none (by with_reducible assumption))
  | exact Ex.back (by with_reducible assumption) (Ex.back (by with_reducible assumption) (by with_reducible assumption)))
local macro_rules | `(tactic| walk_at "hp") => `(tactic| first
  | with_reducible assumption
  | with_reducible exact upd_same
  | (refine Ex.at (by with_reducible assumption) ?_; walk_at "ex")
  | (refine upd_old ?_ (by with_reducible assumption); walk_at "hp")
  | (refine upd_off ?_ (by with_reducible assumption); walk_at "hp"))
local macro_rules | `(tactic| walk_at "sd") => `(tactic| ((try dsimp only [CMul, CDiv, CPow]); first | exact True.intro | omega | (with_reducible assumption)))
local macro_rules | `(tactic| walk_at "sz") => `(tactic| exact Nat.le_of_ble_eq_true rfl)
local macro_rules | `(tactic| walk_at "is") => `(tactic| first
  | refine ⟨_, _, _, _, _, rfl, .ty _, .base (.int _), kt_int, ?_⟩
  | refine ⟨_, _, _, _, _, rfl, .ty _, .base (.int _), kt_intb, ?_⟩
  | refine ⟨_, _, _, _, _, rfl, .ty _, .base (.bl _), kt_bool, ?_⟩
  | refine ⟨_, _, _, _, _, rfl, .ty _, .base (.str _), kt_str, ?_⟩
  | refine ⟨_, _, _, _, _, rfl, .ty _, .base (.tup (by walk_at "hp")), kt_tup, ?_⟩
  | refine ⟨_, _, _, _, _, rfl, .ty _, .base (.dK (by walk_at "hp")), kt_dict, ?_⟩)
local macro_rules | `(tactic| walk_at "rd1") => `(tactic| first
  | refine ⟨_, rfl, ?_⟩
  | refine ⟨_, _, rfl, rfl, And.intro (by walk_at "sd") ?_⟩
  | refine ⟨_, _, rfl, rfl, ?_⟩
  | refine ⟨rfl, ?_⟩
  | refine ⟨_, _, _, _, rfl, rfl, sqT (by walk_at "hp"), rfl, ?_⟩
  | refine ⟨_, _, _, _, rfl, rfl, sqL (by walk_at "hp"), rfl, ?_⟩
  | refine ⟨_, _, rfl, sqT (by walk_at "hp"), rfl, ?_⟩
  | refine ⟨_, _, _, _, _, rfl, by walk_at "hp", by assumption, by assumption, rfl, ?_⟩
  | refine ⟨.inl ⟨rfl, _, sqL (by walk_at "hp")⟩, ?_⟩
  | refine ⟨_, _, rfl, .inl (sqL (by walk_at "hp")), ?_⟩
  | refine ⟨_, _, rfl, .inr (sqT (by walk_at "hp")), ?_⟩
  | refine ⟨(_, _), rfl, ?_⟩
  | refine ⟨(_, _, _), rfl, ?_⟩
  | refine ⟨(_, _, _, _), rfl, ?_⟩
  | refine ⟨_, _, rfl, ?_⟩
  | refine ⟨_, _, _, rfl, ?_⟩
  | walk_at "is")
local macro_rules | `(tactic| walk_at "rd") => `(tactic| repeat walk_at "rd1")

local macro_rules | `(tactic| walk_at "ib") => `(tactic| refine .inr ⟨_, rfl, ?_⟩)
local macro_rules | `(tactic| walk_at "ii") => `(tactic| refine .inl ⟨_, rfl, ?_⟩)
section
variable {P : Program} {w : World} {K : PySem.W.Frag} {mg : PySem.Str → Option Value} {base : Heap}
/-- a def's promise at its address -/
theorem okD {α : Type} {av : α → List V} {pre : α → Hp → Prop} {post : α → Hp → V → Hp → Prop} {x : PySem.Str} {st : Stmt} {N ps : List PySem.Str} {k : Nat} {f : Addr} {fd : FuncData} (F : C8.Fun K x x st f fd) (S : FnScope N ps (C8.fnScope st))
    (len : ∀ x, (av x).length = ps.length)
    (hbody : ∀ (cdv : Value) (f : Addr) (A : Around) (outer : List Env) (s : Shared) (H0 H : Hp) (Q : VK) (E : XK) (a : α), Room k (A.deeper (envOfC x (C8.fnScope st) s.heap.objs.size f cdv)) → pre a H → (∀ v H', post a H v H' → Q v H') →
      ∃ t, PSs (cxOf C8.CX0 P w K mg base N x (C8.fnScope st) f cdv A outer s H0 E).nox (C8.fnBody st) t ∧ t { nx := fun _ H' => Q .non H', rt := Q } (start N (av a)) H) : FnOk P w K mg base C8.CX0 (k + 1) f fd ps (mkSp av pre post) := by
  refine C8.fn0 F S (fun vs H Q E h => ?_) (fun cdv A outer s H vs Q E hr h => ?_)
  · obtain ⟨a, rfl, _⟩ := h
    exact len a
  · obtain ⟨a, rfl, hp, hq⟩ := h
    exact hbody cdv f A outer s H H Q E a hr hp hq
end
section
variable {P : Program} {w : World} {K : PySem.W.Frag} {mg : PySem.Str → Option Value} {base : Heap} {Z : Adr}
def sp_law (K : PySem.W.Frag) : Sp := mkSp (fun ((a, _) : Addr × List Int) => [.ref a]) (fun (a, cs) H => SqL K H a (cs.map .int) ∧ cs.length ≤ 63) (fun _ _ v _ => v = .bl true)
abbrev s_law : Stmt := top 110
theorem sc_law : FnScope ["_law_script", "_law_draw", "_law_turn"] ["_law_script"] (C8.fnScope s_law) := C8.fnScope_by (by decide +kernel)
theorem ok_law (T : Txt P w K mg base Z) {fl : Addr} {fd : FuncData} (F : C8.Fun K "law" "law" (top 110) fl fd) : FnOk P w K mg base C8.CX0 14 fl fd ["_law_script"] (sp_law K) :=
  okD F sc_law (fun _ => rfl) (fun cdv f A outer s H0 H Q E a hr pre hq => by
    have S := sc_law
    obtain ⟨a, cs⟩ := a
    obtain ⟨ha, cn⟩ := pre
    refine ⟨_, (pss_cons (ps_set (i := 1) S.nd rfl (Or.inl rfl) (C8.pe_c (c_law_begin T) hr (by decide) rfl (pa_cons (pv 0) pa_nil)))
  (pss_cons (ps_for PassesOwn.never rfl (pi_range1 (by rfl) T.n_range (pa_cons (pe_op op_add pe_int (pe_callB (call_min2 rfl) (by rfl) T.n_min (by decide +kernel) (pa_cons (pe_callB (lenS (K := K) rfl) (by rfl) T.n_len (by decide +kernel) (pa_cons (pv 0) pa_nil)) (pa_cons pe_int pa_nil)))) pa_nil)) (pg_name (i := 2) S.nd rfl (Or.inl rfl)) (pss_cons (ps_if (pt_not (pt_val (C8.pe_c (c_law_watch_right T) hr (by decide) rfl (pa_cons (pv 1) (pa_cons (C8.pe_c (c_law_halves T) hr (by decide) rfl (pa_cons (pv 1) (pa_cons pe_int (pa_cons pe_int pa_nil)))) pa_nil))))) (pss_one (ps_ret pe_bl)) pss_nil)
  (pss_one (ps_if (pt_not (pt_val (C8.pe_c (c_law_led_right T) hr (by decide) rfl (pa_cons (pv 1) (pa_cons (C8.pe_c (c_law_rows T) hr (by decide) rfl (pa_cons (pv 1) (pa_cons pe_int pa_nil))) pa_nil))))) (pss_one (ps_ret pe_bl)) pss_nil))))
  (pss_one (ps_ret pe_bl)))), ?_⟩
    walk_at "rd"
    refine ⟨(a, cs), rfl, ⟨ha, cn⟩, ?_⟩
    rintro v H1 ⟨d, l, rfl, hd1, e1⟩
    walk_at "rd"
    refine ⟨_, _, rfl, .inl (sqL_ex' e1 ha), ?_⟩
    walk_at "rd"
    rw [List.length_map]
    refine ⟨by split <;> omega, by split <;> omega, ?_⟩
    refine for_it walk_range (fun i σ H' => Hold (∃ o2 : Option V, σ = [some (.ref a), some (.ref d), o2] ∧ DrawAt H' d l)) (.of ⟨_, rfl, hd1⟩) (fun _ _ _ _ _ => trivial) ?_ ?_
    · rintro i y σ H2 H3 hi hP ⟨rfl, rfl⟩
      obtain ⟨o2, rfl, hd2⟩ := hP.out
      walk_at "rd"
      refine ⟨(d, l, 4, 240), rfl, ⟨hd2, by omega, by omega, by omega, by omega⟩, ?_⟩
      rintro v H4 ⟨p, n, ns, rfl, np, hp, nl, ok, hd4, e4⟩
      walk_at "rd"
      refine ⟨(d, l, p, n :: ns), rfl, ⟨hd4, hp, (hd2.off np).2.1, by simp, nl, ok⟩, ?_⟩
      rintro v H5 ⟨rfl, hd5, e5⟩
      walk_at "rd"
      try refine ite0 rfl ?_
      walk_at "rd"
      refine ⟨(d, l, 60), rfl, ⟨hd5, by omega, by omega⟩, ?_⟩
      rintro v H6 ⟨t, vs, rows, rfl, nt, ht, hr, ro, ⟨hvs, hok, hin⟩, hd6, e6⟩
      walk_at "rd"
      refine ⟨(d, l, t, vs, rows), rfl, ⟨hd6, ht, hr, ro, fun hs hh => ?_⟩, ?_⟩
      · have m1 := lcmL_ge (l := hvs) fun n hn => (hok.1 n hn).1
        have := lcmL_le (l := hs) (m := lcmL hvs) m1 (fun x hx => by
          obtain ⟨es, ts, hm⟩ := (hh.mem x).mp hx
          exact (hok.1 x (hin x es ts hm)).1) fun x hx => by
          obtain ⟨es, ts, hm⟩ := (hh.mem x).mp hx
          exact lcmL_dvd (hin x es ts hm)
        have := hok.2
        omega
      rintro v H7 ⟨rfl, hd7, e7⟩
      walk_at "rd"
      try refine ite0 rfl ?_
      walk_at "rd"
      exact .of ⟨_, rfl, hd7⟩
    · rintro σ H2 hP
      obtain ⟨o2, rfl, hd2⟩ := hP.out
      walk_at "rd"
      exact hq _ _ rfl)
end
end Ff
end
set_option maxRecDepth 100000
set_option maxHeartbeats 0
/-! The end. -/
namespace Ff
open PySem PySem.Spec PySem.W PyProof.Rows L2
abbrev lawD : DefRec := HandSHeadRun.topDef R.prog 110
theorem lawD_name : lawD.name = ("law" : PySem.Str) := by kernel_rfl
theorem law_of {P : Program} {w : World} {h : Heap} {mg : PySem.Str → Option Value} {fa : Addr} (Y : hkF.says w h) (G : h.Ns mainGlobals mg) (hmg : mg ("law" : PySem.Str) = some (.ref fa)) :
    ∃ (K : PySem.W.Frag) (fd : FuncData) (sp : Sp), K.In h ∧ (∀ (s : Shared) (u : Value), BindsTo s fd ⟨[u], []⟩ [("_law_script", u)]) ∧
      (∀ (H : Hp) (a : Addr) (ns : List Int), ns.length ≤ 63 → Only H → SqL K H a (ns.map V.int) → sp [.ref a] H (fun v _ => v = .bl true) fun _ _ _ => False) ∧
      ∀ base : Heap, K.In base → base.Ns mainGlobals mg → FnOk P w K mg base C8.CX0 14 fa fd ["_law_script"] sp := by
  obtain ⟨K, KX, c0⟩ := Y
  have c := says_of c0
  have T0 := txt_of (P := P) (base := h) KX G c
  obtain ⟨f, fd, D, df⟩ := T0.d_law
  have e := D.mgf
  rw [hmg] at e
  obtain rfl : fa = f := by cases e; rfl
  obtain ⟨oc, od, dV, kV, doc, pm, an, cdv, ct, osl, rfl, lk, hcd⟩ := D.fn.ex
  have e0 : dV = .none := df
  subst e0
  refine ⟨K, PySem.W.fnOf "law" "law" (C8.fnArgs (top 110)) (C8.fnBody (top 110)) (C8.fnScope (top 110)) .none kV doc pm an cdv ct, sp_law K, KX, fun s u => .of_eq rfl, fun H a ns hl _ hS => ⟨(a, ns), rfl, ⟨hS, hl⟩, fun v H' hv => hv⟩, fun base KB GB => ?_⟩
  exact ok_law (txt_of (P := P) (base := base) KX G c) D.fn
end Ff
open PySem PySem.W PySem.Calls PyProof.Rows
theorem PySem.Challenge.cw_flashfolds_k94_whole_hidden_speeds_holds : PySem.Challenge.rw_flashfolds_k94_whole_hidden_speeds.Holds := by
  w_on; o_law
  refine HandSHeadRun.head_any (r := OpenLaw.row PySem.Challenge.rw_flashfolds_k94_whole_hidden_speeds) (q := view (OpenLaw.row PySem.Challenge.rw_flashfolds_k94_whole_hidden_speeds).prog [110]) (H := Ff.hkF) (ob := Ff.obF) (M := 20000) (loose := Ff.names) (d := Ff.lawD) (kwd := []) Ff.obF_eq
    (by kernel_rfl) (fun s => by kernel_rfl) Ff.run (by kernel_rfl) (by kernel_rfl) (by kernel_rfl) (by rfl) (by first | assumption | decide +kernel) (by decide +kernel) ⟨rfl, rfl, rfl, rfl, rfl, by decide +kernel⟩ ?hw ?hc
  case hw => w_witness2
  case hc =>
    refine L2.walk_ofE (l := PySem.Challenge.rw_flashfolds_k94_whole_hidden_speeds) (n := 63) (k := 14) (x := "_law_script") (CX := C8.CX0) rfl (by decide) (by kernel_rfl) ⟨rfl, by decide, by decide⟩ ?F (fun _ _ _ _ z => z)
    intro w mg fa h Y G hmg
    rw [Ff.lawD_name] at hmg
    exact Ff.law_of Y G hmg
