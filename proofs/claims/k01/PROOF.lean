import PyProof.Rows.All
import HandS.ForMost
import HandS.More
import HandS.Style
import HandS.TupMul
import HandS.Zip
import HandS.Iter
import KE.KDictPairs
import HandS.TupAny
import PyProof.StrOps2
import KE.GoesEnum
import KE.KDictZip
import KE.KItemsList
import KE.GoesZip
import HandS.ListItems
import KE.GoesMore
import HandS.Lambda
import HandS.Nested
import HandS.Flow
import HandS.TupLe
import HandS.Defaults
import HandS.Exc
import HandS.ExcOwn
import HandS.ExcInit
import HandS.HeadHook2
import HandS.IsInst
import PyProof.ReprRoads
import HandS.DictComp
import HandS.CallLocal
import HandS.WordsDict
import HandS.Base
import HandS.Call
import KE.KExcInit
import HandS.Codes
import HandS.ExcValue
import HandS.ExcField
import HandS.ExcIs
import KE.KExcIs
import HandS.HeadWalk
import HandS.Conv
import HandS.HeadHook1
import HandS.HeadHook3
import HandS.HeadHook4
import KE.KNestM
import HandS.EndTab
import PySem.Challenge.RW_circlewatch_k01_errors
import KE.KStateDown
import HandS.Head0
import HandS.Head1
import HandS.Head2
import HandS.HeadEnd
import HandS.ExcCtx
import HandS.HotCalls
section
set_option Elab.async false
set_option linter.all false
set_option maxRecDepth 100000
set_option autoImplicit false
/-! more rules of the hand layer -/
namespace L2
open PySem PySem.Spec PyProof.Rows
/-! a tuple's display, the object known -/
def tXTup (t : TA) : TE := fun σ H Q => t σ H fun xs H1 => xs.length ≤ sizeLine ∧ ∀ (p : Addr) (o : Obj), H1 p = none → o.dict = none → Q (.ref p) (upd H1 p (.frz o (.tup xs)))
theorem pe_xtup {X : Cx} {es : List Expr} {t : TA} {k : Nat} {pos : Pos} (h : PA X es t) : PE X (.Tuple es k pos) (tXTup t) := by
  refine ⟨fun pins s σ H Q I hq => ?_⟩
  refine wpAny_Tuple_spliced (thn (h.run pos pins s σ H _ I hq) fun us s1 ⟨xs, H1, I1, r, z, q⟩ => ⟨by rw [← r.length]; exact z, ?_⟩)
  have hf : H1 s1.heap.objs.size = none := I1.hok.fresh (Nat.le_refl _)
  refine ⟨.ref s1.heap.objs.size, upd H1 s1.heap.objs.size (.frz { cls := .type "tuple", data := .seq us.toArray } (.tup xs)), I1.laid (t' := s1.toks) (fun b u e => Heap.get?_push_of_some _ e) (Nat.le_refl _) ?_, rfl, q _ _ hf rfl⟩
  exact ⟨Heap.get?_push_size _ rfl, z, us, r, ⟨_, Heap.get?_push_size _ rfl, rfl, _, rfl⟩⟩
/-! dict(a tuple of pairs), the tuple known -/
theorem raws_of {X : Cx} {pins : List (Addr × Obj)} {σ : St} {H : Hp} {s : Shared} (I : Inv X pins σ H s) : ∀ {ps : List Addr} {kvs : List (Key × V)}, Paired (fun p kv => SqT X.K H p [kV kv.1, kv.2]) ps kvs →
    ∃ (raws : List (Value × Value)) (prs : List (Key × Value)), KV kvs prs ∧ raws.length = ps.length ∧ prs.length = ps.length ∧ ∀ (j : Nat) (u y : Value), raws[j]? = some (u, y) → (∃ p, ps[j]? = some p ∧ IsTup s.heap p #[u, y]) ∧ ∃ k, prs[j]? = some (k, y) ∧ (mixKind X.prog X.w).is k u = true
  | _, _, .nil => ⟨[], [], .nil, rfl, rfl, fun j u y e => by simp at e⟩
  | _, _, .cons (a := p) (b := kv) h t => by
    obtain ⟨raws, prs, r, hl, hl2, hp⟩ := raws_of I t
    obtain ⟨its, rv, ht, _⟩ := I.tuple h
    obtain ⟨u, y, ei, ru, ry⟩ := vals2 rv
    subst ei
    refine ⟨(u, y) :: raws, (kv.1, y) :: prs, .cons ⟨rfl, ry⟩ r, by rw [List.length_cons, List.length_cons, hl], by rw [List.length_cons, List.length_cons, hl2], fun j u' y' e => ?_⟩
    cases j with
    | zero =>
      have e' : (u, y) = (u', y') := Option.some.inj e
      cases e'
      exact ⟨⟨p, rfl, ht⟩, kv.1, rfl, kV_is ru⟩
    | succ j =>
      obtain ⟨⟨b, e1, e2⟩, k, e3, e4⟩ := hp j u' y' (by simpa using e)
      exact ⟨⟨b, by simpa using e1, e2⟩, k, by simpa using e3, e4⟩
theorem call_dictX {X : Cx} (hcalm : X.calm = true) : CallR X (.type "dict") (fun xs H Q => ∃ (a : Addr) (o : Obj) (ps : List Addr) (kvs : List (Key × V)), xs = [.ref a] ∧ H a = some (.frz o (.tup (ps.map V.ref))) ∧ o.dict = none ∧ Paired (fun p kv => SqT X.K H p [kV kv.1, kv.2]) ps kvs ∧
    ∀ p, H p = none → Q (.ref p) (upd H p (.dK (mergeK [] kvs)))) := by
  intro pins s σ H xs us Q I r q
  obtain ⟨a, o, ps, kvs, ex, hq, hd, hp, q⟩ := q
  subst ex
  obtain ⟨u, eu, rx⟩ := vals1 r
  subst eu
  cases rx
  obtain ⟨ho, hz, its, rv, ⟨o', ho', hc, n, hdat⟩⟩ := (show ObjOk X.prog X.w H s.heap a (.frz o (.tup (ps.map V.ref))) from I.hok a _ hq)
  rw [ho] at ho'
  cases ho'
  have ei := refs_at rv
  subst ei
  rw [List.length_map] at hz
  obtain ⟨raws, prs, rel, hl, hl2, hpr⟩ := raws_of I hp
  have ok : PlainSeq "tuple" s.heap a (ps.map Value.ref).toArray ∧ PairItems s.heap (ps.map Value.ref).toArray (fun j => ps.getD j 0) raws := by
    refine ⟨⟨o, n, ho, hc, hd, hdat⟩, by simp [hl], fun j k v e => ?_⟩
    obtain ⟨⟨p, e1, e2⟩, _⟩ := hpr j k v e
    have e3 : ps.getD j 0 = p := by simp [List.getD, e1]
    dsimp only
    rw [e3]
    exact ⟨by simp [e1], .inl e2⟩
  refine PySem.call_dict_pairs (knd := mixKind X.prog X.w) (kvs := prs) (PairArg.tuple a (ps.map Value.ref).toArray (fun j => ps.getD j 0) raws) (I.ok.hd hcalm) ok ⟨by rw [hl, hl2], fun i key v e => (hpr i key v e).2⟩ (by rw [hl]; exact hz) fun h' tk hd' k => ?_
  have hm : (s.heap.objs.size == sysModules) = false := beq_eq_false_iff_ne.mpr (Nat.ne_of_gt I.big)
  have hlen : (mergeK [] kvs).length ≤ sizeLine := by
    refine Nat.le_trans (length_mergeK kvs []) ?_
    rw [List.length_nil, Nat.zero_add, rel.length, hl2]
    exact hz
  exact ⟨.ref s.heap.objs.size, upd H s.heap.objs.size (.dK (mergeK [] kvs)), I.laid (t' := tk) (fun b o e => k b o (by simp) e) (Nat.le_refl _) (show ObjOk X.prog X.w _ _ _ (.dK (mergeK [] kvs)) from ⟨hlen, hm, merged [] prs, KV.merge rel .nil, hd'⟩), rfl, q _ (I.hok.fresh (Nat.le_refl _))⟩
/-! d.get(text), d a dict of the written part -/
def tKget (K : PySem.W.Frag) (d : Addr) (te : TE) : TE := fun σ H Q => te σ H fun y H1 => ∃ z r, y = V.str z ∧ PySem.W.nsIn K d z = some r ∧ (r = none → Q .non H1) ∧ ∀ u, r = some u → ∃ v, RelV v u ∧ Q v H1
theorem pe_kget {X : Cx} {d : Addr} {es : Array DictEntry} {n : Nat} {o e : Expr} {te : TE} {apos cpos : Pos} (D : KDict X.K X.w d es n) (ho : PE X o (tC (.ref d))) (he : PE X e te)
    (hbase : attributeBase o "get" X.env (eval o X.env) = eval o X.env)
    (hfew : ((backTo cpos (starEach [e] X.env)).all (fun x => !x.1) && (backToKw cpos (keywordEach [] X.env)).all (fun x => x.1.isSome)
      && decide ([e].length + ([] : List Keyword).length + (if ([] : List Keyword).isEmpty then 0 else 1) < 30)) = true)
    (hline : (apos.endLine == cpos.line) = true) (hs : starEach [e] X.env = (false, eval e X.env) :: starEach [] X.env) : PE X (.Call (.Attribute o "get" apos) [e] [] cpos) (tKget X.K d te) := by
  refine ⟨fun pins s σ H Q I h => ?_⟩
  refine wpAny_Call_method_late hbase hfew hline rfl (thn (ho.run pins s σ H (fun x H1 => x = .ref d ∧ H1 = H) I ⟨rfl, rfl⟩) fun v s1 ⟨x, H1, I1, r1, ex, eH⟩ => ?_)
  subst ex eH
  obtain rfl : v = Value.ref d := r1
  refine ⟨"dict", "dict.get", PySem.F.plainAttrs_dict, PySem.F.slot_dict_get, PySem.F.type_dict_get, kd_type D I1, fun a e => ?_, ?_⟩
  · cases e
    exact ⟨_, I1.kIn _ _ D.at_, rfl⟩
  · rw [hs]
    refine Calls.callWith_builtin rfl (Calls.evalArgs_plain (Calls.spliced_cons (thn (he.run pins s1 σ H1 _ I1 h) fun iv s2 ⟨y, H2, I2, ry, z, r, ey, en, q1, q2⟩ => Calls.spliced_nil ?_)))
    subst ey
    obtain ⟨t, rfl⟩ := ry
    refine call_meetsIn PySem.F.slot_dict_get (kd_type D I2) PySem.F.entry_dict_get (PySem.F.args_dict_get_2 _ _) (meets_dict_get (PySem.strKind X.prog X.w) d (PySem.strKind_is X.prog X.w z t) D.low) ⟨_, PySem.W.mapOf_K (prog := X.prog) I2.kIn D.at_ D.lit, ?_⟩
    rw [PySem.W.find_K D.at_ en]
    cases r with
    | none => exact ⟨.non, H2, I2.tok _, rfl, q1 rfl⟩
    | some u =>
      obtain ⟨v, rv, q3⟩ := q2 u rfl
      exact ⟨v, H2, I2.tok _, rv, q3⟩
/-! f(e, .., k = v, ..) -/
def pmV {α : Type} (pm : List Nat) (us ws : List α) : List α := us ++ pm.filterMap fun j => ws[j]?
theorem Vals.pm {vs zs : List V} {us ws : List Value} (r : Vals vs us) (rz : Vals zs ws) : ∀ pm : List Nat, Vals (pmV pm vs zs) (pmV pm us ws) := fun pm => by
  refine r.append ?_
  induction pm with
  | nil => exact .nil
  | cons j pm ih =>
    rw [List.filterMap_cons, List.filterMap_cons]
    by_cases hj : j < zs.length
    · have e1 : zs[j]? = some zs[j] := List.getElem?_eq_getElem hj
      obtain ⟨u, hu, ru⟩ := rz.get e1
      rw [e1, hu]
      exact .cons ru ih
    · rw [List.getElem?_eq_none (by omega), List.getElem?_eq_none (by rw [← rz.length]; omega)]
      exact ih
section
variable {X : Cx} {CX : CXT} {k : Nat} {f : Addr} {fd : FuncData} {ps ks : List Str} {sp : Sp} {E : XK} {x : Str} {p pos : Pos} {e : Expr} {es : List Expr} {kws : List Keyword} {t tk : TA} {pm : List Nat} {m : Nat}
def tCallKN (m l : Nat) (pm : List Nat) (sp : Sp) (E : XK) (t tk : TA) : TE := fun σ H Q => t σ H fun vs H1 => tk σ H1 fun zs H2 => vs.length = m ∧ zs.length = l ∧ sp (pmV pm vs zs) H2 Q E
theorem run_fnKN {pins : List (Addr × Obj)} {σ : St} {H : Hp} {s : Shared} {Q : VK} {us ws : List Value} {vs zs : List V} (F : FnOk X.prog X.w X.K X.mg X.base CX k f fd ps sp) (hr : Room k X.A) (hb : ∀ (s : Shared) (us ws : List Value), us.length = m → ws.length = ks.length → BindsTo s fd ⟨us, ks.zip ws⟩ (ps.zip (pmV pm us ws))) (hx : Passes CX X E)
    (I : Inv X pins σ H s) (r : Vals vs us) (rz : Vals zs ws) (l1 : vs.length = m) (l2 : zs.length = ks.length) (h : sp (pmV pm vs zs) H Q E) : wpAny (model X.prog X.w) X.A (call (.ref f) us (ks.zip ws)) (EP X pins σ Q) X.xe s := by
  have r2 := r.pm rz pm
  refine wpAny_call (codeAny_mono (F.run X.A X.stack s H ⟨us, ks.zip ws⟩ (pmV pm us ws) (pmV pm vs zs) Q E hr I.env0 (hb s us ws (by rw [← r.length]; exact l1) (by rw [← rz.length]; exact l2)) r2 h) fun r s' hq => ?_)
  cases r with
  | error e => exact hx pins σ H s e s' I hq
  | ok fl =>
    cases fl with
    | ret u => exact I.after hq
    | next => exact False.elim hq
    | brk => exact False.elim hq
    | cont => exact False.elim hq
theorem pe_callKN (F : FnOk X.prog X.w X.K X.mg X.base CX k f fd ps sp) (hr : Room k X.A) (hg : Gl X x) (hm : X.mg x = some (.ref f)) (hk : PySem.W.keepIn X.K (.ref f) = true) (hb : ∀ (s : Shared) (us ws : List Value), us.length = m → ws.length = ks.length → BindsTo s fd ⟨us, ks.zip ws⟩ (ps.zip (pmV pm us ws))) (hx : Passes CX X E)
    (ha : PA X (e :: es) t) (hkw : PK X kws tk) (hall : (backToKw pos (keywordEach kws X.env)).all (·.1.isSome) = true) (hks : (backToKw pos (keywordEach kws X.env)).filterMap (·.1) = ks)
    (hdb : (x == ("__debug__" : Str)) = false) (he : starEach (e :: es) X.env = (false, eval e X.env) :: starEach es X.env)
    (hpl : ((backTo pos (starEach (e :: es) X.env)).any (·.1) || (backToKw pos (keywordEach kws X.env)).any (·.1.isNone)) = false) :
    PE X (.Call (.Name x p) (e :: es) kws pos) (tCallKN m ks.length pm sp E t tk) := by
  refine ⟨fun pins s σ H Q I h => ?_⟩
  refine wpAny_Call_Name_kw (ld_glob I hg hm ?_ hdb)
  refine PySem.W.callWith_KW (h₀ := X.base) I.ok.mod.kin hk hall (thn (ha.run pos pins s σ H _ I h) fun us s1 ⟨vs, H1, I1, r, q⟩ => ?_) hpl he
  refine thn (hkw.run pos pins s1 σ H1 _ I1 q) fun ws s2 ⟨zs, H2, I2, rz, l1, l2, q2⟩ => ⟨I2.kIn, ?_⟩
  rw [hks]
  exact run_fnKN F hr hb hx I2 r rz l1 l2 q2
theorem pe_callKN0 (F : FnOk X.prog X.w X.K X.mg X.base CX k f fd ps sp) (hr : Room k X.A) (hg : Gl X x) (hm : X.mg x = some (.ref f)) (hk : PySem.W.keepIn X.K (.ref f) = true) (hb : ∀ (s : Shared) (us ws : List Value), us.length = m → ws.length = ks.length → BindsTo s fd ⟨us, ks.zip ws⟩ (ps.zip (pmV pm us ws))) (hx : Passes CX X E)
    (hkw : PK X kws tk) (hall : (backToKw pos (keywordEach kws X.env)).all (·.1.isSome) = true) (hks : (backToKw pos (keywordEach kws X.env)).filterMap (·.1) = ks)
    (hdb : (x == ("__debug__" : Str)) = false) (hpl : ((backTo pos (starEach [] X.env)).any (·.1) || (backToKw pos (keywordEach kws X.env)).any (·.1.isNone)) = false) :
    PE X (.Call (.Name x p) [] kws pos) (tCallKN m ks.length pm sp E tNil tk) := by
  refine ⟨fun pins s σ H Q I h => ?_⟩
  refine wpAny_Call_Name_kw (ld_glob I hg hm ?_ hdb)
  refine PySem.W.callWith_KW0 (h₀ := X.base) I.ok.mod.kin hk hall ?_ hpl
  refine thn (hkw.run pos pins s σ H _ I h) fun ws s2 ⟨zs, H2, I2, rz, l1, l2, q2⟩ => ⟨I2.kIn, ?_⟩
  rw [hks]
  exact run_fnKN (us := []) (vs := []) F hr hb hx I2 .nil rz l1 l2 q2
end
end L2
end
section
set_option Elab.async false
set_option linter.all false
set_option maxRecDepth 100000
set_option autoImplicit false
set_option maxHeartbeats 4000000
/-! tuple * int, text * int, tuple[::-1] -/
namespace L2
open PySem PySem.Spec PyProof.Rows
theorem tuple_mulS (l : Addr) (items : Array Value) (n : Nat) (dd : Option Addr) (sl : Array (Option Value)) (x : Int) (u : Tok) (c0 : (decide (x < -(2 ^ 63)) || decide (x ≥ 2 ^ 63)) = false) (c1 : (items.isEmpty || x == 1) = true) :
    Meets (Builtin.«tuple.__mul__» ⟨[.ref l, .int x u], []⟩) (fun _ R s => s.heap.get? l = some { cls := .type "tuple", dict := dd, data := .seq items n, slots := sl } ∧ R (.ok (.ret (Value.ref l))) s) :=
  .of_wp fun prog w A R s h => by
    obtain ⟨hp, g, d, tk, os⟩ := s
    obtain ⟨hl, h⟩ := h
    have f1 := AutoSeq1.idx_int
    wp_walk using wpAny_loadPart' hl
    repeat (first
      | (refine wpAny_ite_false (decide_eq_false (by rw [c0]; exact Bool.false_ne_true)) ?_; wp_walk using wpAny_loadPart' hl)
      | (refine wpAny_ite_true (decide_eq_true (by rw [c1])) ?_; wp_walk using wpAny_loadPart' hl))
    exact ⟨_, rfl, h⟩
theorem tuple_mul0 (l : Addr) (items : Array Value) (n : Nat) (dd : Option Addr) (sl : Array (Option Value)) (x : Int) (u : Tok) (c0 : (decide (x < -(2 ^ 63)) || decide (x ≥ 2 ^ 63)) = false) (c1 : (items.isEmpty || x == 1) = false) (c2 : (decide (x ≤ 0) || items.isEmpty) = true) :
    Meets (Builtin.«tuple.__mul__» ⟨[.ref l, .int x u], []⟩) (fun _ R s => s.heap.get? l = some { cls := .type "tuple", dict := dd, data := .seq items n, slots := sl } ∧
      R (.ok (.ret (Value.ref s.heap.objs.size))) { s with heap := s.heap.push { cls := Value.type "tuple", data := Data.seq #[] }, toks := s.toks }) :=
  .of_wp fun prog w A R s h => by
    obtain ⟨hp, g, d, tk, os⟩ := s
    obtain ⟨hl, h⟩ := h
    have f1 := AutoSeq1.idx_int
    wp_walk using wpAny_loadPart' hl
    repeat (first
      | (refine wpAny_ite_false (decide_eq_false (by rw [c0]; exact Bool.false_ne_true)) ?_; wp_walk using wpAny_loadPart' hl)
      | (refine wpAny_ite_false (decide_eq_false (by rw [c1]; exact Bool.false_ne_true)) ?_; wp_walk using wpAny_loadPart' hl)
      | (refine wpAny_ite_true (decide_eq_true (by rw [c2])) ?_; wp_walk using wpAny_loadPart' hl))
    exact ⟨_, rfl, h⟩
/-- t * k, any k that fits -/
def rRepA (K : PySem.W.Frag) : R2 := fun x y H Q => ∃ l k xs, x = .ref l ∧ y = .int k ∧ SqT K H l xs ∧ -(2 ^ 62) ≤ k ∧ k ≤ 1000 ∧ xs.length ≤ 1000 ∧ ((xs = [] ∨ k = 1) → Q (.ref l) H) ∧ (¬ (xs = [] ∨ k = 1) → ∀ p, H p = none → Q (.ref p) (upd H p (.tup (List.replicate k.toNat xs).flatten)))
theorem op_repA {X : Cx} : OpR X (binaryOp .Mult) (rRepA X.K) := by
  intro pins s σ H x y v u Q I rx ry h
  obtain ⟨l, k, xs, rfl, rfl, hT, h1, h2, hz, q1, q2⟩ := h
  by_cases hs : 2 ≤ k ∧ xs ≠ []
  · exact op_repT pins s σ H _ _ v u Q I rx ry ⟨l, k, xs, rfl, rfl, hT, hs.2, hs.1, h2, hz, q2 (fun z => by rcases z with z | z; exact hs.2 z; omega)⟩
  cases rx
  obtain ⟨t, rfl⟩ := ry
  obtain ⟨its, r, ⟨⟨cls, dd, data, sl⟩, ho, hc, n, hd⟩, hsz⟩ := I.tuple hT
  simp only at hc hd
  subst hc hd
  have hle : its.length = xs.length := r.length.symm
  have hem : its.toArray.isEmpty = decide (xs = []) := by
    cases its with
    | nil =>
      have : xs = [] := List.eq_nil_of_length_eq_zero hle.symm
      simp [this]
    | cons a b =>
      have : xs ≠ [] := fun e => by rw [e] at hle; cases hle
      simp [this]
  have c0 : (decide (k < -(2 ^ 63)) || decide (k ≥ 2 ^ 63)) = false := by
    rw [decide_eq_false (by omega), decide_eq_false (by omega)] <;> rfl
  by_cases h0 : xs = [] ∨ k = 1
  · have c1 : (its.toArray.isEmpty || k == 1) = true := by
      rw [hem]
      rcases h0 with e | e
      · simp [e]
      · simp [e]
    refine wpAny_binaryOp_repeat_ref (T := "tuple") (U := "int") (by decide) ⟨_, ho, rfl⟩ (fun s' => typeIs_int s' k t) noFill_tuple_mul F.fills_int_mul F.slot_int_rmul repeat_tuple F.slot_int_index.lookup
      (call_meets F.slot_int_rmul (typeIs_int s k t) F.entry_int_rmul (F.args_int_rmul_2 _ _) (int_rmul_tuple k t l its.toArray n dd sl)
        ⟨ho, rfl, ⟨_, ho, rfl⟩, call_meets F.slot_tuple_mul ⟨_, ho, rfl⟩ F.entry_tuple_mul (F.args_tuple_mul_2 _ _) (tuple_mulS l its.toArray n dd sl k t c0 c1) ⟨ho, ?_⟩⟩)
    exact ⟨.ref l, H, I, rfl, q1 h0⟩
  · have hne : xs ≠ [] := fun e => h0 (.inl e)
    have hk1 : k ≠ 1 := fun e => h0 (.inr e)
    have hk : k ≤ 0 := by
      by_cases z : 2 ≤ k
      · exact absurd ⟨z, hne⟩ hs
      · omega
    have c1 : (its.toArray.isEmpty || k == 1) = false := by
      rw [hem, decide_eq_false hne, Bool.false_or]
      exact beq_eq_false_iff_ne.mpr hk1
    have c2 : (decide (k ≤ 0) || its.toArray.isEmpty) = true := by rw [decide_eq_true hk, Bool.true_or]
    have e0 : k.toNat = 0 := by omega
    have q3 := q2 h0
    rw [e0, List.replicate_zero, List.flatten_nil] at q3
    refine wpAny_binaryOp_repeat_ref (T := "tuple") (U := "int") (by decide) ⟨_, ho, rfl⟩ (fun s' => typeIs_int s' k t) noFill_tuple_mul F.fills_int_mul F.slot_int_rmul repeat_tuple F.slot_int_index.lookup
      (call_meets F.slot_int_rmul (typeIs_int s k t) F.entry_int_rmul (F.args_int_rmul_2 _ _) (int_rmul_tuple k t l its.toArray n dd sl)
        ⟨ho, rfl, ⟨_, ho, rfl⟩, call_meets F.slot_tuple_mul ⟨_, ho, rfl⟩ F.entry_tuple_mul (F.args_tuple_mul_2 _ _) (tuple_mul0 l its.toArray n dd sl k t c0 c1 c2) ⟨ho, ?_⟩⟩)
    refine ⟨.ref s.heap.objs.size, _, I.laid (t' := s.toks) (o := .tup []) (fun b ob q => Heap.get?_push_of_some _ q) (Nat.le_refl _) ?_, rfl, q3 _ (I.hok.fresh (Nat.le_refl _))⟩
    exact ⟨Nat.zero_le _, [], .nil, IsTup.new _ _⟩
/-- x * k, x a text -/
def strRep (x : Str) (k : Int) : Str := ⟨(List.replicate k.toNat x.cps).foldl (· ++ ·) #[]⟩
theorem strRep_len (x : Str) (k : Int) : (strRep x k).length = k.toNat * x.length := by
  have key : ∀ (n : Nat) (acc : Array Nat), ((List.replicate n x.cps).foldl (· ++ ·) acc).size = acc.size + n * x.cps.size := fun n => by
    induction n with
    | zero => intro acc; simp
    | succ n ih =>
      intro acc
      rw [List.replicate_succ, List.foldl_cons, ih, Array.size_append, Nat.succ_mul]
      omega
  show ((List.replicate k.toNat x.cps).foldl (· ++ ·) #[]).size = _
  rw [key]
  simp [Str.length]
theorem op_repS {X : Cx} : OpR X (binaryOp .Mult) (fun x y H Q => ∃ z k, x = V.str z ∧ y = .int k ∧ -(2 ^ 62) ≤ k ∧ k ≤ 1000 ∧ z.length ≤ 1000 ∧ Q (.str (strRep z k)) H) := by
  intro pins s σ H x y v u Q I rx ry h
  obtain ⟨z, k, rfl, rfl, h1, h2, hz, q⟩ := h
  obtain ⟨t, rfl⟩ := rx
  obtain ⟨t', rfl⟩ := ry
  have hm : ∀ (j : Int), 1 ≤ j → j ≤ 1000 → ((z.length : Nat) : Int) * j ≤ 1000000 := fun j j1 j2 => by
    have a1 : ((z.length : Nat) : Int) * j ≤ 1000 * j := Int.mul_le_mul_of_nonneg_right (by omega) (by omega)
    omega
  have hml : z.length * k.toNat ≤ 1000 * 1000 := Nat.mul_le_mul hz (by omega)
  refine P.mul_str (by rw [decide_eq_false (by omega), decide_eq_false (by omega)]; rfl) (fun hk _ => ?_) (fun hk _ => ?_) ?_
  · have h3 : ((z.length : Nat) : Int) ≤ (2 ^ 63 - 1) / k := Int.le_ediv_of_mul_le (by omega) (by have := hm k (by omega) h2; omega)
    omega
  · unfold Builtin.Str.tooLong
    rw [sizeLine_eq]
    exact decide_eq_false (by omega)
  · by_cases hk : k < 1
    · rw [if_pos hk]
      have e0 : k.toNat = 0 := by omega
      have e1 : strRep z k = Str.empty := by unfold strRep; rw [e0]; rfl
      refine ⟨by decide, .str (strRep z k), H, I.tok _, ⟨_, by rw [e1]⟩, q⟩
    · rw [if_neg hk]
      by_cases h1 : (k == 1 || z.length == 0) = true
      · rw [if_pos h1]
        have e1 : strRep z k = z := by
          unfold strRep
          rw [Bool.or_eq_true] at h1
          rcases h1 with e | e
          · have := eq_of_beq e
            subst this
            show Str.mk (#[] ++ z.cps) = z
            rw [Array.empty_append]
          · have e2 : z.cps = #[] := Array.eq_empty_of_size_eq_zero (eq_of_beq e)
            have e3 : ∀ n : Nat, (List.replicate n (#[] : Array Nat)).foldl (· ++ ·) #[] = #[] := fun n => by
              induction n with
              | zero => rfl
              | succ n ih => rw [List.replicate_succ, List.foldl_cons]; exact ih
            rw [e2, e3]
            cases z
            simp only at e2
            rw [e2]
        exact ⟨.str (strRep z k), H, I, ⟨_, by rw [e1]⟩, q⟩
      · rw [if_neg h1]
        refine ⟨?_, .str (strRep z k), H, I.tok _, ⟨_, rfl⟩, q⟩
        show (strRep z k).length ≤ sizeLine
        rw [strRep_len, sizeLine_eq]
        have : k.toNat * z.length ≤ 1000 * 1000 := Nat.mul_le_mul (by omega) hz
        omega
end L2
end
section
set_option Elab.async false
set_option linter.all false
set_option maxRecDepth 100000
set_option autoImplicit false
set_option maxHeartbeats 4000000
namespace HT
open PySem PySem.Spec PyProof.Rows L2
section
variable {prog : Program} {w : World} {A : Around} {E : Value → Shared → Prop} {s : Shared}
theorem adjust_rev (n : Nat) : Builtin.Slice.sliceAdjust none none (-1) (n : Int) = ((n : Int) - 1, -1) := by
  unfold Builtin.Slice.sliceAdjust
  simp
theorem places_rev (n : Nat) : Builtin.Slice.slicePlaces ((n : Int) - 1) (-1) (-1) = n := by
  unfold Builtin.Slice.slicePlaces
  have h1 : ¬ ((-1 : Int) > 0) := by omega
  simp only [h1, if_false]
  split
  · have : ((n : Int) - 1 - -1 - 1) / (- -1) + 1 = n := by
      rw [show (- -1 : Int) = 1 by decide, Int.ediv_one]; omega
    rw [this]; omega
  · omega
theorem sliceApplied_rev {sl : Addr} {t : Tok} {n : Nat} {Q : Int × Int × Nat → Shared → Prop} (hs : s.heap.IsSliceOf sl .none .none (.int (-1) t))
    (h : Q ((n : Int) - 1, -1, n) s) : wpAny (model prog w) A (Builtin.Slice.sliceApplied (.ref sl) (pure (n : Int))) Q E s := by
  obtain ⟨os, hos, hcs, hds⟩ := id hs
  unfold Builtin.Slice.sliceApplied Builtin.Slice.sliceFields
  refine wpAny_bind (wpAny_bind (wpAny_field hos hds (x := .none) rfl (wpAny_bind (wpAny_field hos hds (x := .none) rfl (wpAny_bind (wpAny_field hos hds (x := .int (-1) t) rfl (wpAny_pure ?_)))))))
  refine wpAny_bind (slicePart_int ?_)
  show wpAny _ _ (if ((-1 : Int) == 0) = true then _ else _) _ _ s
  rw [if_neg (by decide)]
  refine wpAny_bind (slicePart_none (wpAny_bind (slicePart_none (wpAny_bind (wpAny_pure ?_)))))
  show wpAny _ _ (match Builtin.Slice.sliceAdjust none none (-1) (n : Int) with | (lo, hi) => pure (lo, (-1 : Int), Builtin.Slice.slicePlaces lo hi (-1))) _ _ s
  rw [adjust_rev n]
  show wpAny _ _ (pure ((n : Int) - 1, (-1 : Int), Builtin.Slice.slicePlaces ((n : Int) - 1) (-1) (-1))) _ _ s
  rw [places_rev]
  exact wpAny_pure h
theorem pick_rev (xs : Array Value) : ((List.range xs.size).filterMap fun (m : Nat) => xs[(((xs.size : Int) - 1) + (m : Int) * (-1)).toNat]?).toArray = xs.toList.reverse.toArray := by
  congr 1
  have e : ∀ m ∈ List.range xs.size, xs[(((xs.size : Int) - 1) + (m : Int) * (-1)).toNat]? = xs.toList.reverse[m]? := fun m hm => by
    have hlt := List.mem_range.mp hm
    rw [List.getElem?_reverse (by simpa using hlt), Array.length_toList, Array.getElem?_toList]
    congr 1
    omega
  have e2 : ∀ (l : List Nat), (∀ m ∈ l, m ∈ List.range xs.size) → l.filterMap (fun (m : Nat) => xs[(((xs.size : Int) - 1) + (m : Int) * (-1)).toNat]?) = l.filterMap fun m => xs.toList.reverse[m]? := fun l => by
    induction l with
    | nil => intro _; rfl
    | cons x l ih =>
      intro h
      rw [List.filterMap_cons, List.filterMap_cons, e x (h x List.mem_cons_self), ih fun m hm => h m (List.mem_cons_of_mem _ hm)]
  rw [e2 _ fun _ h => h]
  have := PySem.W.krv_all xs.toList.reverse.toArray
  simpa using this
theorem getItem_tuple_rev {t sl : Addr} {items : Array Value} {tk : Tok} {Q : Value → Shared → Prop} (ht : IsTup s.heap t items) (hs : s.heap.IsSliceOf sl .none .none (.int (-1) tk))
    (h : Q (.ref s.heap.objs.size) { s with heap := s.heap.push { cls := .type "tuple", data := .seq items.toList.reverse.toArray } }) (hsz : items.size ≤ sizeLine) : wpAny (model prog w) A (getItem (.ref t) (.ref sl)) Q E s := by
  have htake : sizeOk (.seq items.toList.reverse.toArray) := by
    show items.toList.reverse.toArray.size ≤ sizeLine
    simpa using hsz
  obtain ⟨os, hos, hcs, hds⟩ := id hs
  have hTs : s.TypeIs (.ref sl) "slice" := ⟨os, hos, hcs⟩
  unfold getItem
  try with_reducible refine wpAny_holding ?_
  first | refine wpAny_bind (wpAny_pure ?_) | skip
  refine wpAny_bind (wpAny_sequenceKey ht.typeIs (by decide) ?_)
  refine wpAny_bind (wpAny_callSpecial?_slot (name := Str.ofString "__getitem__") ht.typeIs PyProof.Rows.slot_tuple_getitem
    (wpAny_call_entry PyProof.Rows.slot_tuple_getitem ht.typeIs entry_tuple_getitem ?_ (args_tuple_getitem _ _)))
  show wpAny _ _ (Builtin.Tuple.tupleItemsOf (.ref t) >>= _) _ _ s
  refine wpAny_bind (tupleItemsOf_ ht ?_)
  refine wpAny_bind (wpAny_typeOf hTs ?_)
  rw [if_pos (by decide)]
  refine wpAny_bind (sliceApplied_rev hs ?_)
  show wpAny _ _ (if (((items.size : Nat) : Int) - 1 == 0 && (-1 : Int) == 1 && items.size == items.size) = true then _ else _) _ _ s
  rw [if_neg (by simp), pick_rev]
  first
    | exact wpAny_bind (m := Builtin.Tuple.tupleExact _) (wpAny_newObj_type (wpAny_pure ⟨_, rfl, wpAny_pure h⟩) htake)
    | exact wpAny_bind (m := Builtin.Tuple.tupleExact _) (wpAny_newObj_type (wpAny_bind (wpAny_pure (wpAny_pure ⟨_, rfl, wpAny_pure h⟩))) htake)
    | exact wpAny_bind (wpAny_bind (m := Builtin.Tuple.tupleExact _) (wpAny_newObj_type (wpAny_pure (wpAny_pure ⟨_, rfl, wpAny_pure h⟩)) htake))
    | exact wpAny_bind (wpAny_bind (m := Builtin.Tuple.tupleExact _) (wpAny_newObj_type (wpAny_pure ⟨_, rfl, wpAny_pure h⟩) htake))
end
end HT
namespace L2
open PySem PySem.Spec PyProof.Rows
def tRevA (K : PySem.W.Frag) (te : TE) : TE := fun σ H Q => te σ H fun x H1 => ∃ a xs, x = .ref a ∧ ((SqL K H1 a xs ∧ ∀ p, H1 p = none → Q (.ref p) (upd H1 p (.lst xs.reverse))) ∨ (SqT K H1 a xs ∧ ∀ p, H1 p = none → Q (.ref p) (upd H1 p (.tup xs.reverse))))
theorem pe_revA {X : Cx} {e : Expr} {te : TE} {k : Nat} {p1 p2 p3 pos : Pos} (he : PE X e te) : PE X (.Subscript e (.Slice none none (some (.UnaryOp .USub (.Constant (.int 1) k p1) p2)) p3) pos) (tRevA X.K te) := by
  refine ⟨fun pins s σ H Q I h => ?_⟩
  refine Subscript_ (thn (he.run pins s σ H _ I h) fun v s1 ⟨x, H1, I1, r1, q1⟩ => ?_)
  obtain ⟨a, xs, ex, q⟩ := q1
  subst ex
  cases r1
  have hst : PO X (some (.UnaryOp .USub (.Constant (.int 1) k p1) p2)) (tPart (tUn (rU fun i => .int (-i)) (tC (.int 1)))) := po_some (pe_un un_neg pe_int)
  refine wpAny_Slice (thn (po_none.run pins s1 σ H1 (fun o H2 => o = none ∧ H2 = H1) I1 ⟨rfl, rfl⟩) fun vl s2 ⟨l, H2, I2, pl, el, e2⟩ => ?_)
  subst el e2
  refine thn (po_none.run pins s2 σ H2 (fun o H3 => o = none ∧ H3 = H2) I2 ⟨rfl, rfl⟩) fun vu s3 ⟨u, H3, I3, pu, eu, e3⟩ => ?_
  subst eu e3
  refine thn (hst.run pins s3 σ H3 (fun o H4 => o = some (-1) ∧ H4 = H3) I3 ⟨1, rfl, -1, rfl, rfl, rfl⟩) fun vs s4 ⟨o, H4, I4, ps, eo, e4⟩ => ?_
  subst eo e4
  have I5 : Inv X pins σ H4 { s4 with heap := s4.heap.push { cls := .type "slice", data := .fields #[vl, vu, vs] } } := I4.kept (t' := s4.toks) fun b ob q => Heap.get?_push_of_some _ q
  rcases q with ⟨hx, q⟩ | ⟨hx, q⟩
  · obtain ⟨its, r, ht, hz⟩ := I5.list hx
    have hlen := r.length
    show wpAny (model X.prog X.w) X.A (subscriptTail e (.Slice none none (some (.UnaryOp .USub (.Constant (.int 1) k p1) p2)) p3) (.ref a) (.ref s4.heap.objs.size)) (EP X pins σ Q) X.xe { s4 with heap := s4.heap.push { cls := .type "slice", data := .fields #[vl, vu, vs] } }
    refine tail_any (ops := [.ref a, .ref s4.heap.objs.size]) ht.isList.typeIs (PySem.slot_list_getitem.lookup) ?_ (by with_unfolding_all rfl)
    refine wpAny_getItem_list_slice ht.isList (Heap.IsSliceOf.new _ vl vu vs) pl pu ps (by decide) ?_ (by rw [List.size_toArray]; omega)
    rw [PySem.W.krv_pick]
    refine ⟨.ref _, _, I5.laid (t' := s4.toks) (o := .lst xs.reverse) (fun b ob q => Heap.get?_push_of_some _ q) (Nat.le_refl _) ?_, rfl, q _ (I5.hok.fresh (Nat.le_refl _))⟩
    exact ⟨by rw [List.length_reverse]; exact hz, _, 0, r.reverse, Heap.get?_push_size _ rfl⟩
  · obtain ⟨its, r, ht, hz⟩ := I5.tuple hx
    have hlen := r.length
    cases pl
    cases pu
    cases ps with
    | int i t =>
      show wpAny (model X.prog X.w) X.A (subscriptTail e (.Slice none none (some (.UnaryOp .USub (.Constant (.int 1) k p1) p2)) p3) (.ref a) (.ref s4.heap.objs.size)) (EP X pins σ Q) X.xe { s4 with heap := s4.heap.push { cls := .type "slice", data := .fields #[.none, .none, .int (-1) t] } }
      refine tail_any (ops := [.ref a, .ref s4.heap.objs.size]) ht.typeIs (PyProof.Rows.slot_tuple_getitem.lookup) ?_ (by with_unfolding_all rfl)
      refine HT.getItem_tuple_rev ht (Heap.IsSliceOf.new _ _ _ _) ?_ (by rw [List.size_toArray]; omega)
      refine ⟨.ref _, _, I5.laid (t' := s4.toks) (o := .tup xs.reverse) (fun b ob q => Heap.get?_push_of_some _ q) (Nat.le_refl _) ?_, rfl, q _ (I5.hok.fresh (Nat.le_refl _))⟩
      exact ⟨by rw [List.length_reverse]; exact hz, its.reverse, r.reverse, IsTup.new _ _⟩
end L2
end
section
set_option Elab.async false
set_option linter.all false
set_option maxRecDepth 100000
set_option autoImplicit false
set_option maxHeartbeats 4000000
namespace PySem
open Sem (wp)
theorem meets_enumerate_newB1 {v : Value} {o : Obj} {H : Heap → Prop} (B : Begins v o H) :
    Meets (Builtin.«enumerate.__new__» ⟨[.type "enumerate", v], []⟩) (fun _ R s => H s.heap ∧
      R (.ok (.ret (.ref (s.heap.push o).objs.size))) { s with heap := (s.heap.push o).push { cls := .type "enumerate", data := .fields #[.none, .bool false, .ref s.heap.objs.size, rawInt 0, .none, .none] } }) :=
  .of_wp fun prog w A R s h => by
    obtain ⟨hp, g, d, tk, os⟩ := s; obtain ⟨h1, h⟩ := h
    have hsub := sub_enumerate
    have q1 : ∀ {A' : Around} {E : Value → Shared → Prop} {Q : Value → Shared → Prop}, Q (.ref hp.objs.size) ⟨hp.push o, g, d, tk, os⟩ → wpAny (model prog w) A' (pyIter v) Q E ⟨hp, g, d, tk, os⟩ :=
      fun q => B.iter prog w _ _ ⟨hp, g, d, tk, os⟩ _ h1 q
    wp_walk using q1
    refine wpAny_stack_any fun st => wpAny_pure ?_
    split
    · rename_i c _ _ _ _ _
      cases (c == Value.type "enumerate")
      · wp_walk using q1
        exact ⟨_, rfl, h⟩
      · wp_walk using q1
        exact ⟨_, rfl, h⟩
    · wp_walk using q1
      exact ⟨_, rfl, h⟩
section
variable {prog : Program} {w : World} {A : Around} {E : Value → Shared → Prop} {s : Shared}
theorem enum_begins1 {v : Value} {o : Obj} {H : Heap → Prop} {Q : Value → Shared → Prop} (B : Begins v o H) (h1 : H s.heap)
    (h : ∀ h', IsEnum h' (s.heap.objs.size + 1) s.heap.objs.size 0 .none → h'.get? s.heap.objs.size = some o → h'.objs.size = s.heap.objs.size + 2 →
      (∀ b o, s.heap.get? b = some o → h'.get? b = some o) → Q (.ref (s.heap.objs.size + 1)) { s with heap := h' }) :
    wpAny (model prog w) A (call (.type "enumerate") [v]) Q E s := by
  refine callType_new F.called_enumerate (by decide) (F.typeCall_enumerate_1 _) (F.newCall_enumerate_1 _) (fun obj => F.args_object_init_2 obj _) F.entry_enumerate_new
    (meets_enumerate_newB1 B) ⟨h1, ?_⟩
  have hz : (s.heap.push o).objs.size = s.heap.objs.size + 1 := Heap.size_push ..
  show _ ∧ _
  rw [hz]
  have he : IsEnum ((s.heap.push o).push { cls := .type "enumerate", data := .fields #[.none, .bool false, .ref s.heap.objs.size, rawInt 0, .none, .none] }) (s.heap.objs.size + 1) s.heap.objs.size 0 .none := by
    have := Heap.get?_push_size (s.heap.push o) (o := { cls := .type "enumerate", data := .fields #[.none, .bool false, .ref s.heap.objs.size, rawInt 0, .none, .none] }) rfl
    rw [hz] at this; exact this
  refine ⟨⟨_, he, rfl⟩, h _ he (Heap.get?_push_of_some _ (Heap.get?_push_size _ B.free)) (by rw [Heap.size_push, hz]) fun b o x => Heap.get?_push_of_some _ (Heap.get?_push_of_some _ x)⟩
end
end PySem
namespace L2
open PySem PySem.Spec PyProof.Rows
def Itet (K : PySem.W.Frag) (a : Addr) : It :=
  ⟨fun i H => ∃ (xs : List V) (x : V), SqT K H a xs ∧ xs[i]? = some x, fun i H v H' => ∃ T x, v = .ref T ∧ H T = none ∧ H' = upd H T (.tup [.int (i : Nat), x]) ∧ ∀ xs, SqT K H a xs → xs[i]? = some x, fun i H => ∃ xs : List V, SqT K H a xs ∧ xs.length = i⟩
theorem turn_enumT {P : Program} {w : World} {K : PySem.W.Frag} {elts : List Expr} {kk : Nat} {tpos : Pos} (a e it : Addr) :
    Turn P w K (.Tuple elts kk tpos) (Itet K a) [e, it] e (fun i h => (∃ old, IsEnum h e it ((i : Nat) : Int) old) ∧ h.IsTupleIter it a i ∧ e ≠ it ∧ a ≠ it ∧ e ≠ a) where
  mem := by simp
  obj := fun i h st b hb => by
    obtain ⟨⟨old, he⟩, ⟨o, ho, hc, hd⟩, _⟩ := st
    have e' : b = e ∨ b = it := by simpa using hb
    rcases e' with z | z
    · rw [z]; exact ⟨_, he, fun v q => nomatch q⟩
    · rw [z]; exact ⟨o, ho, fun v q => by rw [hd] at q; cases q⟩
  keep := fun i h h' st k => let ⟨⟨old, he⟩, hi, hne⟩ := st; ⟨⟨old, k e (by simp) _ he⟩, hi.at fun o q => k it (by simp) o q, hne⟩
  item := by
    intro X hP hw hK hc i pins s σ H E I hf st hg
    subst hP hw hK
    obtain ⟨⟨old, he⟩, hit, hne, hai, hea⟩ := st
    obtain ⟨xs, x, hq, hx⟩ := hg
    obtain ⟨its, rv, p, hz⟩ := I.tuple hq
    obtain ⟨u, hu, ru⟩ := rv.get hx
    have hel : e < s.heap.objs.size := Heap.lt_size he
    have hil : it < s.heap.objs.size := by obtain ⟨_, q, _⟩ := hit; exact Heap.lt_size q
    have hlt : i < its.length := (List.getElem?_eq_some_iff.mp hu).1
    have hin : e ∉ [it, a] := by simp [hne, hea]
    have D := Draws.tuple (prog := X.prog) (w := X.w) (A := X.A.in1) (I.ok.hd hc) it a hai its.toArray
    refine wpAny_pyNext_enum_itemD D he ⟨hit, p⟩ (by simpa using hlt) hne hin fun x' h' tk hPx ho hst' hT hsz hk => ?_
    obtain rfl : x' = u := by
      have e1 : its[i]? = some x' := by simpa using hPx
      rw [hu] at e1
      exact (Option.some.inj e1).symm
    refine ⟨_, rfl, wpAny_letOwnedTupleGo_enum (s := { s with heap := h', toks := tk + 1 }) ho fun h'' he' sb => ?_⟩
    have hT2 : h''.get? s.heap.objs.size = some { cls := .type "tuple", data := .seq #[.int i tk, x'] } := (sb.2 _ (Nat.ne_of_gt hel)).trans hT
    have new : ObjOk X.prog X.w (upd H s.heap.objs.size (.tup [.int (i : Nat), x])) h'' s.heap.objs.size (.tup [.int (i : Nat), x]) :=
      ⟨by show 2 ≤ sizeLine; decide, [.int i tk, x'], .cons ⟨_, rfl⟩ (.cons ru .nil), ⟨_, hT2, rfl, _, rfl⟩⟩
    have I1 : Inv X pins σ (upd H s.heap.objs.size (.tup [.int (i : Nat), x])) { s with heap := h'', toks := tk + 1 } :=
      I.turnedNew (ch := [e, it]) (fun b ob hb q => (sb.2 b (fun z => hb (by simp [z]))).trans (hk b ob (fun z => hb (by simp [z])) (fun z => hb (by simp [z])) q)) hf (Nat.le_refl _) new
    refine ⟨.ref s.heap.objs.size, _, I1, rfl, ⟨_, x, rfl, I.hok.fresh (Nat.le_refl _), rfl, fun ys hy => by rw [I.tuple_inj hy hq]; exact hx⟩, ⟨⟨x', ?_⟩, hst'.1.at fun o q => (sb.2 it (Ne.symm hne)).trans q, hne, hai, hea⟩, fun b hb => ?_⟩
    · have e1 : ((i + 1 : Nat) : Int) = (i : Int) + 1 := by omega
      rw [e1]; exact he'
    · have hb' : b < s.heap.objs.size := by
        have e' : b = e ∨ b = it := by simpa using hb
        rcases e' with z | z
        · rw [z]; exact hel
        · rw [z]; exact hil
      rw [upd_ne (Nat.ne_of_lt hb')]
      exact (hf b hb).1
  done := by
    intro X hP hw hK hc i pins s σ H E I hf st hg
    subst hP hw hK
    obtain ⟨⟨old, he⟩, hit, hne, hai, hea⟩ := st
    obtain ⟨xs, hq, hx⟩ := hg
    obtain ⟨its, rv, p, hz⟩ := I.tuple hq
    obtain ⟨f0, f1, f2, f3, f4, f5⟩ := hf it (by simp)
    have hl := rv.length
    have D := Draws.tuple (prog := X.prog) (w := X.w) (A := X.A.in1) (I.ok.hd hc) it a hai its.toArray
    have ei : i = its.toArray.size := by simp; omega
    exact wpAny_pyNext_enum_endD D he ⟨by rw [← ei]; exact hit, p⟩ fun h' eb => ⟨rfl, I.turned (t' := s.toks) (fun b o hb q => eb b o hb q) f0 f1 f3 f4 f5⟩
  self := fun A i s Q E st h => let ⟨⟨_, he⟩, _⟩ := st; wpAny_pyIter_enum he h
def iEnumA (K : PySem.W.Frag) (ta : TA) : TI := fun σ H R => ta σ H fun vs H1 => ∃ a, vs = [.ref a] ∧ (((∃ xs, SqL K H1 a xs) ∧ R (Ite K a) H1) ∨ ((∃ xs, SqT K H1 a xs) ∧ R (Itet K a) H1))
theorem pi_enumA {X : Cx} {e : Expr} {ta : TA} {p pos tpos : Pos} {elts : List Expr} {kk : Nat} (hg : Gl X "enumerate") (hm : X.mg "enumerate" = none) (ha : PA X [e] ta) (hs : starEach [e] X.env = [(false, eval e X.env)]) :
    PI X (.Tuple elts kk tpos) (.Call (.Name "enumerate" p) [e] [] pos) (iEnumA X.K ta) := by
  refine ⟨fun pins s σ H R I h => ?_⟩
  refine Call_ (ld_blt I hg hm boot_enumerate (PyProof.Rows.callWith_type1 (thn (ha.run pos pins s σ H _ I h) fun us s1 ⟨vs, H1, I1, r1, q1⟩ => ?_) hs rfl))
  obtain ⟨a, ex, q1⟩ := q1
  subst ex
  cases r1 with
  | cons r rr =>
    cases rr
    cases r
    rcases q1 with ⟨⟨xs, hq⟩, q⟩ | ⟨⟨xs, hq⟩, q⟩
    · obtain ⟨its, rv, p', hz⟩ := I1.list hq
      refine call_enumerate_list p'.isList fun h' he hit hsz hk => wpAny_pyIter_enum he ?_
      have I2 : Inv X pins σ H1 { s1 with heap := h' } := I1.kept (t' := s1.toks) hk
      refine ⟨s1.heap.objs.size + 1, [s1.heap.objs.size + 1, s1.heap.objs.size], _, _, H1, rfl, I2, turn_enum a (s1.heap.objs.size + 1) s1.heap.objs.size, ⟨⟨.none, he⟩, hit, Nat.succ_ne_self _⟩, fun b hb => ?_, q⟩
      have e' : b = s1.heap.objs.size + 1 ∨ b = s1.heap.objs.size := by simpa using hb
      have hle : s1.heap.objs.size ≤ b := by
        rcases e' with z | z
        · rw [z]; exact Nat.le_succ _
        · rw [z]; exact Nat.le_refl _
      have f := I1.fpOk (H' := H1) hle (I1.hok.fresh hle)
      exact f
    · obtain ⟨its, rv, p', hz⟩ := I1.tuple hq
      have B := begins_tuple a its.toArray
      refine enum_begins1 B (show s1.heap.IsTuple a its.toArray from p') fun h' he hit hsz hk => wpAny_pyIter_enum he ?_
      have I2 : Inv X pins σ H1 { s1 with heap := h' } := I1.kept (t' := s1.toks) hk
      have hal : a < s1.heap.objs.size := p'.lt
      refine ⟨s1.heap.objs.size + 1, [s1.heap.objs.size + 1, s1.heap.objs.size], _, _, H1, rfl, I2, turn_enumT a (s1.heap.objs.size + 1) s1.heap.objs.size, ⟨⟨.none, he⟩, ⟨_, hit, rfl, rfl⟩, Nat.succ_ne_self _, Nat.ne_of_lt hal, Nat.ne_of_gt (Nat.lt_succ_of_lt hal)⟩, fun b hb => ?_, q⟩
      have e' : b = s1.heap.objs.size + 1 ∨ b = s1.heap.objs.size := by simpa using hb
      have hle : s1.heap.objs.size ≤ b := by
        rcases e' with z | z
        · rw [z]; exact Nat.le_succ _
        · rw [z]; exact Nat.le_refl _
      exact I1.fpOk (H' := H1) hle (I1.hok.fresh hle)
end L2
end
section
set_option Elab.async false
set_option linter.all false
set_option maxRecDepth 100000
set_option autoImplicit false
set_option maxHeartbeats 4000000
/-! list(zip(a, b)) -/
namespace PySem
open Sem (wp)
section
variable {prog : Program} {w : World} {A : Around} {E : Value → Shared → Prop} {s : Shared} {z TI TO T i1 i2 : Addr} {f : Bool} {oT : Obj} {fp1 fp2 : List Addr} {n1 n2 i : Nat} {P1 P2 : Nat → Value → Prop} {St1 St2 : Nat → Heap → Prop}
theorem zipH_next_item {Q : Value → Shared → Prop} (S : ZipSep2 z TI TO i1 i2 fp1 fp2) (D1 : Draws prog w A i1 fp1 n1 P1 St1) (D2 : Draws prog w A i2 fp2 n2 P2 St2)
    (hz : IsZipHeld s.heap z TI TO T f) (hT : s.heap.get? T = some oT) (hTI : IsTupOf2 s.heap TI (.ref i1) (.ref i2)) (st1 : St1 i s.heap) (st2 : St2 i s.heap) (hlt1 : i < n1) (hlt2 : i < n2)
    (hQ : ∀ x1 x2 h' tk, P1 i x1 → P2 i x2 → IsZipHeld h' z TI TO T true → St1 (i + 1) h' → St2 (i + 1) h' → IsTupOf2 h' s.heap.objs.size x1 x2 → h'.objs.size = s.heap.objs.size + 1 →
      (∀ c o, c ≠ z → c ≠ i1 → c ≠ i2 → s.heap.get? c = some o → h'.get? c = some o) → Q (.ref s.heap.objs.size) { s with heap := h', toks := tk }) :
    wpAny (model prog w) A (Builtin.«zip.__next__» ⟨[.ref z], []⟩) (fun fin s' => ∃ v, fin = .done (.ret v) ∧ Q v s') E s := by
  obtain ⟨hp, g, d, tk0, os⟩ := s
  show wpAny _ _ (field (.ref z) 2 >>= _) _ _ _
  refine wpAny_bind (wpAny_field hz rfl (x := .bool false) rfl ?_)
  show wpAny _ _ (field (.ref z) 3 >>= _) _ _ _
  refine wpAny_bind (wpAny_field hz rfl (x := .ref TI) rfl ?_)
  refine wpAny_bind (wpAny_seqItems hTI rfl ?_)
  show wpAny _ _ (Builtin.SmallTypes.ownedTupleIsFree (.ref z) >>= _) _ _ _
  refine wpAny_bind (wpAny_tupleHeld_zip hz hT fun h₁ hz₁ hs₁ => ?_)
  replace hs₁ : Heap.SameBut z hp h₁ := hs₁
  simp only [Bool.false_eq_true, if_false]
  refine wpAny_bind ?_
  rw [← Array.forIn_toList]
  simp only [List.forIn_cons, List.forIn_nil]
  refine wpAny_bind (wpAny_bind (wpAny_holding ?_))
  show wpAny _ _ (Builtin.SmallTypes.nextOf (.ref i1) >>= _) _ _ ⟨h₁, g, d, tk0, os⟩
  refine wpAny_bind (D1.item i _ _ _ hlt1 (D1.over st1 hs₁ S.zf1) fun x1 p1 tk1 hx1 sn1 hp1 => wpAny_pure ?_)
  replace hp1 : Heap.SameBut i1 h₁ p1 := hp1
  refine wpAny_pure ?_
  refine wpAny_bind (wpAny_bind (wpAny_holding ?_))
  show wpAny _ _ (Builtin.SmallTypes.nextOf (.ref i2) >>= _) _ _ ⟨p1, g, d, tk1, os⟩
  refine wpAny_bind (D2.item i _ _ _ hlt2 (D2.over (D2.over st2 hs₁ S.zf2) hp1 S.sep1_2) fun x2 p2 tk2 hx2 sn2 hp2 => wpAny_pure ?_)
  replace hp2 : Heap.SameBut i2 p1 p2 := hp2
  refine wpAny_pure (wpAny_pure ?_)
  show wpAny _ _ (newTuple [x1, x2] >>= _) _ _ ⟨p2, g, d, tk2, os⟩
  refine wpAny_bind (wpAny_newTuple ?_)
  have hsz : p2.objs.size = hp.objs.size := by rw [hp2.1, hp1.1, hs₁.1]
  have hz₃ : IsZipHeld p2 z TI TO T true := hp2.extBut _ _ S.zi2 (hp1.extBut _ _ S.zi1 hz₁)
  have hk : ∀ c o, c ≠ z → c ≠ i1 → c ≠ i2 → hp.get? c = some o → p2.get? c = some o := fun c o c1 c2 c3 e => hp2.extBut _ _ c3 (hp1.extBut _ _ c2 (hs₁.extBut _ _ c1 e))
  have hj1 : St1 (i + 1) p2 := D1.over sn1 hp2 S.sep2_1
  refine wpAny_pure ⟨_, rfl, ?_⟩
  show Q (.ref p2.objs.size) ⟨_, g, d, tk2, os⟩
  have hpp : IsTupOf2 (p2.push { cls := .type "tuple", data := .seq #[x1, x2] }) p2.objs.size x1 x2 := Heap.get?_push_size _ rfl
  have hz4 : (p2.push { cls := .type "tuple", data := .seq #[x1, x2] }).objs.size = p2.objs.size + 1 := Heap.size_push ..
  rw [hsz] at hpp hz4 ⊢
  exact hQ x1 x2 _ tk2 hx1 hx2 (Heap.get?_push_of_some _ hz₃) (D1.frame _ _ _ hj1 fun b hb o e => Heap.get?_push_of_some _ e) (D2.frame _ _ _ sn2 fun b hb o e => Heap.get?_push_of_some _ e) hpp hz4 fun c o c1 c2 c3 e => Heap.get?_push_of_some _ (hk c o c1 c2 c3 e)
theorem zipH_next_end {Q : Fin → Shared → Prop} (S : ZipSep2 z TI TO i1 i2 fp1 fp2) (D1 : Draws prog w A i1 fp1 n1 P1 St1) (D2 : Draws prog w A i2 fp2 n2 P2 St2)
    (hz : IsZipHeld s.heap z TI TO T f) (hT : s.heap.get? T = some oT) (hTI : IsTupOf2 s.heap TI (.ref i1) (.ref i2)) (st1 : St1 i s.heap) (st2 : St2 i s.heap) (hle1 : i ≤ n1) (hle2 : i ≤ n2) (hend : i = n1 ∨ i = n2)
    (hE : ∀ h' tk e, (∀ c o, c ≠ z → c ≠ i1 → c ≠ i2 → s.heap.get? c = some o → h'.get? c = some o) → (∃ o, h'.get? e = some o ∧ o.cls = .type "StopIteration") → E (.ref e) { s with heap := h', toks := tk }) :
    wpAny (model prog w) A (Builtin.«zip.__next__» ⟨[.ref z], []⟩) Q E s := by
  obtain ⟨hp, g, d, tk0, os⟩ := s
  show wpAny _ _ (field (.ref z) 2 >>= _) _ _ _
  refine wpAny_bind (wpAny_field hz rfl (x := .bool false) rfl ?_)
  show wpAny _ _ (field (.ref z) 3 >>= _) _ _ _
  refine wpAny_bind (wpAny_field hz rfl (x := .ref TI) rfl ?_)
  refine wpAny_bind (wpAny_seqItems hTI rfl ?_)
  show wpAny _ _ (Builtin.SmallTypes.ownedTupleIsFree (.ref z) >>= _) _ _ _
  refine wpAny_bind (wpAny_tupleHeld_zip hz hT fun h₁ hz₁ hs₁ => ?_)
  replace hs₁ : Heap.SameBut z hp h₁ := hs₁
  simp only [Bool.false_eq_true, if_false]
  refine wpAny_bind ?_
  rw [← Array.forIn_toList]
  simp only [List.forIn_cons, List.forIn_nil]
  refine wpAny_bind (wpAny_bind (wpAny_holding ?_))
  show wpAny _ _ (Builtin.SmallTypes.nextOf (.ref i1) >>= _) _ _ ⟨h₁, g, d, tk0, os⟩
  by_cases hlt1 : i < n1
  · refine wpAny_bind (D1.item i _ _ _ hlt1 (D1.over st1 hs₁ S.zf1) fun x1 p1 tk1 hx1 sn1 hp1 => wpAny_pure ?_)
    replace hp1 : Heap.SameBut i1 h₁ p1 := hp1
    refine wpAny_pure ?_
    have hi2 : i = n2 := by omega
    refine wpAny_bind (wpAny_bind (wpAny_holding ?_))
    show wpAny _ _ (Builtin.SmallTypes.nextOf (.ref i2) >>= _) _ _ ⟨p1, g, d, tk1, os⟩
    refine wpAny_bind (D2.done ⟨p1, g, d, tk1, os⟩ _ _ (by rw [← hi2]; exact D2.over (D2.over st2 hs₁ S.zf2) hp1 S.sep1_2) fun q e hq he => ?_)
    replace hq : Heap.ExtBut i2 p1 q := hq
    exact hE q tk1 e (fun c o cz c1 c2 x => hq _ _ c2 (hp1.extBut _ _ c1 (hs₁.extBut _ _ cz x))) he
  · have hi1 : i = n1 := by omega
    refine wpAny_bind (D1.done ⟨h₁, g, d, tk0, os⟩ _ _ (by rw [← hi1]; exact D1.over st1 hs₁ S.zf1) fun q e hq he => ?_)
    replace hq : Heap.ExtBut i1 h₁ q := hq
    exact hE q tk0 e (fun c o cz c1 c2 x => hq _ _ c1 (hs₁.extBut _ _ cz x)) he
theorem pyNext_zipH_item {Q : Option Value → Shared → Prop} (S : ZipSep2 z TI TO i1 i2 fp1 fp2) (D1 : Draws prog w A.in1 i1 fp1 n1 P1 St1) (D2 : Draws prog w A.in1 i2 fp2 n2 P2 St2)
    (hz : IsZipHeld s.heap z TI TO T f) (hT : s.heap.get? T = some oT) (hTI : IsTupOf2 s.heap TI (.ref i1) (.ref i2)) (st1 : St1 i s.heap) (st2 : St2 i s.heap) (hlt1 : i < n1) (hlt2 : i < n2)
    (hQ : ∀ x1 x2 h' tk, P1 i x1 → P2 i x2 → IsZipHeld h' z TI TO T true → St1 (i + 1) h' → St2 (i + 1) h' → IsTupOf2 h' s.heap.objs.size x1 x2 → h'.objs.size = s.heap.objs.size + 1 →
      (∀ c o, c ≠ z → c ≠ i1 → c ≠ i2 → s.heap.get? c = some o → h'.get? c = some o) → Q (some (.ref s.heap.objs.size)) { s with heap := h', toks := tk }) :
    wpAny (model prog w) A (pyNext (.ref z)) Q E s := by
  have hTy : s.TypeIs (.ref z) "zip" := ⟨_, hz, rfl⟩
  unfold pyNext
  exact wpAny_bind (wpAny_attempt (wpAny_callSpecial?_slot (name := Str.ofString "__next__") hTy F.slot_zip_next
    (wpAny_call_entry F.slot_zip_next hTy F.entry_zip_next
      (zipH_next_item S D1 D2 hz hT hTI st1 st2 hlt1 hlt2 fun x1 x2 h' tk y1 y2 b1 d1 d2 b5 b6 b7 => wpAny_pure (hQ x1 x2 h' tk y1 y2 b1 d1 d2 b5 b6 b7)) (F.args_zip_next_1 _))))
theorem pyNext_zipH_end {Q : Option Value → Shared → Prop} (S : ZipSep2 z TI TO i1 i2 fp1 fp2) (D1 : Draws prog w A.in1 i1 fp1 n1 P1 St1) (D2 : Draws prog w A.in1 i2 fp2 n2 P2 St2)
    (hz : IsZipHeld s.heap z TI TO T f) (hT : s.heap.get? T = some oT) (hTI : IsTupOf2 s.heap TI (.ref i1) (.ref i2)) (st1 : St1 i s.heap) (st2 : St2 i s.heap) (hle1 : i ≤ n1) (hle2 : i ≤ n2) (hend : i = n1 ∨ i = n2)
    (hQ : ∀ h' tk, (∀ c o, c ≠ z → c ≠ i1 → c ≠ i2 → s.heap.get? c = some o → h'.get? c = some o) → Q none { s with heap := h', toks := tk }) : wpAny (model prog w) A (pyNext (.ref z)) Q E s := by
  have hTy : s.TypeIs (.ref z) "zip" := ⟨_, hz, rfl⟩
  unfold pyNext
  refine wpAny_bind (wpAny_attempt (wpAny_callSpecial?_slot (name := Str.ofString "__next__") hTy F.slot_zip_next
    (wpAny_call_entry F.slot_zip_next hTy F.entry_zip_next (zipH_next_end S D1 D2 hz hT hTI st1 st2 hle1 hle2 hend fun h' tk e hk he => ?_) (F.args_zip_next_1 _))))
  obtain ⟨o, ho, hc⟩ := he
  refine wpAny_bind (wpAny_isInstance (T := "StopIteration") (b := true) ⟨o, ho, hc⟩ isSubtype_stop ?_)
  exact wpAny_pure (hQ _ _ hk)
end
end PySem
end
section
set_option Elab.async false
set_option linter.all false
set_option maxRecDepth 100000
set_option autoImplicit false
set_option maxHeartbeats 4000000
/-! list(zip(a, b)): the loop and the call -/
namespace PySem.W
open PySem PySem.Calls PyProof.Rows PyProof.V PySem.Spec
theorem zip_no_len : typeLookup (.type "zip") "__len__" = pure none := am_miss_of_fast (by decide +kernel)
theorem zip_no_hint : typeLookup (.type "zip") "__length_hint__" = pure none := am_miss_of_fast (by decide +kernel)
section
variable {prog : Program} {w : World} {A : Around} {E : Value → Shared → Prop} {s : Shared}
theorem zl_hint {r : Addr} (hT : s.TypeIs (.ref r) "zip") {Q : Bool → Shared → Prop} (h : Q true s) : wpAny (model prog w) A (Builtin.List.listLengthHint (.ref r)) Q E s := by
  unfold Builtin.List.listLengthHint
  refine wpAny_bind (wpAny_specialOf hT zip_no_len ?_)
  show wpAny _ _ (specialOf (.ref r) "__length_hint__" >>= _) _ _ _
  refine wpAny_bind (wpAny_specialOf hT zip_no_hint ?_)
  exact wpAny_pure h
end
def ZlSt (h : Heap) (z TI TO S i1 i2 : Addr) (St1 St2 : Nat → Heap → Prop) (i : Nat) : Prop :=
  IsTupOf2 h TI (.ref i1) (.ref i2) ∧ St1 i h ∧ St2 i h ∧ ((i = 0 ∧ IsZip h z TI TO .none ∧ IsTupOf2 h TO .none .none) ∨ ∃ T f oT, IsZipHeld h z TI TO T f ∧ h.get? T = some oT ∧ T ≠ z ∧ T ≠ TO ∧ T ≠ i1 ∧ T ≠ i2 ∧ T ≠ S)
structure ZlG (P1 P2 : Nat → Value → Prop) (lo : Addr) (h : Heap) (as : List Addr) : Prop where
  rise : as.Pairwise (· < ·)
  above : ∀ a ∈ as, lo < a
  pairs : ∀ (j : Nat) (a : Addr), as[j]? = some a → ∃ x y, P1 j x ∧ P2 j y ∧ h.get? a = some { cls := .type "tuple", data := .seq #[x, y] }
theorem ZlG.there {P1 P2 : Nat → Value → Prop} {lo : Addr} {h : Heap} {as : List Addr} (g : ZlG P1 P2 lo h as) {a : Addr} (ha : a ∈ as) : a < h.objs.size := by
  obtain ⟨j, hj⟩ := List.mem_iff_getElem?.mp ha
  obtain ⟨_, _, _, _, e⟩ := g.pairs j a hj
  exact Heap.lt_size e
section
variable {prog : Program} {w : World} {A : Around} {E : Value → Shared → Prop} {s : Shared} {z TI TO i1 i2 S : Addr} {fp1 fp2 : List Addr} {n1 n2 i : Nat} {P1 P2 : Nat → Value → Prop} {St1 St2 : Nat → Heap → Prop}
theorem ZlSt.keep {h h' : Heap} (D1 : Draws prog w A i1 fp1 n1 P1 St1) (D2 : Draws prog w A i2 fp2 n2 P2 St2) (x : ZlSt h z TI TO S i1 i2 St1 St2 i) (hk : ∀ b o, b ≠ S → h.get? b = some o → h'.get? b = some o) (hz : z ≠ S) (hTI : TI ≠ S) (hTO : TO ≠ S) (h1 : S ∉ fp1) (h2 : S ∉ fp2) :
    ZlSt h' z TI TO S i1 i2 St1 St2 i := by
  obtain ⟨a, b, c, d⟩ := x
  refine ⟨hk _ _ hTI a, D1.frame _ _ _ b fun q hq o e => hk q o (fun y => h1 (y ▸ hq)) e, D2.frame _ _ _ c fun q hq o e => hk q o (fun y => h2 (y ▸ hq)) e, ?_⟩
  rcases d with ⟨e, f, g⟩ | ⟨T, f, oT, u, v, w1, w2, w3, w4, w5⟩
  · exact .inl ⟨e, hk _ _ hz f, hk _ _ hTO g⟩
  · exact .inr ⟨T, f, oT, hk _ _ hz u, hk _ _ w5 v, w1, w2, w3, w4, w5⟩
theorem zl_item {Q : Option Value → Shared → Prop} (Z : ZipSep2 z TI TO i1 i2 fp1 fp2) (D1 : Draws prog w A.in1 i1 fp1 n1 P1 St1) (D2 : Draws prog w A.in1 i2 fp2 n2 P2 St2) (hst : ZlSt s.heap z TI TO S i1 i2 St1 St2 i) (hS : S < s.heap.objs.size) (hlt1 : i < n1) (hlt2 : i < n2)
    (hQ : ∀ x1 x2 h' tk, P1 i x1 → P2 i x2 → ZlSt h' z TI TO S i1 i2 St1 St2 (i + 1) → h'.get? s.heap.objs.size = some { cls := .type "tuple", data := .seq #[x1, x2] } → h'.objs.size = s.heap.objs.size + 1 →
      (∀ b o, b ≠ z → b ≠ TO → b ≠ i1 → b ≠ i2 → s.heap.get? b = some o → h'.get? b = some o) → Q (some (.ref s.heap.objs.size)) { s with heap := h', toks := tk }) :
    wpAny (model prog w) A (pyNext (.ref z)) Q E s := by
  obtain ⟨hTI, st1, st2, d⟩ := hst
  have lt : ∀ {c o}, s.heap.get? c = some o → s.heap.objs.size ≠ c := fun e => Nat.ne_of_gt (Heap.lt_size e)
  have l1 : s.heap.objs.size ≠ i1 := by obtain ⟨_, e⟩ := D1.live _ _ st1; exact lt e
  have l2 : s.heap.objs.size ≠ i2 := by obtain ⟨_, e⟩ := D2.live _ _ st2; exact lt e
  rcases d with ⟨e, f, g⟩ | ⟨T, f, oT, u, v, w1, w2, w3, w4, w5⟩
  · exact wpAny_pyNext_zipD2_item Z D1 D2 f hTI g st1 st2 hlt1 hlt2 fun x1 x2 h' tk y1 y2 b1 b2 d1 d2 b5 b6 b7 =>
      hQ x1 x2 h' tk y1 y2 ⟨b7 _ _ Z.TIz Z.TITO Z.TIi1 Z.TIi2 hTI, d1, d2, .inr ⟨s.heap.objs.size, false, _, b1, b5, lt f, lt g, l1, l2, Nat.ne_of_gt hS⟩⟩ b5 b6 b7
  · exact pyNext_zipH_item Z D1 D2 u v hTI st1 st2 hlt1 hlt2 fun x1 x2 h' tk y1 y2 b1 d1 d2 b5 b6 b7 =>
      hQ x1 x2 h' tk y1 y2 ⟨b7 _ _ Z.TIz Z.TIi1 Z.TIi2 hTI, d1, d2, .inr ⟨T, true, oT, b1, b7 _ _ w1 w3 w4 v, w1, w2, w3, w4, w5⟩⟩ b5 b6 fun b o c1 _ c2 c3 e => b7 b o c1 c2 c3 e
theorem zl_done {Q : Option Value → Shared → Prop} (Z : ZipSep2 z TI TO i1 i2 fp1 fp2) (D1 : Draws prog w A.in1 i1 fp1 n1 P1 St1) (D2 : Draws prog w A.in1 i2 fp2 n2 P2 St2) (hst : ZlSt s.heap z TI TO S i1 i2 St1 St2 i) (hle1 : i ≤ n1) (hle2 : i ≤ n2) (hend : i = n1 ∨ i = n2)
    (hQ : ∀ h' tk, (∀ b o, b ≠ z → b ≠ TO → b ≠ i1 → b ≠ i2 → s.heap.get? b = some o → h'.get? b = some o) → Q none { s with heap := h', toks := tk }) :
    wpAny (model prog w) A (pyNext (.ref z)) Q E s := by
  obtain ⟨hTI, st1, st2, d⟩ := hst
  rcases d with ⟨e, f, g⟩ | ⟨T, f, oT, u, v, w1, w2, w3, w4, w5⟩
  · exact wpAny_pyNext_zipD2_end Z D1 D2 f hTI g st1 st2 hle1 hle2 hend hQ
  · exact pyNext_zipH_end Z D1 D2 u v hTI st1 st2 hle1 hle2 hend fun h' tk hk => hQ h' tk fun b o c1 _ c2 c3 e => hk b o c1 c2 c3 e
end
section
variable {prog : Program} {w : World} {A : Around} {s : Shared} {R : Result → Shared → Prop} {z TI TO i1 i2 S : Addr} {fp1 fp2 : List Addr} {n1 n2 : Nat} {P1 P2 : Nat → Value → Prop} {St1 St2 : Nat → Heap → Prop}
structure ZlOff (S z TI TO i1 i2 : Addr) (fp1 fp2 : List Addr) : Prop where
  z : z < S
  TI : TI < S
  TO : TO < S
  i1 : i1 < S
  i2 : i2 < S
  f1 : S ∉ fp1
  f2 : S ∉ fp2
theorem zl_loop (Z : ZipSep2 z TI TO i1 i2 fp1 fp2) (D1 : Draws prog w A.in1.in1 i1 fp1 n1 P1 St1) (D2 : Draws prog w A.in1.in1 i2 fp2 n2 P2 St2) (O : ZlOff S z TI TO i1 i2 fp1 fp2) (hn : n1 ≤ sizeLine) (res : Value) {h₁ : Heap}
    (hR : ∀ h' tk acc c as, (∀ b o, b ≠ S → b ≠ z → b ≠ TO → b ≠ i1 → b ≠ i2 → h₁.get? b = some o → h'.get? b = some o) → h'.get? S = some { cls := .type "list", dict := none, data := .seq acc c, slots := #[] } → as.length = min n1 n2 → ZlG P1 P2 S h' as →
      acc.toList = as.map Value.ref → R (.ok (.ret res)) { s with heap := h', toks := tk }) :
    ∀ (k i : Nat) (h : Heap) (tk c : Nat) (acc : Array Value) (as : List Addr), min n1 n2 - i = k → i ≤ min n1 n2 → ZlSt h z TI TO S i1 i2 St1 St2 i → (∀ b o, b ≠ S → b ≠ z → b ≠ TO → b ≠ i1 → b ≠ i2 → h₁.get? b = some o → h.get? b = some o) →
      h.get? S = some { cls := .type "list", dict := none, data := .seq acc c, slots := #[] } → acc.toList = as.map Value.ref → as.length = i → ZlG P1 P2 S h as →
      codeAny (model prog w) A (.builtin "list.extend.loop" ⟨[.ref S, .ref z, res], []⟩) R { s with heap := h, toks := tk } := by
  have nz : S ≠ z := Nat.ne_of_gt O.z
  have nI : S ≠ TI := Nat.ne_of_gt O.TI
  have nO : S ≠ TO := Nat.ne_of_gt O.TO
  have n1' : S ≠ i1 := Nat.ne_of_gt O.i1
  have n2' : S ≠ i2 := Nat.ne_of_gt O.i2
  have up5 : ∀ a, S < a → a ≠ S ∧ a ≠ z ∧ a ≠ TO ∧ a ≠ i1 ∧ a ≠ i2 := fun a h => ⟨Nat.ne_of_gt h, Nat.ne_of_gt (Nat.lt_trans O.z h), Nat.ne_of_gt (Nat.lt_trans O.TO h), Nat.ne_of_gt (Nat.lt_trans O.i1 h), Nat.ne_of_gt (Nat.lt_trans O.i2 h)⟩
  intro k
  induction k with
  | zero =>
    intro i h tk c acc as hk hi hst hkeep hS hacc hal hG
    have hin : i = min n1 n2 := by omega
    refine codeAny_builtin PySem.F.entry_extend_loop ?_
    rw [Around.under_plainId PySem.F.plain_extend_loop _]
    show wpAny _ A.in1 (pyNext (.ref z) >>= _) _ _ _
    refine wpAny_bind (zl_done (s := { s with heap := h, toks := tk }) (A := A.in1) Z D1 D2 hst (by omega) (by omega) (by omega) fun h' tk' he => ?_)
    refine wpAny_pure (hR h' tk' acc c as (fun b o c0 c1 c2 c3 c4 e => he b o c1 c2 c3 c4 (hkeep b o c0 c1 c2 c3 c4 e)) (he S _ nz nO n1' n2' hS) (by omega) ⟨hG.rise, hG.above, fun j a hj => ?_⟩ hacc)
    obtain ⟨x, y, e1, e2, e3⟩ := hG.pairs j a hj
    obtain ⟨u0, u1, u2, u3, u4⟩ := up5 a (hG.above a (List.mem_of_getElem? hj))
    exact ⟨x, y, e1, e2, he a _ u1 u2 u3 u4 e3⟩
  | succ k ih =>
    intro i h tk c acc as hk hi hst hkeep hS hacc hal hG
    have hlt : i < min n1 n2 := by omega
    have hsz : acc.size = i := by rw [← Array.length_toList, hacc, List.length_map, hal]
    refine codeAny_builtin PySem.F.entry_extend_loop ?_
    rw [Around.under_plainId PySem.F.plain_extend_loop _]
    show wpAny _ A.in1 (pyNext (.ref z) >>= _) _ _ _
    have hSl : S < h.objs.size := Heap.lt_size hS
    refine wpAny_bind (zl_item (s := { s with heap := h, toks := tk }) (A := A.in1) (S := S) Z D1 D2 hst hSl (by omega) (by omega) fun x1 x2 h' tk' y1 y2 hst' ht hz hkp => ?_)
    dsimp only at ht hz hkp ⊢
    have hS' := hkp S _ nz nO n1' n2' hS
    have up : ∀ b o, b ≠ S → h'.get? b = some o → (h'.update S (Obj.mapSeq (·.push (Value.ref h.objs.size)))).get? b = some o := fun b o hb e => (Heap.get?_update_other _ _ (Ne.symm hb)).trans e
    show wpAny _ A.in1 (updateSeq S (·.push (Value.ref h.objs.size)) >>= _) _ _ _
    refine wpAny_bind ?_
    refine wpAny_updateSeq hS' rfl (wpAny_pure ⟨plainId_quiet PySem.F.plain_extend_loop _, ih (i + 1) _ tk' _ (acc.push (Value.ref h.objs.size)) (as ++ [h.objs.size]) (by omega) hlt (hst'.keep D1 D2 up (Ne.symm nz) (Ne.symm nI) (Ne.symm nO) O.f1 O.f2)
      (fun b o c0 c1 c2 c3 c4 e => up b o c0 (hkp b o c1 c2 c3 c4 (hkeep b o c0 c1 c2 c3 c4 e))) (Heap.get?_update_self _ hS' rfl) (by rw [Array.toList_push, hacc, List.map_append]; rfl) (by rw [List.length_append, hal]; rfl) ⟨?_, ?_, ?_⟩⟩) (by rw [hsz]; omega) (by show (acc.push (Value.ref h.objs.size)).size ≤ sizeLine + 1; rw [Array.size_push, hsz]; omega)
    · refine List.pairwise_append.mpr ⟨hG.rise, List.pairwise_singleton _ _, fun a ha b hb => ?_⟩
      rw [List.mem_singleton.mp hb]
      exact hG.there ha
    · intro a ha
      rcases List.mem_append.mp ha with ha | ha
      · exact hG.above a ha
      · rw [List.mem_singleton.mp ha]; exact hSl
    · intro j b hj
      rcases Nat.lt_trichotomy j as.length with h1 | h1 | h1
      · rw [List.getElem?_append_left h1] at hj
        obtain ⟨x', y', e1, e2, e3⟩ := hG.pairs j b hj
        obtain ⟨u0, u1, u2, u3, u4⟩ := up5 b (hG.above b (List.mem_of_getElem? hj))
        exact ⟨x', y', e1, e2, up b _ u0 (hkp b _ u1 u2 u3 u4 e3)⟩
      · subst h1
        have hb : h.objs.size = b := by simpa using hj
        subst hb
        exact ⟨x1, x2, by rw [hal]; exact y1, by rw [hal]; exact y2, up _ _ (Nat.ne_of_gt hSl) ht⟩
      · have hnone : (as ++ [h.objs.size])[j]? = none := List.getElem?_eq_none (by rw [List.length_append, List.length_singleton]; omega)
        rw [hnone] at hj; cases hj
end
section
variable {prog : Program} {w : World} {A : Around} {E : Value → Shared → Prop} {s : Shared} {R : Result → Shared → Prop} {z TI TO i1 i2 S : Addr} {fp1 fp2 : List Addr} {n1 n2 : Nat} {P1 P2 : Nat → Value → Prop} {St1 St2 : Nat → Heap → Prop}
theorem zl_extend (Z : ZipSep2 z TI TO i1 i2 fp1 fp2) (D1 : Draws prog w A.in1.in1 i1 fp1 n1 P1 St1) (D2 : Draws prog w A.in1.in1 i2 fp2 n2 P2 St2) (O : ZlOff S z TI TO i1 i2 fp1 fp2) (hn : n1 ≤ sizeLine) (res : Value) (c₀ : Nat)
    (hz : IsZip s.heap z TI TO .none) (hTI : IsTupOf2 s.heap TI (.ref i1) (.ref i2)) (hTO : IsTupOf2 s.heap TO .none .none) (st1 : St1 0 s.heap) (st2 : St2 0 s.heap) (hS : s.heap.get? S = some { cls := .type "list", data := .seq #[] c₀ })
    (hR : ∀ h' tk acc c as, (∀ b o, b ≠ S → b ≠ z → b ≠ TO → b ≠ i1 → b ≠ i2 → s.heap.get? b = some o → h'.get? b = some o) → h'.get? S = some { cls := .type "list", dict := none, data := .seq acc c, slots := #[] } → as.length = min n1 n2 → ZlG P1 P2 S h' as →
      acc.toList = as.map Value.ref → R (.ok (.ret res)) { s with heap := h', toks := tk }) :
    wpAny (model prog w) A.in1 (Builtin.List.listExtendWith (.ref S) (.ref z) res)
      (fun fin s' => match fin with | .done f => R (.ok f) s' | .again c' => c'.quiet = true ∧ codeAny (model prog w) A c' R s') (fun e s' => R (.error e) s') s := by
  have nz : S ≠ z := Nat.ne_of_gt O.z
  have hT : s.TypeIs (.ref z) "zip" := ⟨_, hz, rfl⟩
  have key : ∀ (h : Heap) (c₁ tk : Nat), (∀ b o, b ≠ S → s.heap.get? b = some o → h.get? b = some o) →
      h.get? S = some { cls := .type "list", data := .seq #[] c₁ } → codeAny (model prog w) A (.builtin "list.extend.loop" ⟨[.ref S, .ref z, res], []⟩) R { s with heap := h, toks := tk } := by
    intro h c₁ tk hk hS₁
    have st0 : ZlSt s.heap z TI TO S i1 i2 St1 St2 0 := ⟨hTI, st1, st2, .inl ⟨rfl, hz, hTO⟩⟩
    refine zl_loop (s := s) (h₁ := s.heap) Z D1 D2 O hn res hR
      (min n1 n2) 0 h tk c₁ #[] [] (Nat.sub_zero _) (Nat.zero_le _) (st0.keep D1 D2 hk (Nat.ne_of_lt O.z) (Nat.ne_of_lt O.TI) (Nat.ne_of_lt O.TO) O.f1 O.f2) (fun b o hb _ _ _ _ e => hk b o hb e) hS₁ rfl rfl
      ⟨List.Pairwise.nil, (fun _ ha => nomatch ha), (fun j a hj => by simp at hj)⟩
  unfold Builtin.List.listExtendWith
  refine wpAny_bind (wpAny_typeOf (T := "zip") hT ?_)
  have h1 : Builtin.List.listSameRef (.ref S) (.ref z) = false := by simp [Builtin.List.listSameRef, nz]
  have h2 : (Value.type "zip" == Value.type "list") = false := by decide
  have h3 : (Value.type "zip" == Value.type "tuple") = false := by decide
  simp only [h1, h2, h3, Bool.or_false, Bool.false_eq_true, if_false]
  refine wpAny_bind (wpAny_pyIter_zip hz ?_)
  refine wpAny_bind (wpAny_holding (zl_hint hT ?_))
  refine wpAny_ite_split (fun _ => ?_) (fun _ => wpAny_pure ⟨plainId_quiet PySem.F.plain_extend_loop _, key _ c₀ _ (fun b o _ e => e) hS⟩)
  refine wpAny_bind (wpAny_rule ?_)
  refine wpAny_bind ?_
  show wpAny _ _ (updateSeq S (·.push .none) >>= fun _ => updateSeq S (·.pop)) _ _ _
  refine wpAny_bind (wpAny_updateSeq hS rfl ?_)
  have hS₂ := Heap.get?_update_self (Obj.mapSeq (·.push Value.none)) hS rfl
  refine wpAny_updateSeq (hz := by seq_fits) hS₂ rfl ?_
  have hS₃ := Heap.get?_update_self (Obj.mapSeq (·.pop)) hS₂ rfl
  refine wpAny_pure ⟨plainId_quiet PySem.F.plain_extend_loop _, key _ _ _ (fun b o hb e => ?_) hS₃⟩
  exact (Heap.get?_update_other _ _ (Ne.symm hb)).trans ((Heap.get?_update_other _ _ (Ne.symm hb)).trans e)
theorem zl_init (Z : ZipSep2 z TI TO i1 i2 fp1 fp2) (D1 : Draws prog w A.in1.in1 i1 fp1 n1 P1 St1) (D2 : Draws prog w A.in1.in1 i2 fp2 n2 P2 St2) (O : ZlOff S z TI TO i1 i2 fp1 fp2) (hn : n1 ≤ sizeLine)
    (hz : IsZip s.heap z TI TO .none) (hTI : IsTupOf2 s.heap TI (.ref i1) (.ref i2)) (hTO : IsTupOf2 s.heap TO .none .none) (st1 : St1 0 s.heap) (st2 : St2 0 s.heap) (hS : s.heap.get? S = some { cls := .type "list", data := .seq #[] })
    (hR : ∀ h' tk acc c as, (∀ b o, b ≠ S → b ≠ z → b ≠ TO → b ≠ i1 → b ≠ i2 → s.heap.get? b = some o → h'.get? b = some o) → h'.get? S = some { cls := .type "list", dict := none, data := .seq acc c, slots := #[] } → as.length = min n1 n2 → ZlG P1 P2 S h' as →
      acc.toList = as.map Value.ref → R (.ok (.ret .none)) { s with heap := h', toks := tk }) :
    wpAny (model prog w) A.in1 (Builtin.«list.__init__» ⟨[.ref S, .ref z], []⟩)
      (fun fin s' => match fin with | .done f => R (.ok f) s' | .again c' => c'.quiet = true ∧ codeAny (model prog w) A c' R s') (fun e s' => R (.error e) s') s := by
  show wpAny _ _ (do let old ← Builtin.List.listItems (.ref S); Builtin.List.listUpdate (.ref S) (fun _ => #[]); letGo old.toList.reverse; Builtin.List.listExtendWith (.ref S) (.ref z) .none) _ _ s
  refine wpAny_bind ?_
  unfold Builtin.List.listItems
  refine wpAny_bind (wpAny_seqItems hS rfl (wpAny_pure ?_))
  show wpAny _ _ (updateSeq S (fun _ => #[]) >>= fun _ => letGo (#[] : Array Value).toList.reverse >>= fun _ => Builtin.List.listExtendWith (.ref S) (.ref z) .none) _ _ s
  refine wpAny_bind (wpAny_updateSeq hS rfl ?_)
  have hS₂ := Heap.get?_update_self (Obj.mapSeq (fun _ => (#[] : Array Value))) hS rfl
  have oth : ∀ b o, b ≠ S → s.heap.get? b = some o → (s.heap.update S (Obj.mapSeq (fun _ => (#[] : Array Value)))).get? b = some o :=
    fun b o hb e => (Heap.get?_update_other _ _ (Ne.symm hb)).trans e
  refine wpAny_bind (wpAny_letGo ?_)
  refine zl_extend Z D1 D2 O hn .none _ (oth _ _ (Nat.ne_of_lt O.z) hz) (oth _ _ (Nat.ne_of_lt O.TI) hTI) (oth _ _ (Nat.ne_of_lt O.TO) hTO) (D1.frame _ _ _ st1 fun b hb o e => oth b o (fun y => O.f1 (y ▸ hb)) e) (D2.frame _ _ _ st2 fun b hb o e => oth b o (fun y => O.f2 (y ▸ hb)) e) hS₂ (fun h' tk acc c as hk hS' hl hG hacc => ?_)
  exact hR h' tk acc c as (fun b o c0 c1 c2 c3 c4 e => hk b o c0 c1 c2 c3 c4 (oth b o c0 e)) hS' hl hG hacc
theorem zl_call {Q : Value → Shared → Prop} (Z : ZipSep2 z TI TO i1 i2 fp1 fp2) (D1 : Draws prog w A.in1.in1.in1 i1 fp1 n1 P1 St1) (D2 : Draws prog w A.in1.in1.in1 i2 fp2 n2 P2 St2) (O : ZlOff s.heap.objs.size z TI TO i1 i2 fp1 fp2) (hn : n1 ≤ sizeLine)
    (hz : IsZip s.heap z TI TO .none) (hTI : IsTupOf2 s.heap TI (.ref i1) (.ref i2)) (hTO : IsTupOf2 s.heap TO .none .none) (st1 : St1 0 s.heap) (st2 : St2 0 s.heap)
    (hQ : ∀ h' tk acc c as, (∀ b o, b ≠ z → b ≠ TO → b ≠ i1 → b ≠ i2 → s.heap.get? b = some o → h'.get? b = some o) → h'.get? s.heap.objs.size = some { cls := .type "list", dict := none, data := .seq acc c, slots := #[] } → as.length = min n1 n2 → ZlG P1 P2 s.heap.objs.size h' as →
      acc.toList = as.map Value.ref → Q (.ref s.heap.objs.size) { s with heap := h', toks := tk }) :
    wpAny (model prog w) A (call (.type "list") [.ref z]) Q E s := by
  refine callType_codes (Q₁ := fun obj s₁ => obj = .ref s.heap.objs.size ∧ s₁ = { s with heap := s.heap.push { cls := .type "list", data := .seq #[] } }) PySem.F.called_list (PySem.F.typeCall_list_1 _) PySem.F.entry_list_init
    (code_list_new _ ⟨rfl, rfl⟩) fun obj s₁ h₁ => ?_
  obtain ⟨rfl, rfl⟩ := h₁
  have hS : (s.heap.push { cls := .type "list", data := .seq #[] }).get? s.heap.objs.size = some { cls := .type "list", data := .seq #[] } := Heap.get?_push_size _ rfl
  refine ⟨⟨_, hS, rfl⟩, PySem.F.args_list_init_2 _ _, zl_init (A := A.in1) Z D1 D2 O hn (Heap.get?_push_of_some _ hz) (Heap.get?_push_of_some _ hTI) (Heap.get?_push_of_some _ hTO) (D1.frame _ _ _ st1 fun b hb o e => Heap.get?_push_of_some _ e) (D2.frame _ _ _ st2 fun b hb o e => Heap.get?_push_of_some _ e) hS (fun h' tk acc c as hk hS' hl hG hacc => ?_)⟩
  exact ⟨rfl, hQ h' tk acc c as (fun b o c1 c2 c3 c4 e => hk b o (Nat.ne_of_lt (Heap.lt_size e)) c1 c2 c3 c4 (Heap.get?_push_of_some _ e)) hS' hl hG hacc⟩
end
end PySem.W
end
section
set_option Elab.async false
set_option linter.all false
set_option maxRecDepth 100000
set_option autoImplicit false
set_option maxHeartbeats 4000000
/-! list(zip(a, b)): the rule -/
namespace LzI
open PySem PySem.Spec PyProof.Rows L2
def putP : Hp → List Addr → List (V × V) → Hp
  | H, a :: as, p :: kvs => putP (upd H a (.tup [p.1, p.2])) as kvs
  | H, _, _ => H
theorem putP_off {b : Addr} : ∀ (as : List Addr) (kvs : List (V × V)) (H : Hp), b ∉ as → putP H as kvs b = H b
  | [], _, _, _ => rfl
  | _ :: _, [], _, _ => rfl
  | a :: as, p :: kvs, H, h => by
    show putP (upd H a (.tup [p.1, p.2])) as kvs b = H b
    rw [putP_off as kvs _ (fun z => h (List.mem_cons_of_mem _ z)), upd_ne (fun z => h (by rw [z]; exact List.mem_cons_self))]
theorem putP_at : ∀ (as : List Addr) (kvs : List (V × V)) (H : Hp), as.length = kvs.length → as.Nodup → Paired (fun (t : Addr) (p : V × V) => putP H as kvs t = some (.tup [p.1, p.2])) as kvs
  | [], [], _, _, _ => .nil
  | [], _ :: _, _, h, _ => by cases h
  | _ :: _, [], _, h, _ => by cases h
  | a :: as, p :: kvs, H, h, hn => by
    have hn' := List.nodup_cons.mp hn
    have ih := putP_at as kvs (upd H a (.tup [p.1, p.2])) (Nat.succ.inj h) hn'.2
    refine .cons ?_ ih
    show putP (upd H a (.tup [p.1, p.2])) as kvs a = some (.tup [p.1, p.2])
    rw [putP_off as kvs _ hn'.1, upd_same]
theorem off2 {N a S : Nat} (h : N < S) (h2 : a < S) : S ∉ [N, a] := by simp; omega
theorem ad {n k m : Nat} (h : k < m) : n + k < n + m := Nat.add_lt_add_left h n
theorem ne4 {N c k : Nat} (h : c < N) : c ≠ N + k := by omega
structure Src (prog : Program) (w : World) (h : Heap) (a : Addr) (n : Nat) (P : Nat → Value → Prop) (o : Obj) (Hh : Heap → Prop) (St : Addr → Nat → Heap → Prop) : Prop where
  beg : Begins (.ref a) o Hh
  at_ : Hh h
  lt : a < h.objs.size
  draws : ∀ (A : Around) (it : Addr), A.handled = none → a ≠ it → Draws prog w A it [it, a] n P (St it)
  start : ∀ (h' : Heap) (it : Addr), h'.get? it = some o → (∀ b ob, h.get? b = some ob → h'.get? b = some ob) → St it 0 h'
theorem src_list {prog : Program} {w : World} {h : Heap} {a : Addr} {its : Array Value} (hl : h.IsList a its) : Src prog w h a its.size (fun i v => its[i]? = some v) { cls := .type "list_iterator", data := .fields #[.ref a, .int 0 0] } (fun h => h.IsList a its) (fun it i h => h.IsListIter it a i ∧ h.IsList a its) where
  beg := begins_list a its
  at_ := hl
  lt := let ⟨_, e, _⟩ := hl; Heap.lt_size e
  draws := fun A it hh hne => .list hh it a hne its
  start := fun h' it e k => ⟨⟨_, e, rfl, rfl⟩, (begins_list a its).keeps _ _ hl k⟩
theorem src_tuple {prog : Program} {w : World} {h : Heap} {a : Addr} {its : Array Value} (hl : h.IsTuple a its) : Src prog w h a its.size (fun i v => its[i]? = some v) { cls := .type "tuple_iterator", data := .fields #[.ref a, .int 0 0] } (fun h => h.IsTuple a its) (fun it i h => h.IsTupleIter it a i ∧ h.IsTuple a its) where
  beg := begins_tuple a its
  at_ := hl
  lt := let ⟨_, e, _⟩ := hl; Heap.lt_size e
  draws := fun A it hh hne => .tuple hh it a hne its
  start := fun h' it e k => ⟨⟨_, e, rfl, rfl⟩, (begins_tuple a its).keeps _ _ hl k⟩
def tListZip (K : PySem.W.Frag) (ta : TA) : TE := fun σ H Q => ta σ H fun vs H1 => ∃ a b xs ys, vs = [.ref a, .ref b] ∧ ((SqL K H1 a xs ∧ SqL K H1 b ys) ∨ (SqT K H1 a xs ∧ SqT K H1 b ys)) ∧
  ∀ (H' : Hp) (p : Addr) (ts : List Addr), (∀ c o, H1 c = some o → H' c = some o) → H1 p = none → (∀ t ∈ ts, H1 t = none) → p ∉ ts → H' p = some (.lst (ts.map V.ref)) → Paired (fun (t : Addr) (q : V × V) => H' t = some (.tup [q.1, q.2])) ts (xs.zip ys) → Q (.ref p) H'
section
variable {X : Cx} {pins : List (Addr × Obj)} {σ : L2.St} {H : Hp}
theorem zip_laid {s : Shared} {h' : Heap} {tk : Nat} {kvs : List (V × V)} {P1 P2 : Nat → Value → Prop} {acc : Array Value} {c : Nat} {as : List Addr} {S : Addr} (I : Inv X pins σ H s) (hz : kvs.length ≤ sizeLine) (hSl : s.heap.objs.size ≤ S)
    (hk : ∀ b o, s.heap.get? b = some o → h'.get? b = some o) (hS : h'.get? S = some { cls := .type "list", dict := none, data := .seq acc c, slots := #[] }) (hl : as.length = kvs.length) (hG : PySem.W.ZlG P1 P2 S h' as) (hacc : acc.toList = as.map Value.ref)
    (rel : ∀ j (q : V × V) x y, kvs[j]? = some q → P1 j x → P2 j y → RelV q.1 x ∧ RelV q.2 y) :
    ∃ H' : Hp, (∀ b o, H b = some o → H' b = some o) ∧ H S = none ∧ (∀ t ∈ as, H t = none) ∧ S ∉ as ∧ H' S = some (.lst (as.map V.ref)) ∧ Paired (fun (t : Addr) (q : V × V) => H' t = some (.tup [q.1, q.2])) as kvs ∧ Inv X pins σ H' { s with heap := h', toks := tk } := by
  have hSn : S ∉ as := fun z => Nat.lt_irrefl _ (hG.above _ z)
  have nd : as.Nodup := List.Pairwise.imp (fun {a b} (h : a < b) => Nat.ne_of_lt h) hG.rise
  have new : ∀ t ∈ as, H t = none := fun t ht => I.hok.fresh (Nat.le_trans hSl (Nat.le_of_lt (hG.above t ht)))
  have newS : H S = none := I.hok.fresh hSl
  have atP := putP_at as kvs (upd H S (.lst (as.map V.ref))) hl nd
  have off : ∀ b, b ∉ as → b ≠ S → putP (upd H S (.lst (as.map V.ref))) as kvs b = H b := fun b h1 h2 => by rw [putP_off as kvs _ h1, upd_ne h2]
  have low : ∀ b o, s.heap.get? b = some o → b ∉ as ∧ b ≠ S := fun b o e => ⟨fun z => absurd (Heap.lt_size e) (Nat.not_lt.mpr (Nat.le_trans hSl (Nat.le_of_lt (hG.above b z)))), Nat.ne_of_lt (Nat.lt_of_lt_of_le (Heap.lt_size e) hSl)⟩
  have kp : ∀ b u, H b = some u → (putP (upd H S (.lst (as.map V.ref))) as kvs) b = some u := fun b u e => by
    rw [off b (fun z => by rw [new b z] at e; cases e) (fun z => by rw [z, newS] at e; cases e)]
    exact e
  have eS : putP (upd H S (.lst (as.map V.ref))) as kvs S = some (.lst (as.map V.ref)) := by rw [putP_off as kvs _ hSn, upd_same]
  refine ⟨putP (upd H S (.lst (as.map V.ref))) as kvs, kp, newS, new, hSn, eS, atP, ?_⟩
  refine I.call' (ch := []) rfl ⟨fun b o q _ _ _ => hk b o q, fun b o q _ _ _ => ⟨o.slots, hk b o q⟩, fun b o q n _ => ?_, fun b o q _ => ⟨o, hk b o q⟩, fun b xs q => kp b _ q, fun b o u q => kp b _ q, fun b ps q => ⟨#[], by rw [kp b _ q]; simp⟩⟩ (fun b u q => ?_) I.bare fun b z => by simp at z
  · obtain ⟨z1, z2⟩ := low b o q
    rw [off b z1 z2]
    exact n
  · by_cases hb : b ∈ as
    · obtain ⟨j, pk, e1, e2, e3⟩ := LiI.paired_ix atP hb
      rw [e3] at q
      cases q
      obtain ⟨x, y, f1, f2, f3⟩ := hG.pairs j b e1
      obtain ⟨r1, r2⟩ := rel j pk x y e2 f1 f2
      exact ⟨by show 2 ≤ sizeLine; decide, [x, y], .cons r1 (.cons r2 .nil), ⟨_, f3, rfl, _, rfl⟩⟩
    · by_cases hb2 : b = S
      · rw [hb2] at q ⊢
        rw [eS] at q
        cases q
        refine ⟨by rw [List.length_map]; omega, acc.toList, c, by rw [hacc]; exact LiI.vals_refs as, ?_⟩
        rw [Array.toArray_toList]
        exact hS
      · rw [off b hb hb2] at q
        exact (I.hok b u q).stay (fun d v _ y => hk d v y) (fun d y => kp d _ y) fun d xs y => kp d _ y
theorem zip_list {s : Shared} {a b : Addr} {xs ys : List V} {its its2 : List Value} {o1 o2 : Obj} {H1 H2 : Heap → Prop} {St1 St2 : Addr → Nat → Heap → Prop} {Q : VK}
    (hc : X.calm = true) (I : Inv X pins σ H s) (rv : Vals xs its) (rv2 : Vals ys its2) (zx : xs.length ≤ sizeLine)
    (s1 : Src X.prog X.w s.heap a its.length (fun i v => its.toArray[i]? = some v) o1 H1 St1) (s2 : Src X.prog X.w s.heap b its2.length (fun i v => its2.toArray[i]? = some v) o2 H2 St2)
    (q : ∀ (H' : Hp) (p : Addr) (ts : List Addr), (∀ c o, H c = some o → H' c = some o) → H p = none → (∀ t ∈ ts, H t = none) → p ∉ ts → H' p = some (.lst (ts.map V.ref)) → Paired (fun (t : Addr) (q : V × V) => H' t = some (.tup [q.1, q.2])) ts (xs.zip ys) → Q (.ref p) H') :
    wpAny (model X.prog X.w) X.A (call (.type "zip") [.ref a, .ref b]) (fun z s' => wpAny (model X.prog X.w) X.A (call (.type "list") [z]) (EP X pins σ Q) X.xe s') X.xe s := by
  refine zip_begins2 s1.beg s2.beg s1.at_ s2.at_ fun h' hz hTI hTO h1 h2 hsz hk => ?_
  have hn : X.A.handled = none := I.ok.hd hc
  have la := s1.lt
  have lb := s2.lt
  have Z : ZipSep2 (s.heap.objs.size + 4) (s.heap.objs.size + 2) (s.heap.objs.size + 3) s.heap.objs.size (s.heap.objs.size + 1) [s.heap.objs.size, a] [s.heap.objs.size + 1, b] := zip_sep2 (fun c hc => by rw [List.mem_singleton.mp hc]; exact la) (fun c hc => by rw [List.mem_singleton.mp hc]; exact lb)
  refine PySem.W.zl_call (s := { s with heap := h' }) Z (s1.draws _ _ hn (Nat.ne_of_lt la)) (s2.draws _ _ hn (ne4 lb)) ?_ (by rw [← rv.length]; exact zx) hz hTI hTO (s1.start h' _ h1 hk) (s2.start h' _ h2 hk) fun h'' tk acc c as hk2 hS hl hG hacc => ?_
  · show PySem.W.ZlOff h'.objs.size _ _ _ _ _ _ _
    rw [hsz]
    exact ⟨ad (by decide), ad (by decide), ad (by decide), ad (k := 0) (by decide), ad (by decide), off2 (ad (k := 0) (by decide)) (Nat.lt_add_right 5 la), off2 (ad (by decide)) (Nat.lt_add_right 5 lb)⟩
  · have hl2 : as.length = (xs.zip ys).length := by rw [hl, List.length_zip, rv.length, rv2.length]
    obtain ⟨H', k1, k2, k3, k4, k5, k6, J⟩ := zip_laid (s := s) (tk := tk) (kvs := xs.zip ys) (S := h'.objs.size) I (by rw [List.length_zip]; omega) (by rw [hsz]; omega) (fun b o e => by
        have e' := Heap.lt_size e
        exact hk2 b o (ne4 e') (ne4 e') (ne4 (k := 0) e') (ne4 e') (hk b o e)) hS hl2 hG hacc fun j p x y hj hx hy => by
      obtain ⟨g1, g2⟩ := List.getElem?_zip_eq_some.mp hj
      obtain ⟨x', f1, f2⟩ := LiI.paired_get rv g1
      obtain ⟨y', f3, f4⟩ := LiI.paired_get rv2 g2
      simp at hx hy
      rw [hx] at f1; cases f1
      rw [hy] at f3; cases f3
      exact ⟨f2, f4⟩
    exact ⟨.ref _, H', J, rfl, q H' _ as k1 k2 k3 k4 k5 k6⟩
/-- list(zip(e1, e2)) -/
theorem pe_listZip {e e2 : Expr} {ta : TA} {p p2 cpos pos : Pos} (hc : X.calm = true) (ha : PA X [e, e2] ta) (hg : Gl X "list") (hm : X.mg "list" = none) (hg2 : Gl X "zip") (hm2 : X.mg "zip" = none)
    (hs2 : starEach [e, e2] X.env = (false, eval e X.env) :: starEach [e2] X.env := by rfl) (hpl : (backTo cpos (starEach [e2] X.env)).any (·.1) = false := by rfl)
    (hs : starEach [.Call (.Name "zip" p2) [e, e2] [] cpos] X.env = (false, eval (.Call (.Name "zip" p2) [e, e2] [] cpos) X.env) :: starEach [] X.env := by rfl) :
    PE X (.Call (.Name "list" p) [.Call (.Name "zip" p2) [e, e2] [] cpos] [] pos) (tListZip X.K ta) := by
  refine ⟨fun pins s σ H Q I hq => ?_⟩
  refine Call_ (ld_blt I hg hm (by rfl : bootBuiltins "list" = some (.type "list")) ?_)
  refine PyProof.Rows.callWith_type1 ?_ hs rfl
  rw [hs]
  show wpAny _ _ (spliced ((false, eval (.Call (.Name "zip" p2) [e, e2] [] cpos) X.env) :: backTo pos (starEach [] X.env))) _ _ s
  refine Calls.spliced_cons ?_
  refine Call_ (ld_blt I hg2 hm2 PyProof.Rows.boot_zip (PyProof.Rows.callWith_type1 (thn (ha.run cpos pins s σ H _ I hq) fun us s1 ⟨vs, H1, I1, r1, q1⟩ => ?_) hs2 hpl))
  obtain ⟨a, b, xs, ys, ex, hsq, q⟩ := q1
  subst ex
  cases r1 with
  | cons r rr =>
    cases rr with
    | cons r' rr =>
      cases rr
      cases r
      cases r'
      rcases hsq with ⟨hqx, hqy⟩ | ⟨hqx, hqy⟩
      · obtain ⟨its, rv, p1, zx⟩ := I1.list hqx
        obtain ⟨its2, rv2, p2, _⟩ := I1.list hqy
        refine thn (zip_list (Q := Q) hc I1 rv rv2 zx (by simpa using src_list (prog := X.prog) (w := X.w) p1.isList) (by simpa using src_list (prog := X.prog) (w := X.w) p2.isList) q) fun z s2 hz => Calls.spliced_nil ?_
        exact hz
      · obtain ⟨its, rv, p1, zx⟩ := I1.tuple hqx
        obtain ⟨its2, rv2, p2, _⟩ := I1.tuple hqy
        refine thn (zip_list (Q := Q) hc I1 rv rv2 zx (by simpa using src_tuple (prog := X.prog) (w := X.w) p1) (by simpa using src_tuple (prog := X.prog) (w := X.w) p2) q) fun z s2 hz => Calls.spliced_nil ?_
        exact hz
end
end LzI
end
section
set_option Elab.async false
set_option linter.all false
set_option maxRecDepth 100000
set_option autoImplicit false
set_option maxHeartbeats 4000000
/-! lambdas that capture nothing: made, held, called -/
namespace LF
open PySem PySem.Spec PyProof.Rows L2 LamX
structure LamT where
  q : Str
  params : Arguments
  body : Expr
  scope : Scope
abbrev LamT.fd (L : LamT) (pm : Value) (c : Addr) (ctv : Value) : FuncData := PySem.W.kla_fn "<lambda>" L.q L.params L.body L.scope [] pm (.ref c) ctv
/-- the object at f is the lambda L, its code object is at c -/
def LamO (f c : Addr) (L : LamT) : HO := .ext fun h => ∃ (od : Option Addr) (sl : Array (Option Value)) (pm ctv : Value), h.get? f = some (⟨.type "function", od, .func (L.fd pm c ctv), sl⟩ : Obj)
theorem lamO_at {P : Program} {w : World} {H : Hp} {h : Heap} {f c : Addr} {L : LamT} (hok : HOk P w H h) (e : H f = some (LamO f c L)) : ∃ (od : Option Addr) (sl : Array (Option Value)) (pm ctv : Value), h.get? f = some (⟨.type "function", od, .func (L.fd pm c ctv), sl⟩ : Obj) := by
  obtain ⟨z, _, _⟩ := hok f _ e
  exact z
theorem cloNil (cells : List (Str × Addr)) : ∀ (names : List (Str × NameKind)) (acc : List (Str × Addr)), (∀ y ∈ names, y.2 ≠ .free) → cloFrom cells names acc = acc
  | [], acc, _ => rfl
  | (n, k) :: r, acc, h => by
    have hk : k ≠ .free := h (n, k) List.mem_cons_self
    have e : (k == .free) = false := by simpa using hk
    unfold cloFrom
    rw [e]
    exact cloNil cells r acc fun y hy => h y (List.mem_cons_of_mem _ hy)
section
variable {X : Cx} {pins : List (Addr × Obj)} {σ : L2.St} {H : Hp} {s : Shared}
theorem inv_lam {L : LamT} {o : Obj} {t' : Nat} {c : Addr} {pm ctv : Value} (I : Inv X pins σ H s) (ho : o = { cls := .type "function", data := .func (L.fd pm c ctv) }) :
    Inv X pins σ (upd H s.heap.objs.size (LamO s.heap.objs.size c L)) { s with heap := s.heap.push o, toks := t' } := by
  subst ho
  refine I.laid (a := s.heap.objs.size) (fun b u e => Heap.get?_push_of_some _ e) (Nat.le_refl _) ?_
  have e : (s.heap.push ({ cls := .type "function", data := .func (L.fd pm c ctv) } : Obj)).get? s.heap.objs.size = some ({ cls := .type "function", data := .func (L.fd pm c ctv) } : Obj) := Heap.get?_push_size _ rfl
  exact ⟨⟨_, _, pm, ctv, e⟩, ⟨_, e⟩, fun h1 h2 ⟨od, sl, p, t, z⟩ st => ⟨od, sl, p, t, st _ z⟩⟩
def TabsP (T : Addr → Str → Prop) (H : Hp) : Prop := ∀ P q, T P q → TabS H P q
/-- the lambda is made -/
theorem lam_make3 {T : Addr → Str → Prop} {c P : Addr} {params : Arguments} {body : Expr} {scope : Scope} {pos : Pos} {E : Value → Shared → Prop} {Q : Value → Shared → Prop} (I : Inv X pins σ H s) (TB : TabB X.base X.mg c P) (hcode : X.env.code = .ref c)
    (hm : T P (X.env.qual ++ "<lambda>")) (hu : ∀ q, T P q → q = X.env.qual ++ "<lambda>") (hT : TabsP T H) (hdef : defaultsOf params X.env = ([], [])) (hfree : ∀ y ∈ scope.names, y.2 ≠ .free)
    (h : ∀ (f c' : Addr) (H1 : Hp) (s' : Shared), Inv X pins σ H1 s' → ExtN H H1 → (∀ b, H1 b = Option.none → H b = Option.none) → TabsP T H1 → H f = none → H1 f = some (LamO f c' ⟨X.env.qual ++ "<lambda>", params, body, scope⟩) → H1 c' = some (CodeO c' (X.env.qual ++ "<lambda>")) → Q (.ref f) s') :
    wpAny (model X.prog X.w) X.A (eval (.Lambda params body scope pos) X.env) Q E s := by
  obtain ⟨ps, hP, ht, ha⟩ := hT _ _ hm
  refine PySem.W.kla_eval hdef ?_
  have bP : s.heap.BuiltinsAt X.mg P := TB.bm.keeps I.bk
  have hP' : s.heap.get? P = some { cls := .none, data := .fields ps } := I.hok P _ hP
  have hfr : ∀ y ∈ scope.names, y.2 = .free → ∃ c, X.env.cells.lookup y.1 = some c := fun y hy e => absurd e (hfree y hy)
  have eC : cloFrom X.env.cells scope.names [] = [] := cloNil _ _ _ hfree
  cases hc : codeAmong pos ps.toList with
  | none =>
    refine PySem.W.kla_makeFunction (mg := X.mg) (c := c) (P := P) (ps := ps) (closure_ok hfr) I.ok.glob (I.mod.glob.keeps I.bk) hcode (TB.code.keeps I.bk) hP' ht hc TB.gP bP fun c' ctv h' tk hx hge hlt hrec htb => ?_
    obtain ⟨c2, oc, vs, t, e2, hoc, hd, hv⟩ := hrec
    cases e2
    have nC : H c' = none := I.hok.fresh hge
    have I1 := inv_table (t' := tk) (more := #[rawInt pos.line, rawInt pos.col, .ref c']) (h' := h') I hP (fun b o hb e => hx b o hb e) htb hge ⟨oc, vs, t, hoc, hd, hv⟩
    have hE : ExtN H (upd (upd H P (.tbl (ps ++ #[rawInt pos.line, rawInt pos.col, .ref c']))) c' (CodeO c' (X.env.qual ++ "<lambda>"))) := fun b o e n => by
      rw [upd_ne (ne_of_none e nC), upd_ne (fun z => n ps (Option.some.inj (e.symm.trans (by rw [z]; exact hP))))]
      exact e
    have eL : (ps ++ #[rawInt pos.line, rawInt pos.col, .ref c']).toList = ps.toList ++ [rawInt pos.line, rawInt pos.col, .ref c'] := by simp
    have T1 : TabsP T (upd (upd H P (.tbl (ps ++ #[rawInt pos.line, rawInt pos.col, .ref c']))) c' (CodeO c' (X.env.qual ++ "<lambda>"))) := fun P1 q1 hp => by
      by_cases hb : P1 = P
      · rw [hb] at hp ⊢
        rw [hu q1 hp]
        refine ⟨_, by rw [upd_ne (ne_of_none hP nC), upd_same], by rw [eL]; exact PySem.TriplesOk_snoc _ _ _ _ ht, fun p' cv hcv => ?_⟩
        rw [eL] at hcv
        rcases among_app _ ht hcv with z | z
        · obtain ⟨c0, e1, e2⟩ := ha p' cv z
          exact ⟨c0, e1, hE _ _ e2 codeO_ne⟩
        · exact ⟨c', z, upd_same⟩
      · obtain ⟨ps', a1, a2, a3⟩ := hT P1 q1 hp
        refine ⟨ps', by rw [upd_ne (ne_of_none a1 nC), upd_ne hb]; exact a1, a2, fun p' cv hcv => ?_⟩
        obtain ⟨c0, e1, e2⟩ := a3 p' cv hcv
        exact ⟨c0, e1, hE _ _ e2 codeO_ne⟩
    have nF := I1.hok.fresh (Nat.le_refl _)
    have I2 := inv_lam (L := ⟨X.env.qual ++ "<lambda>", params, body, scope⟩) (t' := tk) (c := c') (pm := (X.mg "__name__").getD .none) (ctv := ctv) I1 rfl
    rw [eC]
    refine h h'.objs.size c' _ _ I2 (fun b o e n => ?_) (fun b e => NdefX.upd_none (NdefX.upd_none (NdefX.upd_none e))) (fun P1 q1 hp => (T1 P1 q1 hp).ext fun b o e => ?_) (I.hok.fresh (Nat.le_trans hge (Nat.le_of_lt hlt))) upd_same ?_
    · have e1 := hE b o e n
      exact (upd_ne (ne_of_none e1 nF)).trans e1
    · exact (upd_ne (ne_of_none e nF)).trans e
    · exact (upd_ne (Nat.ne_of_lt hlt)).trans upd_same
  | some cv =>
    obtain ⟨c', e, hco⟩ := ha pos cv hc
    subst e
    refine PySem.W.kla_makeFunctionHit (mg := X.mg) (c := c) (P := P) (ps := ps) (closure_ok hfr) I.ok.glob (I.mod.glob.keeps I.bk) hcode (TB.code.keeps I.bk) hP' ht hc bP fun ctv h' tk hx hsz => ?_
    have I1 : Inv X pins σ H { s with heap := h', toks := tk } := I.kept hx
    have nF : H h'.objs.size = none := I1.hok.fresh (Nat.le_refl _)
    have I2 := inv_lam (L := ⟨X.env.qual ++ "<lambda>", params, body, scope⟩) (t' := tk) (c := c') (pm := (X.mg "__name__").getD .none) (ctv := ctv) I1 rfl
    rw [eC]
    refine h h'.objs.size c' _ _ I2 (fun b o e n => ?_) (fun b e => NdefX.upd_none e) (fun P1 q1 hp => (hT P1 q1 hp).ext fun b o e => ?_) nF upd_same ?_
    · exact (upd_ne (ne_of_none e nF)).trans e
    · exact (upd_ne (ne_of_none e nF)).trans e
    · exact (upd_ne (ne_of_none hco nF)).trans hco
end
/-! ### its code -/
structure LamOk (P : Program) (w : World) (K : PySem.W.Frag) (mg : Str → Option Value) (base : Heap) (CX : CXT) (k : Nat) (L : LamT) (sp : Sp) : Prop where
  run : ∀ (A : Around) (outer : List Env) (s : Shared) (H : Hp) (us : List Value) (vs : List V) (Q : VK) (E : XK) (f c : Addr), A.guards = some [] → Room k A → Env0 P w K mg base A outer s H → H f = some (LamO f c L) → H c = some (CodeO c L.q) → Vals vs us → sp vs H Q E →
    codeAny (model P w) A (.call (.ref f) ⟨us, []⟩) (CR CX outer P w H s Q E) s
theorem LamOk.mono {P : Program} {w : World} {K : PySem.W.Frag} {mg : Str → Option Value} {base : Heap} {CX : CXT} {j k : Nat} {L : LamT} {sp : Sp} (F : LamOk P w K mg base CX j L sp) (h : j ≤ k) : LamOk P w K mg base CX k L sp :=
  ⟨fun A outer s H us vs Q E f c gd hr => F.run A outer s H us vs Q E f c gd (hr.mono h)⟩
theorem lam_ok {CX : CXT} {P : Program} {w : World} {K : PySem.W.Frag} {mg : Str → Option Value} {base : Heap} {k : Nat} {L : LamT} {N ps : List Str} {sp : Sp} (S : FnScope N ps L.scope)
    (hbind : ∀ (pm ctv : Value) (c : Addr) (us : List Value), us.length = ps.length → bindArgs (L.fd pm c ctv) ⟨us, []⟩ = pure (ps.zip us)) (len : ∀ vs H Q E, sp vs H Q E → vs.length = ps.length)
    (hbody : ∀ (A : Around) (outer : List Env) (s : Shared) (H : Hp) (vs : List V) (Q : VK) (E : XK) (f c : Addr), A.guards = some [] → Room k (A.deeper (envOfC L.q L.scope s.heap.objs.size f (.ref c))) → sp vs H Q E →
      ∃ t, PE (cxOf CX P w K mg base N L.q L.scope f (.ref c) A outer s H E) L.body t ∧ t (L2.start N vs) H Q) : LamOk P w K mg base CX (k + 1) L sp := by
  refine ⟨fun A outer s H us vs Q E f c gd hr e0 hf hc r hsp => ?_⟩
  have hl := len _ _ _ _ hsp
  have lim : s.heap.NoLimit := e0.mod.nolimit.keeps fun b o e => (e0.bs b o e).1
  have hkind : ∀ y ∈ ps.zip us, L.scope.names.lookup y.1 = some .local ∨ (L.scope.names.lookup y.1 = some .cell ∧ ((cellsFrom (s.heap.objs.size + 1) L.scope.names []).lookup y.1).isSome = true) := fun ⟨n, v⟩ hy => by
    rcases S.par n (List.of_mem_zip hy).1 with q | q
    · exact .inl q
    · exact .inr ⟨q, PySem.W.cellsFrom_some _ _ _ (.inl q)⟩
  obtain ⟨od, sl, pm, ctv, hfo⟩ := lamO_at e0.hok hf
  refine PySem.W.kla_callFunE hr.depth hfo rfl S.co S.gen rfl (NdefX.codeO_at e0.hok hc) ?_
  rw [hbind pm ctv c us (by rw [← r.length]; exact hl)]
  refine wpAny_pure ?_
  refine wpAny_newFunctionEnv_cells S.kind hkind fun env he s1 x => ?_
  subst he
  refine ⟨lim.keeps x.toInCall.keep, PySem.W.kla_codeExpr ?_⟩
  obtain ⟨t, ht, hq⟩ := hbody A outer s H vs Q E f c gd (hr.deeper _) hsp
  have I : Inv (cxOf CX P w K mg base N L.q L.scope f (.ref c) A outer s H E) [] (L2.start N vs) H s1 := inv_start S hr.hd e0 hl r x
  refine wpAny_mono (ht.run [] s1 (L2.start N vs) H Q I hq) (fun u s' hs => ?_) fun e s' hs => hs
  obtain ⟨v, H', J, rv, q⟩ := hs
  exact ⟨v, H', J.os, J.bare, J.base, J.hok, rv, q⟩
/-! ### the call -/
def tCallF (i : Nat) (S : LamT → Sp → Prop) (E : XK) (t : TA) : TE := fun σ H Q => ∃ f c L sp, σ[i]? = some (some (.ref f)) ∧ S L sp ∧ H f = some (LamO f c L) ∧
  t σ H fun vs H1 => H1 f = some (LamO f c L) ∧ H1 c = some (CodeO c L.q) ∧ sp vs H1 Q E
section
variable {X : Cx} {CX : CXT} {k i : Nat} {E : XK} {x : Str} {p pos : Pos} {e : Expr} {es : List Expr} {t : TA}
theorem pe_callF {S : LamT → Sp → Prop} (gd : X.A.guards = some []) (A : ∀ L sp, S L sp → LamOk X.prog X.w X.K X.mg X.base CX k L sp) (hr : Room k X.A) (hN : X.N[i]? = some x) (hv : Vis X.env.scope x) (hx : Passes CX X E) (ha : PA X (e :: es) t)
    (hdb : (x == ("__debug__" : Str)) = false := by decide) (hcd : (x == ("__classdict__" : Str)) = false := by decide)
    (he : starEach (e :: es) X.env = (false, eval e X.env) :: starEach es X.env := by rfl) (hpl : (backTo pos (starEach es X.env)).any (·.1) = false := by rfl) : PE X (.Call (.Name x p) (e :: es) [] pos) (tCallF i S E t) := by
  refine ⟨fun pins s σ H Q I h => ?_⟩
  obtain ⟨f, c, L, sp, hs, hS, hf0, ht⟩ := h
  refine wpAny_Call_Name_kw (thn ((pe_var (pos := p) hN hv hdb hcd).run pins s σ H (fun v H1 => v = .ref f ∧ H1 = H) I ⟨.ref f, hs, rfl, rfl⟩) fun u s1 ⟨v, H1, I1, r1, q1⟩ => ?_)
  obtain ⟨rfl, rfl⟩ := q1
  cases r1
  obtain ⟨od, sl, pm, ctv, hfo⟩ := lamO_at I1.hok hf0
  refine PySem.W.callWith_F ⟨_, _, _, _, hfo⟩ (thn (ha.run pos pins s1 σ _ _ I1 ht) fun us s2 ⟨vs, H2, I2, r, hf2, hc2, q⟩ => ?_) he hpl
  obtain ⟨od, sl, pm, ctv, hfo2⟩ := lamO_at I2.hok hf2
  refine ⟨⟨_, _, _, _, hfo2⟩, ?_⟩
  refine wpAny_call (codeAny_mono ((A L sp hS).run X.A X.stack s2 H2 us vs Q E f c gd hr I2.env0 hf2 hc2 r q) fun r s' hq => ?_)
  cases r with
  | error e => exact hx pins σ H2 s2 e s' I2 hq
  | ok fl =>
    cases fl with
    | ret u => exact I2.after hq
    | next => exact False.elim hq
    | brk => exact False.elim hq
    | cont => exact False.elim hq
end
/-! ### the expression -/
def tMkLam (T : Addr → Str → Prop) (L : LamT) : TE := fun σ H Q => TabsP T H ∧ ∀ (f c' : Addr) (H1 : Hp), ExtN H H1 → (∀ b, H1 b = Option.none → H b = Option.none) → TabsP T H1 → H f = none → H1 f = some (LamO f c' L) → H1 c' = some (CodeO c' L.q) → Q (.ref f) H1
theorem pe_mkLam {X : Cx} {T : Addr → Str → Prop} {c P : Addr} {params : Arguments} {body : Expr} {scope : Scope} {pos : Pos} (TB : TabB X.base X.mg c P) (hcode : X.env.code = .ref c)
    (hm : T P (X.env.qual ++ "<lambda>")) (hu : ∀ q, T P q → q = X.env.qual ++ "<lambda>") (hdef : defaultsOf params X.env = ([], [])) (hfree : ∀ y ∈ scope.names, y.2 ≠ .free) :
    PE X (.Lambda params body scope pos) (tMkLam T ⟨X.env.qual ++ "<lambda>", params, body, scope⟩) := by
  refine ⟨fun pins s σ H Q I h => ?_⟩
  obtain ⟨hT, h⟩ := h
  exact lam_make3 I TB hcode hm hu hT hdef hfree fun f c' H1 s' I1 eN nn T1 f0 f1 c1 => ⟨.ref f, H1, I1, rfl, h f c' H1 eN nn T1 f0 f1 c1⟩
end LF
end
section
set_option Elab.async false
set_option linter.all false
set_option maxRecDepth 100000
set_option autoImplicit false
/-! equality of small texts, by a Bool -/
namespace DL
open PySem
mutual
def eqE : Expr → Expr → Bool
  | .Name x p, e => match e with
    | .Name y q => decide (x = y) && decide (p = q)
    | _ => false
  | .Constant x k p, e => match e with
    | .Constant y l q => decide (x = y) && (decide (k = l) && decide (p = q))
    | _ => false
  | .BoolOp o xs p, e => match e with
    | .BoolOp o' ys q => decide (o = o') && (decide (p = q) && eqEs xs ys)
    | _ => false
  | .BinOp a o b p, e => match e with
    | .BinOp a' o' b' q => decide (o = o') && (decide (p = q) && (eqE a a' && eqE b b'))
    | _ => false
  | .UnaryOp o a p, e => match e with
    | .UnaryOp o' a' q => decide (o = o') && (decide (p = q) && eqE a a')
    | _ => false
  | .Compare a os xs p, e => match e with
    | .Compare a' os' ys q => decide (os = os') && (decide (p = q) && (eqE a a' && eqEs xs ys))
    | _ => false
  | .Subscript a b p, e => match e with
    | .Subscript a' b' q => decide (p = q) && (eqE a a' && eqE b b')
    | _ => false
  | .Attribute a x p, e => match e with
    | .Attribute a' y q => decide (x = y) && (decide (p = q) && eqE a a')
    | _ => false
  | .Tuple xs k p, e => match e with
    | .Tuple ys l q => decide (k = l) && (decide (p = q) && eqEs xs ys)
    | _ => false
  | .Call f xs ks p, e => match e with
    | .Call f' ys ks' q => ks.isEmpty && (ks'.isEmpty && (decide (p = q) && (eqE f f' && eqEs xs ys)))
    | _ => false
  | _, _ => false
def eqEs : List Expr → List Expr → Bool
  | [], es => es.isEmpty
  | x :: xs, es => match es with
    | y :: ys => eqE x y && eqEs xs ys
    | [] => false
end
theorem eand {a b : Bool} (h : (a && b) = true) : a = true ∧ b = true := Bool.and_eq_true_iff.mp h
mutual
theorem eqE_ok : ∀ (a b : Expr), eqE a b = true → a = b
  | .Name x p, e, h => by
    unfold eqE at h
    split at h
    · obtain ⟨h1, h2⟩ := eand h
      rw [of_decide_eq_true h1, of_decide_eq_true h2]
    · cases h
  | .Constant x k p, e, h => by
    unfold eqE at h
    split at h
    · obtain ⟨h1, h2⟩ := eand h
      obtain ⟨h2, h3⟩ := eand h2
      rw [of_decide_eq_true h1, of_decide_eq_true h2, of_decide_eq_true h3]
    · cases h
  | .BoolOp o xs p, e, h => by
    unfold eqE at h
    split at h
    · obtain ⟨h1, h2⟩ := eand h
      obtain ⟨h2, h3⟩ := eand h2
      rw [of_decide_eq_true h1, of_decide_eq_true h2, eqEs_ok _ _ h3]
    · cases h
  | .BinOp a o b p, e, h => by
    unfold eqE at h
    split at h
    · obtain ⟨h1, h2⟩ := eand h
      obtain ⟨h2, h3⟩ := eand h2
      obtain ⟨h3, h4⟩ := eand h3
      rw [of_decide_eq_true h1, of_decide_eq_true h2, eqE_ok _ _ h3, eqE_ok _ _ h4]
    · cases h
  | .UnaryOp o a p, e, h => by
    unfold eqE at h
    split at h
    · obtain ⟨h1, h2⟩ := eand h
      obtain ⟨h2, h3⟩ := eand h2
      rw [of_decide_eq_true h1, of_decide_eq_true h2, eqE_ok _ _ h3]
    · cases h
  | .Compare a os xs p, e, h => by
    unfold eqE at h
    split at h
    · obtain ⟨h1, h2⟩ := eand h
      obtain ⟨h2, h3⟩ := eand h2
      obtain ⟨h3, h4⟩ := eand h3
      rw [of_decide_eq_true h1, of_decide_eq_true h2, eqE_ok _ _ h3, eqEs_ok _ _ h4]
    · cases h
  | .Subscript a b p, e, h => by
    unfold eqE at h
    split at h
    · obtain ⟨h1, h2⟩ := eand h
      obtain ⟨h2, h3⟩ := eand h2
      rw [of_decide_eq_true h1, eqE_ok _ _ h2, eqE_ok _ _ h3]
    · cases h
  | .Attribute a x p, e, h => by
    unfold eqE at h
    split at h
    · obtain ⟨h1, h2⟩ := eand h
      obtain ⟨h2, h3⟩ := eand h2
      rw [of_decide_eq_true h1, of_decide_eq_true h2, eqE_ok _ _ h3]
    · cases h
  | .Tuple xs k p, e, h => by
    unfold eqE at h
    split at h
    · obtain ⟨h1, h2⟩ := eand h
      obtain ⟨h2, h3⟩ := eand h2
      rw [of_decide_eq_true h1, of_decide_eq_true h2, eqEs_ok _ _ h3]
    · cases h
  | .Call f xs ks p, e, h => by
    unfold eqE at h
    split at h
    · obtain ⟨h1, h2⟩ := eand h
      obtain ⟨h2, h3⟩ := eand h2
      obtain ⟨h3, h4⟩ := eand h3
      obtain ⟨h4, h5⟩ := eand h4
      rw [of_decide_eq_true h3, eqE_ok _ _ h4, eqEs_ok _ _ h5, List.isEmpty_iff.mp h1, List.isEmpty_iff.mp h2]
    · cases h
  | .NamedExpr .., _, h | .Lambda .., _, h | .IfExp .., _, h | .Dict .., _, h | .Set .., _, h | .ListComp .., _, h | .SetComp .., _, h | .DictComp .., _, h | .GeneratorExp .., _, h | .Await .., _, h | .Yield .., _, h | .YieldFrom .., _, h | .FormattedValue .., _, h | .JoinedStr .., _, h | .Starred .., _, h | .List .., _, h | .Slice .., _, h => by
    unfold eqE at h
    cases h
theorem eqEs_ok : ∀ (a b : List Expr), eqEs a b = true → a = b
  | [], es, h => by
    unfold eqEs at h
    exact (List.isEmpty_iff.mp h).symm
  | x :: xs, es, h => by
    unfold eqEs at h
    split at h
    · obtain ⟨h1, h2⟩ := eand h
      rw [eqE_ok _ _ h1, eqEs_ok _ _ h2]
    · cases h
end
/-- parameters that are plain names -/
def eqArgs : List Arg → List Arg → Bool
  | [], es => es.isEmpty
  | x :: xs, es => match es with
    | y :: ys => decide (x.arg = y.arg) && (decide (x.pos = y.pos) && (x.annotation.isNone && (y.annotation.isNone && eqArgs xs ys)))
    | [] => false
theorem eqArgs_ok : ∀ (a b : List Arg), eqArgs a b = true → a = b
  | [], es, h => by
    unfold eqArgs at h
    exact (List.isEmpty_iff.mp h).symm
  | ⟨x, an, p⟩ :: xs, es, h => by
    unfold eqArgs at h
    split at h
    · rename_i y ys
      obtain ⟨y, an', p'⟩ := y
      obtain ⟨h1, h2⟩ := eand h
      obtain ⟨h2, h3⟩ := eand h2
      obtain ⟨h3, h4⟩ := eand h3
      obtain ⟨h4, h5⟩ := eand h4
      have e1 : x = y := of_decide_eq_true h1
      have e2 : p = p' := of_decide_eq_true h2
      have e3 : an = none := Option.isNone_iff_eq_none.mp h3
      have e4 : an' = none := Option.isNone_iff_eq_none.mp h4
      rw [e1, e2, e3, e4, eqArgs_ok _ _ h5]
    · cases h
def plainA (a : Arguments) : Bool := a.posonlyargs.isEmpty && (a.vararg.isNone && (a.kwonlyargs.isEmpty && (a.kw_defaults.isEmpty && (a.kwarg.isNone && a.defaults.isEmpty))))
theorem plainA_ok {a : Arguments} (h : plainA a = true) : a = ⟨[], a.args, none, [], [], none, []⟩ := by
  obtain ⟨a1, a2, a3, a4, a5, a6, a7⟩ := a
  unfold plainA at h
  obtain ⟨h1, h⟩ := eand h
  obtain ⟨h2, h⟩ := eand h
  obtain ⟨h3, h⟩ := eand h
  obtain ⟨h4, h⟩ := eand h
  obtain ⟨h5, h6⟩ := eand h
  have e1 : a1 = [] := List.isEmpty_iff.mp h1
  have e2 : a3 = none := Option.isNone_iff_eq_none.mp h2
  have e3 : a4 = [] := List.isEmpty_iff.mp h3
  have e4 : a5 = [] := List.isEmpty_iff.mp h4
  have e5 : a6 = none := Option.isNone_iff_eq_none.mp h5
  have e6 : a7 = [] := List.isEmpty_iff.mp h6
  rw [e1, e2, e3, e4, e5, e6]
/-- the same lambda -/
def eqLam (L : LF.LamT) (params : Arguments) (body : Expr) (scope : Scope) : Bool := plainA L.params && (plainA params && (eqArgs L.params.args params.args && (eqE L.body body && (decide (L.scope = scope) && scope.names.all fun y => !decide (y.2 = .free)))))
theorem eqLam_ok {L : LF.LamT} {params : Arguments} {body : Expr} {scope : Scope} (h : eqLam L params body scope = true) : L = ⟨L.q, params, body, scope⟩ ∧ (∀ env, defaultsOf params env = ([], [])) ∧ ∀ y ∈ scope.names, y.2 ≠ .free := by
  unfold eqLam at h
  obtain ⟨h1, h⟩ := eand h
  obtain ⟨h2, h⟩ := eand h
  obtain ⟨h3, h⟩ := eand h
  obtain ⟨h4, h⟩ := eand h
  obtain ⟨h5, h6⟩ := eand h
  obtain ⟨q, p, b, s⟩ := L
  refine ⟨?_, fun env => ?_, fun y hy e => ?_⟩
  · have e1 := plainA_ok h1
    have e2 := plainA_ok h2
    have e3 := eqArgs_ok _ _ h3
    have e4 : b = body := eqE_ok _ _ h4
    have e5 : s = scope := of_decide_eq_true h5
    have e6 : p = params := by
      rw [show p = ⟨[], p.args, none, [], [], none, []⟩ from e1, e2]
      rw [show p.args = params.args from e3]
    rw [e4, e5, e6]
  · rw [plainA_ok h2]
    rfl
  · have := List.all_eq_true.mp h6 y hy
    rw [e] at this
    cases this
end DL
end
section
set_option autoImplicit false
namespace DL
open PySem
/-- the defs whose lambdas are told (program-wide) -/
def lamQuals : List Str := ["both", "either"]
end DL
end
section
set_option Elab.async false
set_option linter.all false
set_option maxRecDepth 100000
/-! The data layer: values whose tuples are data, a heap of what can change. -/
namespace DL
open PySem PySem.Spec PyProof.Rows L2

inductive DV where
  | non | bl (b : Bool) | int (i : Int) | str (x : Str) | ref (a : Addr) | ty (n : String) | tup (xs : List DV) | lk (xs : List DV) | xt (xs : List DV) | fv (L : LF.LamT) | xo (c f : String) (x : DV) | xb (c : String)
abbrev H0 : Hp := fun _ => none
mutual
/-- a value of the machine's layer stands for a datum -/
def Rep (K : PySem.W.Frag) (H : Hp) : DV → V → Prop
  | .non, v => v = .non
  | .bl b, v => v = .bl b
  | .int i, v => v = .int i
  | .str x, v => v = .str x
  | .ref a, v => v = .ref a
  | .ty n, v => v = .ty n
  | .tup xs, v => ∃ a vs, v = .ref a ∧ SqT K H a vs ∧ RepL K H xs vs
  | .lk xs, v => ∃ a vs, v = .ref a ∧ ((∃ o, H a = some (.frz o (.lst vs))) ∨ SqL K H0 a vs) ∧ RepL K H xs vs
  | .xt xs, v => ∃ a vs, v = .ref a ∧ (∃ o, H a = some (.frz o (.tup vs)) ∧ o.dict = none) ∧ RepL K H xs vs
  | .fv L, v => ∃ f c, v = .ref f ∧ H f = some (LF.LamO f c L) ∧ H c = some (LamX.CodeO c L.q)
  | .xo c f x, v => ∃ a d w, v = .ref a ∧ H a = some (exo a (He.ga K c) (some d)) ∧ H d = some (exd d [(Str.ofString f, w)]) ∧ Rep K H x w
  | .xb c, v => ∃ a, v = .ref a ∧ H a = some (exo a (He.ga K c) none)
def RepL (K : PySem.W.Frag) (H : Hp) : List DV → List V → Prop
  | [], vs => vs = []
  | x :: xs, vs => ∃ v r, vs = v :: r ∧ Rep K H x v ∧ RepL K H xs r
end
/-- what never changes stands -/
structure Keeps (H H' : Hp) : Prop where
  tup : ∀ a xs, H a = some (.tup xs) → H' a = some (.tup xs)
  frz : ∀ a o u, H a = some (.frz o u) → H' a = some (.frz o u)
  ext : ∀ a p, H a = some (.ext p) → H' a = some (.ext p)
theorem Keeps.refl (H : Hp) : Keeps H H := ⟨fun _ _ h => h, fun _ _ _ h => h, fun _ _ h => h⟩
theorem Keeps.trans {H H1 H2 : Hp} (a : Keeps H H1) (b : Keeps H1 H2) : Keeps H H2 := ⟨fun c xs h => b.tup c xs (a.tup c xs h), fun c o u h => b.frz c o u (a.frz c o u h), fun c p h => b.ext c p (a.ext c p h)⟩
theorem Keeps.lamO {H H' : Hp} {f c : Addr} {L : LF.LamT} (k : Keeps H H') (h : H f = some (LF.LamO f c L)) : H' f = some (LF.LamO f c L) := k.ext _ _ h
theorem Keeps.codeO {H H' : Hp} {c : Addr} {q : Str} (k : Keeps H H') (h : H c = some (LamX.CodeO c q)) : H' c = some (LamX.CodeO c q) := k.ext _ _ h
section
variable {K : PySem.W.Frag} {H H' : Hp}
theorem Keeps.rd {a : Addr} {xs : List V} (k : Keeps H H') (h : Rd H a (.tup xs)) : Rd H' a (.tup xs) := by
  rcases h with h | ⟨o, h⟩
  · exact .inl (k.tup _ _ h)
  · exact .inr ⟨o, k.frz _ _ _ h⟩
theorem Keeps.sqT {a : Addr} {xs : List V} (k : Keeps H H') (h : SqT K H a xs) : SqT K H' a xs := by
  rcases h with h | h
  · exact .inl (k.rd h)
  · exact .inr h
mutual
theorem Rep.mono (k : Keeps H H') : ∀ (d : DV) (v : V), Rep K H d v → Rep K H' d v
  | .non, v, h => by unfold Rep at h ⊢; exact h
  | .bl b, v, h => by unfold Rep at h ⊢; exact h
  | .int i, v, h => by unfold Rep at h ⊢; exact h
  | .str x, v, h => by unfold Rep at h ⊢; exact h
  | .ref a, v, h => by unfold Rep at h ⊢; exact h
  | .ty n, v, h => by unfold Rep at h ⊢; exact h
  | .tup xs, v, h => by
    unfold Rep at h ⊢
    obtain ⟨a, vs, e, s, r⟩ := h
    exact ⟨a, vs, e, k.sqT s, RepL.mono k xs vs r⟩
  | .lk xs, v, h => by
    unfold Rep at h ⊢
    obtain ⟨a, vs, e, s, r⟩ := h
    exact ⟨a, vs, e, s.imp (fun ⟨o, q⟩ => ⟨o, k.frz _ _ _ q⟩) id, RepL.mono k xs vs r⟩
  | .xt xs, v, h => by
    unfold Rep at h ⊢
    obtain ⟨a, vs, e, ⟨o, q, z⟩, r⟩ := h
    exact ⟨a, vs, e, ⟨o, k.frz _ _ _ q, z⟩, RepL.mono k xs vs r⟩
  | .fv L, v, h => by
    unfold Rep at h ⊢
    obtain ⟨f, c, e, h1, h2⟩ := h
    exact ⟨f, c, e, k.lamO h1, k.codeO h2⟩
  | .xo c f x, v, h => by
    unfold Rep at h ⊢
    obtain ⟨a, d, w, e, h1, h2, h3⟩ := h
    exact ⟨a, d, w, e, k.ext _ _ h1, k.ext _ _ h2, Rep.mono k x w h3⟩
  | .xb c, v, h => by
    unfold Rep at h ⊢
    obtain ⟨a, e, h1⟩ := h
    exact ⟨a, e, k.ext _ _ h1⟩
theorem RepL.mono (k : Keeps H H') : ∀ (ds : List DV) (vs : List V), RepL K H ds vs → RepL K H' ds vs
  | [], vs, h => by unfold RepL at h ⊢; exact h
  | x :: xs, vs, h => by
    unfold RepL at h ⊢
    obtain ⟨v, r, e, h1, h2⟩ := h
    exact ⟨v, r, e, Rep.mono k x v h1, RepL.mono k xs r h2⟩
end
theorem rep_tup {xs : List DV} {v : V} : Rep K H (.tup xs) v ↔ ∃ a vs, v = .ref a ∧ SqT K H a vs ∧ RepL K H xs vs := by rw [Rep]
theorem rep_lk {xs : List DV} {v : V} : Rep K H (.lk xs) v ↔ ∃ a vs, v = .ref a ∧ ((∃ o, H a = some (.frz o (.lst vs))) ∨ SqL K H0 a vs) ∧ RepL K H xs vs := by rw [Rep]
theorem rep_xt {xs : List DV} {v : V} : Rep K H (.xt xs) v ↔ ∃ a vs, v = .ref a ∧ (∃ o, H a = some (.frz o (.tup vs)) ∧ o.dict = none) ∧ RepL K H xs vs := by rw [Rep]
theorem rep_fv {L : LF.LamT} {v : V} : Rep K H (.fv L) v ↔ ∃ f c, v = .ref f ∧ H f = some (LF.LamO f c L) ∧ H c = some (LamX.CodeO c L.q) := by rw [Rep]
theorem rep_xo {c f : String} {x : DV} {v : V} : Rep K H (.xo c f x) v ↔ ∃ a d w, v = .ref a ∧ H a = some (exo a (He.ga K c) (some d)) ∧ H d = some (exd d [(Str.ofString f, w)]) ∧ Rep K H x w := by rw [Rep]
theorem rep_xb {c : String} {v : V} : Rep K H (.xb c) v ↔ ∃ a, v = .ref a ∧ H a = some (exo a (He.ga K c) none) := by rw [Rep]
theorem rep_forget {xs : List DV} {v : V} (h : Rep K H (.xt xs) v) : Rep K H (.tup xs) v := by
  obtain ⟨a, vs, e, ⟨o, q, z⟩, r⟩ := rep_xt.mp h
  exact rep_tup.mpr ⟨a, vs, e, .inl (.inr ⟨o, q⟩), r⟩
theorem rep_non {v : V} : Rep K H .non v ↔ v = .non := by rw [Rep]
theorem rep_bl {b : Bool} {v : V} : Rep K H (.bl b) v ↔ v = .bl b := by rw [Rep]
theorem rep_int {b : Int} {v : V} : Rep K H (.int b) v ↔ v = .int b := by rw [Rep]
theorem rep_str {b : Str} {v : V} : Rep K H (.str b) v ↔ v = .str b := by rw [Rep]
theorem rep_ref {b : Addr} {v : V} : Rep K H (.ref b) v ↔ v = .ref b := by rw [Rep]
theorem rep_ty {b : String} {v : V} : Rep K H (.ty b) v ↔ v = .ty b := by rw [Rep]
theorem repL_nil {vs : List V} : RepL K H [] vs ↔ vs = [] := by rw [RepL]
theorem repL_cons {x : DV} {xs : List DV} {vs : List V} : RepL K H (x :: xs) vs ↔ ∃ v r, vs = v :: r ∧ Rep K H x v ∧ RepL K H xs r := by rw [RepL]
theorem RepL.length : ∀ {ds : List DV} {vs : List V}, RepL K H ds vs → vs.length = ds.length
  | [], vs, h => by rw [repL_nil.mp h]; rfl
  | x :: xs, vs, h => by
    obtain ⟨v, r, e, _, h2⟩ := repL_cons.mp h
    rw [e, List.length_cons, RepL.length h2, List.length_cons]
theorem RepL.get : ∀ {ds : List DV} {vs : List V} {i : Nat} {v : V}, RepL K H ds vs → vs[i]? = some v → ∃ d, ds[i]? = some d ∧ Rep K H d v
  | [], vs, i, v, h, e => by rw [repL_nil.mp h] at e; simp at e
  | x :: xs, vs, i, v, h, e => by
    obtain ⟨w, r, rfl, h1, h2⟩ := repL_cons.mp h
    cases i with
    | zero => simp at e; subst e; exact ⟨x, by simp, h1⟩
    | succ i =>
      obtain ⟨d, q, r⟩ := RepL.get (i := i) h2 (by simpa using e)
      exact ⟨d, by simpa using q, r⟩
theorem RepL.get' : ∀ {ds : List DV} {vs : List V} {i : Nat} {d : DV}, RepL K H ds vs → ds[i]? = some d → ∃ v, vs[i]? = some v ∧ Rep K H d v
  | [], vs, i, v, h, e => by simp at e
  | x :: xs, vs, i, v, h, e => by
    obtain ⟨w, r, rfl, h1, h2⟩ := repL_cons.mp h
    cases i with
    | zero => simp at e; subst e; exact ⟨w, by simp, h1⟩
    | succ i =>
      obtain ⟨d, q, r⟩ := RepL.get' (i := i) h2 (by simpa using e)
      exact ⟨d, by simpa using q, r⟩
theorem RepL.append : ∀ {ds es : List DV} {vs us : List V}, RepL K H ds vs → RepL K H es us → RepL K H (ds ++ es) (vs ++ us)
  | [], _, vs, _, h, g => by rw [repL_nil.mp h]; exact g
  | x :: xs, _, vs, _, h, g => by
    obtain ⟨w, r, rfl, h1, h2⟩ := repL_cons.mp h
    exact repL_cons.mpr ⟨w, _, rfl, h1, h2.append g⟩
theorem RepL.take : ∀ {ds : List DV} {vs : List V} (n : Nat), RepL K H ds vs → RepL K H (ds.take n) (vs.take n)
  | _, _, 0, _ => by simp; exact repL_nil.mpr rfl
  | [], vs, n + 1, h => by rw [repL_nil.mp h]; simp; exact repL_nil.mpr rfl
  | x :: xs, vs, n + 1, h => by
    obtain ⟨w, r, rfl, h1, h2⟩ := repL_cons.mp h
    exact repL_cons.mpr ⟨w, _, rfl, h1, h2.take n⟩
theorem RepL.drop : ∀ {ds : List DV} {vs : List V} (n : Nat), RepL K H ds vs → RepL K H (ds.drop n) (vs.drop n)
  | _, _, 0, h => by simpa using h
  | [], vs, n + 1, h => by rw [repL_nil.mp h]; simp; exact repL_nil.mpr rfl
  | x :: xs, vs, n + 1, h => by
    obtain ⟨w, r, rfl, h1, h2⟩ := repL_cons.mp h
    exact h2.drop n
theorem RepL.reverse : ∀ {ds : List DV} {vs : List V}, RepL K H ds vs → RepL K H ds.reverse vs.reverse
  | [], vs, h => by rw [repL_nil.mp h]; exact repL_nil.mpr rfl
  | x :: xs, vs, h => by
    obtain ⟨w, r, rfl, h1, h2⟩ := repL_cons.mp h
    rw [List.reverse_cons, List.reverse_cons]
    exact h2.reverse.append (repL_cons.mpr ⟨w, [], rfl, h1, repL_nil.mpr rfl⟩)
theorem RepL.set : ∀ {ds : List DV} {vs : List V} {d : DV} {v : V} (i : Nat), RepL K H ds vs → Rep K H d v → RepL K H (ds.set i d) (vs.set i v)
  | [], vs, _, _, _, h, _ => by rw [repL_nil.mp h]; exact repL_nil.mpr rfl
  | x :: xs, vs, d, v, i, h, g => by
    obtain ⟨w, r, rfl, h1, h2⟩ := repL_cons.mp h
    cases i with
    | zero => exact repL_cons.mpr ⟨v, r, rfl, g, h2⟩
    | succ i => exact repL_cons.mpr ⟨w, _, rfl, h1, h2.set i g⟩
theorem RepL.ints : ∀ {ns : List Int} {vs : List V}, RepL K H (ns.map DV.int) vs ↔ vs = ns.map V.int
  | [], vs => by rw [List.map_nil, repL_nil, List.map_nil]
  | n :: ns, vs => by
    rw [List.map_cons, repL_cons, List.map_cons]
    constructor
    · rintro ⟨v, r, e, h1, h2⟩
      rw [e, rep_int.mp h1, RepL.ints.mp h2]
    · intro e
      exact ⟨_, _, e, rep_int.mpr rfl, RepL.ints.mpr rfl⟩
theorem RepL.strs : ∀ {ns : List Str} {vs : List V}, RepL K H (ns.map DV.str) vs ↔ vs = ns.map V.str
  | [], vs => by rw [List.map_nil, repL_nil, List.map_nil]
  | n :: ns, vs => by
    rw [List.map_cons, repL_cons, List.map_cons]
    constructor
    · rintro ⟨v, r, e, h1, h2⟩
      rw [e, rep_str.mp h1, RepL.strs.mp h2]
    · intro e
      exact ⟨_, _, e, rep_str.mpr rfl, RepL.strs.mpr rfl⟩
theorem RepL.bls : ∀ {ns : List Bool} {vs : List V}, RepL K H (ns.map DV.bl) vs ↔ vs = ns.map V.bl
  | [], vs => by rw [List.map_nil, repL_nil, List.map_nil]
  | n :: ns, vs => by
    rw [List.map_cons, repL_cons, List.map_cons]
    constructor
    · rintro ⟨v, r, e, h1, h2⟩
      rw [e, rep_bl.mp h1, RepL.bls.mp h2]
    · intro e
      exact ⟨_, _, e, rep_bl.mpr rfl, RepL.bls.mpr rfl⟩
end

theorem ofString_inj {a b : String} : Str.ofString a = Str.ofString b ↔ a = b := by
  constructor
  · intro h
    rw [Str.ofString_eq_toList, Str.ofString_eq_toList] at h
    have h1 : (a.toList.map Char.toNat) = (b.toList.map Char.toNat) := by
      have := congrArg Str.cps h
      simpa using this
    have h2 : a.toList = b.toList := by
      have inj : ∀ (l m : List Char), l.map Char.toNat = m.map Char.toNat → l = m := by
        intro l
        induction l with
        | nil => intro m e; cases m with
          | nil => rfl
          | cons c m => simp at e
        | cons c l ih => intro m e; cases m with
          | nil => simp at e
          | cons d m =>
            simp only [List.map_cons, List.cons.injEq] at e
            rw [ih m e.2]
            have : c = d := by
              have h3 := e.1
              exact Char.ext (UInt32.toNat_inj.mp h3)
            rw [this]
      exact inj _ _ h1
    exact String.toList_inj.mp h2
  · intro h; rw [h]
/-! ### the heap of what can change -/
inductive DO where
  | lst (xs : List DV)
  | dK (kvs : List (Key × DV))
  | ins (c : String) (fs : List (String × DV))
abbrev DH := Addr → Option DO
def updD (G : DH) (a : Addr) (o : DO) : DH := fun b => if b = a then some o else G b
theorem updD_same {G : DH} {a : Addr} {o : DO} : updD G a o a = some o := by unfold updD; rw [if_pos rfl]
theorem updD_ne {G : DH} {a b : Addr} {o : DO} (h : b ≠ a) : updD G a o b = G b := by unfold updD; rw [if_neg h]
/-- pairs: the same keys, values that stand for data -/
def RepP {κ : Type} (K : PySem.W.Frag) (H : Hp) : List (κ × DV) → List (κ × V) → Prop := Paired fun p q => p.1 = q.1 ∧ Rep K H p.2 q.2
/-- fields, by name -/
def RepF (K : PySem.W.Frag) (H : Hp) : List (String × DV) → List (Str × V) → Prop := Paired fun p q => Str.ofString p.1 = q.1 ∧ Rep K H p.2 q.2
def RepA (K : PySem.W.Frag) (H : Hp) (a : Addr) : DO → Prop
  | .lst xs => ∃ vs, H a = some (.lst vs) ∧ RepL K H xs vs
  | .dK kvs => ∃ ps, H a = some (.dK ps) ∧ RepP K H kvs ps
  | .ins c fs => ∃ dx gs, H a = some (.ins (He.ga K c) dx gs) ∧ RepF K H fs gs
/-- the table of a def whose lambdas are told; the name of its lambdas -/
def LamTab (K : PySem.W.Frag) (P : Addr) (q : Str) : Prop := ∃ (c : Addr) (o : Obj) (vs : Array Value) (q0 : Str) (t : Tok), K.lookup c = some o ∧ o.data = .fields vs ∧ vs[11]? = some (.ref P) ∧ vs[1]? = some (.str q0 t) ∧ q0 ∈ lamQuals ∧ q = q0 ++ ".<locals>." ++ "<lambda>"
def TabK (K : PySem.W.Frag) (H : Hp) : Prop := ∀ P q, LamTab K P q → LamX.TabS H P q
structure Rel (K : PySem.W.Frag) (G : DH) (H : Hp) : Prop where
  rep : ∀ a o, G a = some o → RepA K H a o
  tab : TabK K H
instance {K : PySem.W.Frag} {G : DH} {H : Hp} : CoeFun (Rel K G H) (fun _ => ∀ a o, G a = some o → RepA K H a o) := ⟨Rel.rep⟩
def noTbl : HO → Prop
  | .tbl _ => False
  | _ => True
/-- what is not in the data's heap stands (but the tables) -/
def Frame (G : DH) (H : Hp) (G' : DH) (H' : Hp) : Prop := ∀ a o, H a = some o → G a = none → noTbl o → H' a = some o ∧ G' a = none
theorem Frame.refl (G : DH) (H : Hp) : Frame G H G H := fun _ _ h g _ => ⟨h, g⟩
theorem Frame.trans {G G1 G2 : DH} {H H1 H2 : Hp} (a : Frame G H G1 H1) (b : Frame G1 H1 G2 H2) : Frame G H G2 H2 := fun c o h g n => b c o (a c o h g n).1 (a c o h g n).2 n
theorem TabK.mono {K : PySem.W.Frag} {H H' : Hp} (t : TabK K H) (e : ∀ b o, H b = some o → (∀ xs, o ≠ .lst xs) → (∀ xs, o ≠ .dK xs) → (∀ C dx gs, o ≠ .ins C dx gs) → H' b = some o) : TabK K H' := fun P q hp => by
  obtain ⟨ps, h1, h2, h3⟩ := t P q hp
  refine ⟨ps, e _ _ h1 (fun _ z => by cases z) (fun _ z => by cases z) (fun _ _ _ z => by cases z), h2, fun pos cv hc => ?_⟩
  obtain ⟨c, e1, e2⟩ := h3 pos cv hc
  exact ⟨c, e1, e _ _ e2 (fun _ z => by unfold LamX.CodeO at z; cases z) (fun _ z => by unfold LamX.CodeO at z; cases z) (fun _ _ _ z => by unfold LamX.CodeO at z; cases z)⟩
theorem TabK.ext {K : PySem.W.Frag} {H H' : Hp} (t : TabK K H) (e : ∀ b o, H b = some o → H' b = some o) : TabK K H' := t.mono fun b o h _ _ _ => e b o h
section
variable {K : PySem.W.Frag} {G G' G1 : DH} {H H' H1 : Hp}
theorem Rel.un {a : Addr} {o : DO} (r : Rel K G H) (g : G a = some o) : (∃ vs, H a = some (.lst vs)) ∨ (∃ ps, H a = some (.dK ps)) ∨ ∃ C dx gs, H a = some (.ins C dx gs) := by
  have h := r.rep a o g
  cases o with
  | lst xs => obtain ⟨vs, h, _⟩ := h; exact .inl ⟨vs, h⟩
  | dK kvs => obtain ⟨vs, h, _⟩ := h; exact .inr (.inl ⟨vs, h⟩)
  | ins C fs => obtain ⟨dx, gs, h, _⟩ := h; exact .inr (.inr ⟨_, dx, gs, h⟩)
theorem Rel.none_of {a : Addr} {u : HO} (r : Rel K G H) (h : H a = some u) (n1 : ∀ xs, u ≠ .lst xs) (n2 : ∀ xs, u ≠ .dK xs) (n3 : ∀ C dx gs, u ≠ .ins C dx gs) : G a = none := by
  cases g : G a with
  | none => rfl
  | some o =>
    rcases r.un g with ⟨_, q⟩ | ⟨_, q⟩ | ⟨_, _, _, q⟩ <;> rw [h] at q
    · exact absurd (Option.some.inj q) (n1 _)
    · exact absurd (Option.some.inj q) (n2 _)
    · exact absurd (Option.some.inj q) (n3 _ _ _)
theorem Rel.notTup {a : Addr} {xs : List V} (r : Rel K G H) (h : H a = some (.tup xs)) : G a = none := r.none_of h (fun _ z => by cases z) (fun _ z => by cases z) (fun _ _ _ z => by cases z)
theorem Rel.notFrz {a : Addr} {o : Obj} {u : HO} (r : Rel K G H) (h : H a = some (.frz o u)) : G a = none := r.none_of h (fun _ z => by cases z) (fun _ z => by cases z) (fun _ _ _ z => by cases z)
theorem Rel.notExt {a : Addr} {u : Heap → Prop} (r : Rel K G H) (h : H a = some (.ext u)) : G a = none := r.none_of h (fun _ z => by cases z) (fun _ z => by cases z) (fun _ _ _ z => by cases z)
theorem Rel.fresh {a : Addr} (r : Rel K G H) (h : H a = none) : G a = none := by
  cases g : G a with
  | none => rfl
  | some o => rcases r.un g with ⟨_, q⟩ | ⟨_, q⟩ | ⟨_, _, _, q⟩ <;> (rw [h] at q; cases q)
theorem Frame.keeps (f : Frame G H G' H') (r : Rel K G H) : Keeps H H' :=
  ⟨fun a xs h => (f a _ h (r.notTup h) trivial).1, fun a o u h => (f a _ h (r.notFrz h) trivial).1, fun a u h => (f a _ h (r.notExt h) trivial).1⟩
theorem RepP.mono {κ : Type} (k : Keeps H H') {xs : List (κ × DV)} {ys : List (κ × V)} (h : RepP K H xs ys) : RepP K H' xs ys :=
  Paired.mapP h fun _ _ ⟨e, r⟩ => ⟨e, r.mono k⟩
theorem RepF.mono (k : Keeps H H') {xs : List (String × DV)} {ys : List (Str × V)} (h : RepF K H xs ys) : RepF K H' xs ys :=
  Paired.mapP h fun _ _ ⟨e, r⟩ => ⟨e, r.mono k⟩
theorem RepA.mono (k : Keeps H H') {a : Addr} {o : DO} (e : H' a = H a) (h : RepA K H a o) : RepA K H' a o := by
  cases o with
  | lst xs => obtain ⟨vs, h, r⟩ := h; exact ⟨vs, e.trans h, r.mono k⟩
  | dK kvs => obtain ⟨vs, h, r⟩ := h; exact ⟨vs, e.trans h, r.mono k⟩
  | ins C fs => obtain ⟨dx, gs, h, r⟩ := h; exact ⟨dx, gs, e.trans h, r.mono k⟩
theorem keeps_new {p : Addr} {u : HO} (hp : H p = none) : Keeps H (upd H p u) := ⟨fun a xs h => by rw [upd_ne (ne_of_none h hp)]; exact h, fun a o u h => by rw [upd_ne (ne_of_none h hp)]; exact h, fun a u h => by rw [upd_ne (ne_of_none h hp)]; exact h⟩
theorem Rel.keepsW (r : Rel K G H) {p : Addr} {u : HO} {o : DO} (hp : G p = some o) : Keeps H (upd H p u) :=
  ⟨fun a xs h => by rw [upd_ne (fun z => by rw [z] at h; rw [r.notTup h] at hp; cases hp)]; exact h, fun a ob uu h => by rw [upd_ne (fun z => by rw [z] at h; rw [r.notFrz h] at hp; cases hp)]; exact h, fun a uu h => by rw [upd_ne (fun z => by rw [z] at h; rw [r.notExt h] at hp; cases hp)]; exact h⟩
/-- a new object that the data's heap does not hold (a tuple) -/
theorem Rel.aside (r : Rel K G H) {p : Addr} {u : HO} (hp : H p = none) : Rel K G (upd H p u) ∧ Frame G H G (upd H p u) := by
  have f : Frame G H G (upd H p u) := fun a o h g _ => ⟨by rw [upd_ne (ne_of_none h hp)]; exact h, g⟩
  refine ⟨⟨fun a o g => ?_, r.tab.ext fun b o h => by rw [upd_ne (ne_of_none h hp)]; exact h⟩, f⟩
  have hne : a ≠ p := fun z => by rw [z, r.fresh hp] at g; cases g
  exact (r.rep a o g).mono (keeps_new hp) (upd_ne hne)
/-- a new object of the data's heap -/
theorem Rel.new (r : Rel K G H) {p : Addr} {u : HO} {o : DO} (hp : H p = none) (h : RepA K (upd H p u) p o) : Rel K (updD G p o) (upd H p u) ∧ Frame G H (updD G p o) (upd H p u) := by
  have f : Frame G H (updD G p o) (upd H p u) := fun a ob q g _ => ⟨by rw [upd_ne (ne_of_none q hp)]; exact q, by rw [updD_ne (ne_of_none q hp)]; exact g⟩
  refine ⟨⟨fun a ob g => ?_, r.tab.ext fun b o h => by rw [upd_ne (ne_of_none h hp)]; exact h⟩, f⟩
  by_cases e : a = p
  · rw [e, updD_same] at g; cases g; rw [e]; exact h
  · rw [updD_ne e] at g
    exact (r.rep a ob g).mono (keeps_new hp) (upd_ne e)
/-- an object of the data's heap is changed -/
theorem Rel.write (r : Rel K G H) {p : Addr} {u : HO} {o o' : DO} (hp : G p = some o) (h : RepA K (upd H p u) p o') : Rel K (updD G p o') (upd H p u) ∧ Frame G H (updD G p o') (upd H p u) := by
  have ne : ∀ a, G a = none → a ≠ p := fun a g z => by rw [z, hp] at g; cases g
  have f : Frame G H (updD G p o') (upd H p u) := fun a ob q g _ => ⟨by rw [upd_ne (ne a g)]; exact q, by rw [updD_ne (ne a g)]; exact g⟩
  refine ⟨⟨fun a ob g => ?_, r.tab.mono fun b o h n1 n2 n3 => by rw [upd_ne (ne b (r.none_of h n1 n2 n3))]; exact h⟩, f⟩
  by_cases e : a = p
  · rw [e, updD_same] at g; cases g; rw [e]; exact h
  · rw [updD_ne e] at g
    exact (r.rep a ob g).mono (r.keepsW hp) (upd_ne e)
end
end DL
end
section
set_option Elab.async false
set_option linter.all false
set_option maxRecDepth 100000
set_option autoImplicit false
namespace DL
open PySem PySem.Spec PyProof.Rows L2

abbrev DSt := List (Option DV)
abbrev DK := DV → DH → Prop
abbrev DTE := DSt → DH → DK → Prop
abbrev DTT := DSt → DH → (Bool → DH → Prop) → Prop
abbrev DTA := DSt → DH → (List DV → DH → Prop) → Prop
structure RelS (K : PySem.W.Frag) (H : Hp) (τ : DSt) (σ : L2.St) : Prop where
  len : τ.length = σ.length
  get : ∀ (i : Nat) (d : DV), τ[i]? = some (some d) → ∃ v, σ[i]? = some (some v) ∧ Rep K H d v
section
variable {K : PySem.W.Frag} {H H' : Hp} {τ : DSt} {σ : L2.St}
theorem RelS.mono (r : RelS K H τ σ) (k : Keeps H H') : RelS K H' τ σ := ⟨r.len, fun i d e => let ⟨v, q, z⟩ := r.get i d e; ⟨v, q, z.mono k⟩⟩
theorem RelS.set (r : RelS K H τ σ) (i : Nat) {d : DV} {v : V} (h : Rep K H d v) : RelS K H (τ.set i (some d)) (σ.set i (some v)) := by
  refine ⟨by simp [r.len], fun j e q => ?_⟩
  by_cases hj : i = j
  · subst hj
    by_cases hl : i < τ.length
    · rw [List.getElem?_set_self hl] at q
      cases q
      exact ⟨v, List.getElem?_set_self (by rw [← r.len]; exact hl), h⟩
    · rw [List.getElem?_eq_none (by simp; omega)] at q; cases q
  · rw [List.getElem?_set_ne hj] at q ⊢
    exact r.get j e q
theorem RelS.unset (r : RelS K H τ σ) (i : Nat) : RelS K H (τ.set i none) (σ.set i none) := by
  refine ⟨by simp [r.len], fun j e q => ?_⟩
  by_cases hj : i = j
  · subst hj
    by_cases hl : i < τ.length
    · rw [List.getElem?_set_self hl] at q; cases q
    · rw [List.getElem?_eq_none (by simp; omega)] at q; cases q
  · rw [List.getElem?_set_ne hj] at q ⊢
    exact r.get j e q
end
/-! ### what is wanted of an exception -/
/-- by its class's name, its fields, the data's heap -/
abbrev DXK := String → List (String × DV) → DH → Prop
/-- a wish of data, a wish of the layer -/
structure XP where
  EX : DXK
  Ex : XK
structure XR (K : PySem.W.Frag) (x : XP) (G : DH) (H : Hp) : Prop where
  fs : ∀ (c : String) (fs : List (String × DV)) (dd : Addr) (gs : List (Str × V)) (G' : DH) (H' : Hp), H' dd = some (.xd gs) → RepF K H' fs gs → Rel K G' H' → Frame G H G' H' → x.EX c fs G' → x.Ex (.ref (He.ga K c)) (some dd) H'
  bare : ∀ (c : String) (G' : DH) (H' : Hp), Rel K G' H' → Frame G H G' H' → x.EX c [] G' → x.Ex (.ref (He.ga K c)) none H'
theorem XR.mono {K : PySem.W.Frag} {x : XP} {G G1 : DH} {H H1 : Hp} (r : XR K x G H) (f : Frame G H G1 H1) : XR K x G1 H1 :=
  ⟨fun c fs dd gs G' H' h1 h2 h3 h4 => r.fs c fs dd gs G' H' h1 h2 h3 (f.trans h4), fun c G' H' h3 h4 => r.bare c G' H' h3 (f.trans h4)⟩
def RelX (K : PySem.W.Frag) (x : XP) (G : DH) (H : Hp) : Prop := Rel K G H ∧ XR K x G H
theorem RelX.to {K : PySem.W.Frag} {x : XP} {G G1 : DH} {H H1 : Hp} (r : RelX K x G H) (q : Rel K G1 H1) (f : Frame G H G1 H1) : RelX K x G1 H1 := ⟨q, r.2.mono f⟩
/-! ### readings of data, as readings of the layer -/
def liftE (K : PySem.W.Frag) (x : XP) (t : DTE) : TE := fun σ H Q => ∃ (τ : DSt) (G : DH) (P : DK), RelS K H τ σ ∧ RelX K x G H ∧ t τ G P ∧
  ∀ d G' v H', Rep K H' d v → RelX K x G' H' → Frame G H G' H' → P d G' → Q v H'
def liftT (K : PySem.W.Frag) (x : XP) (t : DTT) : TT := fun σ H Q => ∃ (τ : DSt) (G : DH) (P : Bool → DH → Prop), RelS K H τ σ ∧ RelX K x G H ∧ t τ G P ∧
  ∀ d G' H', RelX K x G' H' → Frame G H G' H' → P d G' → Q d H'
def liftA (K : PySem.W.Frag) (x : XP) (t : DTA) : TA := fun σ H Q => ∃ (τ : DSt) (G : DH) (P : List DV → DH → Prop), RelS K H τ σ ∧ RelX K x G H ∧ t τ G P ∧
  ∀ ds G' vs H', RepL K H' ds vs → RelX K x G' H' → Frame G H G' H' → P ds G' → Q vs H'
abbrev DE (X : Cx) (x : XP) (e : Expr) (t : DTE) : Prop := PE X e (liftE X.K x t)
abbrev DT (X : Cx) (x : XP) (e : Expr) (t : DTT) : Prop := PT X e (liftT X.K x t)
abbrev DA (X : Cx) (x : XP) (es : List Expr) (t : DTA) : Prop := PA X es (liftA X.K x t)
theorem pe_weak {X : Cx} {e : Expr} {t t' : TE} (h : PE X e t) (w : ∀ σ H Q, t' σ H Q → t σ H Q) : PE X e t' := ⟨fun pins s σ H Q I q => h.run pins s σ H Q I (w σ H Q q)⟩
theorem pt_weak {X : Cx} {e : Expr} {t t' : TT} (h : PT X e t) (w : ∀ σ H Q, t' σ H Q → t σ H Q) : PT X e t' := ⟨fun pins s σ H Q I q => h.run pins s σ H Q I (w σ H Q q)⟩
theorem pa_weak {X : Cx} {e : List Expr} {t t' : TA} (h : PA X e t) (w : ∀ σ H Q, t' σ H Q → t σ H Q) : PA X e t' := ⟨fun pos pins s σ H Q I q => h.run pos pins s σ H Q I (w σ H Q q)⟩
theorem ps_weak {X : Cx} {e : Stmt} {t t' : TS} (h : PS X e t) (w : ∀ D σ H, t' D σ H → t D σ H) : PS X e t' := ⟨fun pins s σ H D I q => h.run pins s σ H D I (w D σ H q)⟩
theorem pss_weak {X : Cx} {e : List Stmt} {t t' : TS} (h : PSs X e t) (w : ∀ D σ H, t' D σ H → t D σ H) : PSs X e t' := ⟨fun pins s σ H D I q => h.run pins s σ H D I (w D σ H q)⟩

section
variable {X : Cx} {ξ : XP} {a b c e : Expr} {es : List Expr} {ta tb tc te : DTE} {t : DTA} {pos : Pos}
/-! ### names, constants -/
theorem keeps_H0 (H : Hp) : Keeps H0 H := ⟨fun a xs q => (by cases q), fun a o u q => (by cases q), fun a u q => (by cases q)⟩
def dVar (i : Nat) : DTE := fun τ G P => ∃ d, τ[i]? = some (some d) ∧ P d G
theorem de_var {i : Nat} {x : Str} (hN : X.N[i]? = some x) (hv : Vis X.env.scope x) (hd : (x == ("__debug__" : Str)) = false) (hcd : (x == ("__classdict__" : Str)) = false) : DE X ξ (.Name x pos) (dVar i) :=
  pe_weak (pe_var hN hv hd hcd) fun σ H Q ⟨τ, G, P, rs, r, ⟨d, e, h⟩, k⟩ => let ⟨v, q, z⟩ := rs.get i d e; ⟨v, q, k d G v H z r (Frame.refl G H) h⟩
/-- a datum that never changes, whatever the heap is -/
def dC (d : DV) : DTE := fun _ G P => P d G
theorem de_of {t : TE} {d : DV} (h : PE X e t) (w : ∀ σ H (Q : VK), (∀ v, Rep X.K H d v → Q v H) → t σ H Q) : DE X ξ e (dC d) :=
  pe_weak h fun σ H Q ⟨τ, G, P, rs, r, p, k⟩ => w σ H Q fun v z => k d G v H z r (Frame.refl G H) p
theorem de_int {i : Int} {j : Nat} : DE X ξ (.Constant (.int i) j pos) (dC (.int i)) := de_of pe_int fun σ H Q h => h _ (rep_int.mpr rfl)
theorem de_bl {i : Bool} {j : Nat} : DE X ξ (.Constant (.bool i) j pos) (dC (.bl i)) := de_of pe_bl fun σ H Q h => h _ (rep_bl.mpr rfl)
theorem de_non {j : Nat} : DE X ξ (.Constant .none j pos) (dC .non) := de_of pe_non fun σ H Q h => h _ (rep_non.mpr rfl)
theorem de_str {i : Str} {j : Nat} : DE X ξ (.Constant (.str i) j pos) (dC (.str i)) := de_of pe_str fun σ H Q h => h _ (rep_str.mpr rfl)
theorem de_glob {x : Str} {d : DV} {v : V} {u : Value} (hg : Gl X x) (hm : X.mg x = some u) (r : RelV v u) (z : Rep X.K H0 d v) (hd : (x == ("__debug__" : Str)) = false) : DE X ξ (.Name x pos) (dC d) :=
  de_of (pe_glob hg hm r hd) fun σ H Q h => h v (z.mono (keeps_H0 H))
/-! ### one and two operands -/
abbrev DR1 := DV → DH → DK → Prop
abbrev DR2 := DV → DV → DH → DK → Prop
/-- a rule of the layer is served by a rule of data -/
def DOp1 (K : PySem.W.Frag) (r : V → Hp → VK → Prop) (rd : DR1) : Prop := ∀ x G (P : DK) v H (Q : VK), Rep K H x v → Rel K G H → rd x G P →
  (∀ d G' w H', Rep K H' d w → Rel K G' H' → Frame G H G' H' → P d G' → Q w H') → r v H Q
def DOp (K : PySem.W.Frag) (r : R2) (rd : DR2) : Prop := ∀ x y G (P : DK) v u H (Q : VK), Rep K H x v → Rep K H y u → Rel K G H → rd x y G P →
  (∀ d G' w H', Rep K H' d w → Rel K G' H' → Frame G H G' H' → P d G' → Q w H') → r v u H Q
def dOp1 (rd : DR1) (ta : DTE) : DTE := fun τ G P => ta τ G fun x G1 => rd x G1 P
def dOp (rd : DR2) (ta tb : DTE) : DTE := fun τ G P => ta τ G fun x G1 => tb τ G1 fun y G2 => rd x y G2 P
theorem lift_op1 {K : PySem.W.Frag} {ξ : XP} {r : V → Hp → VK → Prop} {rd : DR1} (h : DOp1 K r rd) (ta : DTE) : ∀ σ H Q, liftE K ξ (dOp1 rd ta) σ H Q → liftE K ξ ta σ H fun v H1 => r v H1 Q :=
  fun σ H Q ⟨τ, G, P, rs, rl, p, k⟩ => ⟨τ, G, _, rs, rl, p, fun x G1 v H1 z r1 f1 p1 => h x G1 P v H1 Q z r1.1 p1 fun d G2 w H2 z2 r2 f2 p2 => k d G2 w H2 z2 (r1.to r2 f2) (f1.trans f2) p2⟩
theorem lift_op {K : PySem.W.Frag} {ξ : XP} {r : R2} {rd : DR2} (h : DOp K r rd) (ta tb : DTE) : ∀ σ H Q, liftE K ξ (dOp rd ta tb) σ H Q → liftE K ξ ta σ H fun v H1 => liftE K ξ tb σ H1 fun u H2 => r v u H2 Q :=
  fun σ H Q ⟨τ, G, P, rs, rl, p, k⟩ => ⟨τ, G, _, rs, rl, p, fun x G1 v H1 z r1 f1 p1 => ⟨τ, G1, _, rs.mono (f1.keeps rl.1), r1, p1, fun y G2 u H2 z2 r2 f2 p2 =>
    h x y G2 P v u H2 Q (z.mono (f2.keeps r1.1)) z2 r2.1 p2 fun d G3 w H3 z3 r3 f3 p3 => k d G3 w H3 z3 (r2.to r3 f3) (f1.trans (f2.trans f3)) p3⟩⟩
theorem de_un {op : UnaryOp} {r : V → Hp → VK → Prop} {rd : DR1} (ho : UnR X (unaryOp op) r) (h : DOp1 X.K r rd) (ha : DE X ξ a ta) : DE X ξ (.UnaryOp op a pos) (dOp1 rd ta) := pe_weak (pe_un ho ha) (lift_op1 h ta)
theorem de_bin {op : Operator} {r : R2} {rd : DR2} (ho : OpR X (binaryOp op) r) (h : DOp X.K r rd) (ha : DE X ξ a ta) (hb : DE X ξ b tb) : DE X ξ (.BinOp a op b pos) (dOp rd ta tb) := pe_weak (pe_op ho ha hb) (lift_op h ta tb)
theorem de_cmp {op : CmpOp} {r : R2} {rd : DR2} (ho : OpR X (compareOp op) r) (h : DOp X.K r rd) (ha : DE X ξ a ta) (hb : DE X ξ b tb) (hm : behindInMarks op b = false) : DE X ξ (.Compare a [op] [b] pos) (dOp rd ta tb) := pe_weak (pe_cmpR ho ha hb hm) (lift_op h ta tb)
theorem de_ix {r : R2} {rd : DR2} (ho : IxR X r) (h : DOp X.K r rd) (ha : DE X ξ a ta) (hb : DE X ξ b tb) (hm : PlainIx b) : DE X ξ (.Subscript a b pos) (dOp rd ta tb) := pe_weak (pe_ix ho ha hb hm) (lift_op h ta tb)
/-! ### tests -/
/-- a value that is a truth, as a test; a test's value -/
def dTest (t : DTE) : DTT := fun τ G P => t τ G fun x G1 => ∃ c, x = .bl c ∧ P c G1
theorem lift_test {K : PySem.W.Frag} {ξ : XP} (t : DTE) : ∀ σ H Q, liftT K ξ (dTest t) σ H Q → liftE K ξ t σ H fun x H1 => ∃ c, x = .bl c ∧ Q c H1 :=
  fun σ H Q ⟨τ, G, P, rs, rl, p, k⟩ => ⟨τ, G, _, rs, rl, p, fun x G1 v H1 z r1 f1 ⟨c, e, p1⟩ => by subst e; exact ⟨c, rep_bl.mp z, k c G1 H1 r1 f1 p1⟩⟩
theorem dt_val (h : DE X ξ e te) (he : ∀ whole, isTrue e X.env whole = (do let v ← whole; standAt e.pos; holding [v] (truthy v))) : DT X ξ e (dTest te) := pt_weak (pt_val h he) (lift_test te)
theorem dt_cmp {op : CmpOp} {r : R2} {rd : DR2} (ho : OpR X (compareOp op) r) (h : DOp X.K r rd) (ha : DE X ξ a ta) (hb : DE X ξ b tb) (hm : behindInMarks op b = false) : DT X ξ (.Compare a [op] [b] pos) (dTest (dOp rd ta tb)) :=
  pt_weak (pt_cmpR ho ha hb hm) fun σ H Q q => lift_op (fun x y G P v u H Q z1 z2 rl p k => h x y G P v u H Q z1 z2 rl p k) ta tb σ H _ (by
    obtain ⟨τ, G, P, rs, rl, p, k⟩ := q
    exact ⟨τ, G, _, rs, rl, p, fun x G1 v H1 z r1 f1 ⟨c, e, p1⟩ => by subst e; exact ⟨c, rep_bl.mp z, k c G1 H1 r1 f1 p1⟩⟩)
def dAndT (t u : DTT) : DTT := fun τ G P => t τ G fun c G1 => if c = true then u τ G1 P else P false G1
def dOrT (t u : DTT) : DTT := fun τ G P => t τ G fun c G1 => if c = true then P true G1 else u τ G1 P
def dNotT (t : DTT) : DTT := fun τ G P => t τ G fun c G1 => P (!c) G1
theorem lift_ifT {K : PySem.W.Frag} {ξ : XP} {α : Type} (t : DTT) {σ : L2.St} {H : Hp} {τ : DSt} {G : DH} {A : DH → Prop} {B : DH → Prop} {A' B' : Hp → Prop} (rs : RelS K H τ σ) (rl : RelX K ξ G H) (p : t τ G fun c G1 => if c = true then A G1 else B G1)
    (ha : ∀ G1 H1, RelX K ξ G1 H1 → Frame G H G1 H1 → A G1 → A' H1) (hb : ∀ G1 H1, RelX K ξ G1 H1 → Frame G H G1 H1 → B G1 → B' H1) : liftT K ξ t σ H fun c H1 => if c = true then A' H1 else B' H1 :=
  ⟨τ, G, _, rs, rl, p, fun c G1 H1 r1 f1 p1 => by
    cases c with
    | true => rw [if_pos rfl] at p1 ⊢; exact ha G1 H1 r1 f1 p1
    | false => rw [if_neg (by decide)] at p1 ⊢; exact hb G1 H1 r1 f1 p1⟩
abbrev DW (X : Cx) (x : XP) (e : Expr) (t : DTT) : Prop := PW X e (liftT X.K x t)
theorem pw_weak {X : Cx} {e : Expr} {t t' : TT} (h : PW X e t) (w : ∀ σ H Q, t' σ H Q → t σ H Q) : PW X e t' := ⟨fun wh pins s σ H Q I q => h.run wh pins s σ H Q I (w σ H Q q)⟩
variable {tA tB : DTT} {rest : List Expr}
theorem dw_and1 (ha : DT X ξ a tA) : DW X ξ (.BoolOp .And [a] pos) tA := pw_and1 ha
theorem dw_or1 (ha : DT X ξ a tA) : DW X ξ (.BoolOp .Or [a] pos) tA := pw_or1 ha
theorem dw_and (ha : DT X ξ a tA) (hb : DW X ξ (.BoolOp .And (b :: rest) pos) tB) : DW X ξ (.BoolOp .And (a :: b :: rest) pos) (dAndT tA tB) :=
  pw_weak (pw_and ha hb) fun σ H Q ⟨τ, G, P, rs, rl, p, k⟩ => lift_ifT (α := Unit) tA rs rl p (fun G1 H1 r1 f1 p1 => ⟨τ, G1, P, rs.mono (f1.keeps rl.1), r1, p1, fun d G2 H2 r2 f2 p2 => k d G2 H2 r2 (f1.trans f2) p2⟩) fun G1 H1 r1 f1 p1 => k false G1 H1 r1 f1 p1
theorem dw_or (ha : DT X ξ a tA) (hb : DW X ξ (.BoolOp .Or (b :: rest) pos) tB) : DW X ξ (.BoolOp .Or (a :: b :: rest) pos) (dOrT tA tB) :=
  pw_weak (pw_or ha hb) fun σ H Q ⟨τ, G, P, rs, rl, p, k⟩ => lift_ifT (α := Unit) tA rs rl p (fun G1 H1 r1 f1 p1 => k true G1 H1 r1 f1 p1) fun G1 H1 r1 f1 p1 => ⟨τ, G1, P, rs.mono (f1.keeps rl.1), r1, p1, fun d G2 H2 r2 f2 p2 => k d G2 H2 r2 (f1.trans f2) p2⟩
theorem dt_not (ha : DT X ξ a tA) : DT X ξ (.UnaryOp .Not a pos) (dNotT tA) :=
  pt_weak (pt_not ha) fun σ H Q ⟨τ, G, P, rs, rl, p, k⟩ => ⟨τ, G, _, rs, rl, p, fun c G1 H1 r1 f1 p1 => k (!c) G1 H1 r1 f1 p1⟩
/-- and, or, not of truths, as values -/
def dAndV (ta tb : DTE) : DTE := fun τ G P => ta τ G fun x G1 => ∃ c, x = .bl c ∧ if c = true then tb τ G1 P else P (.bl false) G1
def dOrV (ta tb : DTE) : DTE := fun τ G P => ta τ G fun x G1 => ∃ c, x = .bl c ∧ if c = true then P (.bl true) G1 else tb τ G1 P
def dNotV (ta : DTE) : DTE := fun τ G P => ta τ G fun x G1 => ∃ c, x = .bl c ∧ P (.bl (!c)) G1
theorem de_one {op : BoolOp} (h : DE X ξ a ta) : DE X ξ (.BoolOp op [a] pos) ta := pe_one h
theorem lift_ifV {K : PySem.W.Frag} {ξ : XP} (t : DTE) {σ : L2.St} {H : Hp} {τ : DSt} {G : DH} {A : DH → Prop} {B : DH → Prop} {A' B' : Hp → Prop} (rs : RelS K H τ σ) (rl : RelX K ξ G H) (p : t τ G fun x G1 => ∃ c, x = .bl c ∧ if c = true then A G1 else B G1)
    (ha : ∀ G1 H1, RelX K ξ G1 H1 → Frame G H G1 H1 → A G1 → A' H1) (hb : ∀ G1 H1, RelX K ξ G1 H1 → Frame G H G1 H1 → B G1 → B' H1) : liftE K ξ t σ H fun x H1 => ∃ c, x = .bl c ∧ if c = true then A' H1 else B' H1 :=
  ⟨τ, G, _, rs, rl, p, fun d G1 v H1 z r1 f1 ⟨c, e, p1⟩ => by
    subst e
    refine ⟨c, rep_bl.mp z, ?_⟩
    cases c with
    | true => rw [if_pos rfl] at p1 ⊢; exact ha G1 H1 r1 f1 p1
    | false => rw [if_neg (by decide)] at p1 ⊢; exact hb G1 H1 r1 f1 p1⟩
theorem de_and (ha : DE X ξ a ta) (hb : DE X ξ (.BoolOp .And (b :: rest) pos) tb) : DE X ξ (.BoolOp .And (a :: b :: rest) pos) (dAndV ta tb) :=
  pe_weak (pe_and ha hb) fun σ H Q ⟨τ, G, P, rs, rl, p, k⟩ => lift_ifV ta rs rl p (fun G1 H1 r1 f1 p1 => ⟨τ, G1, P, rs.mono (f1.keeps rl.1), r1, p1, fun d G2 v H2 z r2 f2 p2 => k d G2 v H2 z r2 (f1.trans f2) p2⟩) fun G1 H1 r1 f1 p1 => k _ G1 _ H1 (rep_bl.mpr rfl) r1 f1 p1
theorem de_or (ha : DE X ξ a ta) (hb : DE X ξ (.BoolOp .Or (b :: rest) pos) tb) : DE X ξ (.BoolOp .Or (a :: b :: rest) pos) (dOrV ta tb) :=
  pe_weak (pe_or ha hb) fun σ H Q ⟨τ, G, P, rs, rl, p, k⟩ => lift_ifV ta rs rl p (fun G1 H1 r1 f1 p1 => k _ G1 _ H1 (rep_bl.mpr rfl) r1 f1 p1) fun G1 H1 r1 f1 p1 => ⟨τ, G1, P, rs.mono (f1.keeps rl.1), r1, p1, fun d G2 v H2 z r2 f2 p2 => k d G2 v H2 z r2 (f1.trans f2) p2⟩
theorem de_not (ha : DE X ξ a ta) : DE X ξ (.UnaryOp .Not a pos) (dNotV ta) :=
  pe_weak (pe_not ha) fun σ H Q ⟨τ, G, P, rs, rl, p, k⟩ => ⟨τ, G, _, rs, rl, p, fun d G1 v H1 z r1 f1 ⟨c, e, p1⟩ => by subst e; exact ⟨c, rep_bl.mp z, k _ G1 _ H1 (rep_bl.mpr rfl) r1 f1 p1⟩⟩
def dIte (t : DTT) (ta tb : DTE) : DTE := fun τ G P => t τ G fun c G1 => if c = true then ta τ G1 P else tb τ G1 P
theorem de_ite (hc : DT X ξ c tA) (ha : DE X ξ a ta) (hb : DE X ξ b tb) : DE X ξ (.IfExp c a b pos) (dIte tA ta tb) :=
  pe_weak (pe_ifExp hc ha hb) fun σ H Q ⟨τ, G, P, rs, rl, p, k⟩ => lift_ifT (α := Unit) tA rs rl p
    (fun G1 H1 r1 f1 p1 => ⟨τ, G1, P, rs.mono (f1.keeps rl.1), r1, p1, fun d G2 v H2 z r2 f2 p2 => k d G2 v H2 z r2 (f1.trans f2) p2⟩)
    (fun G1 H1 r1 f1 p1 => ⟨τ, G1, P, rs.mono (f1.keeps rl.1), r1, p1, fun d G2 v H2 z r2 f2 p2 => k d G2 v H2 z r2 (f1.trans f2) p2⟩)
/-- a chain of two comparisons -/
def dChain (rd rd' : DR2) (ta tb tc : DTE) : DTE := fun τ G P => ta τ G fun x G1 => tb τ G1 fun y G2 => rd x y G2 fun z G3 => ∃ k, z = .bl k ∧ if k = true then tc τ G3 fun w G4 => rd' y w G4 P else P (.bl false) G3
theorem lift_chain {K : PySem.W.Frag} {r r' : R2} {rd rd' : DR2} (h : DOp K r rd) (h' : DOp K r' rd') (ta tb tc : DTE) : ∀ σ H Q, liftE K ξ (dChain rd rd' ta tb tc) σ H Q → tChain r r' (liftE K ξ ta) (liftE K ξ tb) (liftE K ξ tc) σ H Q :=
  fun σ H Q ⟨τ, G, P, rs, rl, p, k⟩ => ⟨τ, G, _, rs, rl, p, fun x G1 v H1 z r1 f1 p1 => ⟨τ, G1, _, rs.mono (f1.keeps rl.1), r1, p1, fun y G2 u H2 z2 r2 f2 p2 =>
    h x y G2 _ v u H2 _ (z.mono (f2.keeps r1.1)) z2 r2.1 p2 fun d G3 w H3 z3 r3' f3 ⟨kk, e, p3⟩ => by
      subst e
      have r3 := r2.to r3' f3
      refine ⟨kk, rep_bl.mp z3, ?_⟩
      cases kk with
      | true =>
        rw [if_pos rfl] at p3 ⊢
        exact ⟨τ, G3, _, ((rs.mono (f1.keeps rl.1)).mono (f2.keeps r1.1)).mono (f3.keeps r2.1), r3, p3, fun d G4 w' H4 z4 r4 f4 p4 => h' y d G4 P u w' H4 Q ((z2.mono (f3.keeps r2.1)).mono (f4.keeps r3.1)) z4 r4.1 p4 fun d G5 w H5 z5 r5 f5 p5 => k d G5 w H5 z5 (r4.to r5 f5) (f1.trans (f2.trans (f3.trans (f4.trans f5)))) p5⟩
      | false =>
        rw [if_neg (by decide)] at p3 ⊢
        exact k _ G3 _ H3 (rep_bl.mpr rfl) r3 (f1.trans (f2.trans f3)) p3⟩⟩
theorem de_chain {op op' : CmpOp} {r r' : R2} {rd rd' : DR2} (h : DOp X.K r rd) (h' : DOp X.K r' rd')
    (pc : PE X (.Compare a [op, op'] [b, c] pos) (tChain r r' (liftE X.K ξ ta) (liftE X.K ξ tb) (liftE X.K ξ tc))) : DE X ξ (.Compare a [op, op'] [b, c] pos) (dChain rd rd' ta tb tc) := pe_weak pc (lift_chain h h' ta tb tc)
/-! ### arguments, displays -/
def dNil : DTA := fun _ G P => P [] G
def dCons (ta : DTE) (tr : DTA) : DTA := fun τ G P => ta τ G fun x G1 => tr τ G1 fun xs G2 => P (x :: xs) G2
theorem da_nil : DA X ξ [] dNil := pa_weak pa_nil fun σ H Q ⟨τ, G, P, rs, rl, p, k⟩ => k [] G [] H (repL_nil.mpr rfl) rl (Frame.refl G H) p
theorem da_cons (ha : DE X ξ e te) (hr : DA X ξ es t) (hs : starEach (e :: es) X.env = (false, eval e X.env) :: starEach es X.env) : DA X ξ (e :: es) (dCons te t) :=
  pa_weak (pa_cons ha hr hs) fun σ H Q ⟨τ, G, P, rs, rl, p, k⟩ => ⟨τ, G, _, rs, rl, p, fun x G1 v H1 z r1 f1 p1 => ⟨τ, G1, _, rs.mono (f1.keeps rl.1), r1, p1, fun xs G2 vs H2 z2 r2 f2 p2 =>
    k (x :: xs) G2 (v :: vs) H2 (repL_cons.mpr ⟨v, vs, rfl, z.mono (f2.keeps r1.1), z2⟩) r2 (f1.trans f2) p2⟩⟩
def dTup (t : DTA) : DTE := fun τ G P => t τ G fun xs G1 => xs.length ≤ sizeLine ∧ P (.tup xs) G1
def dLst (t : DTA) : DTE := fun τ G P => t τ G fun xs G1 => xs.length ≤ sizeLine ∧ ∀ p, G1 p = none → P (.ref p) (updD G1 p (.lst xs))
theorem de_tup {k : Nat} (h : DA X ξ es t) : DE X ξ (.Tuple es k pos) (dTup t) :=
  pe_weak (pe_tup h) fun σ H Q ⟨τ, G, P, rs, rl, p, k⟩ => ⟨τ, G, _, rs, rl, p, fun xs G1 vs H1 z r1 f1 ⟨hl, p1⟩ => ⟨by rw [z.length]; exact hl, fun q hq =>
    have ⟨r2, f2⟩ := r1.1.aside (u := .tup vs) hq
    k (.tup xs) G1 _ _ (rep_tup.mpr ⟨q, vs, rfl, SqT.of upd_same, z.mono (f2.keeps r1.1)⟩) (r1.to r2 f2) (f1.trans f2) p1⟩⟩
theorem de_lst (h : DA X ξ es t) : DE X ξ (.List es pos) (dLst t) :=
  pe_weak (pe_lst h) fun σ H Q ⟨τ, G, P, rs, rl, p, k⟩ => ⟨τ, G, _, rs, rl, p, fun xs G1 vs H1 z r1 f1 ⟨hl, p1⟩ => ⟨by rw [z.length]; exact hl, fun q hq =>
    have ⟨r2, f2⟩ := r1.1.new (p := q) (u := .lst vs) (o := .lst xs) hq ⟨vs, upd_same, z.mono (keeps_new hq)⟩
    k (.ref q) _ _ _ (rep_ref.mpr rfl) (r1.to r2 f2) (f1.trans f2) (p1 q (r1.1.fresh hq))⟩⟩
end
end DL
end
section
set_option Elab.async false
set_option linter.all false
set_option maxRecDepth 100000
set_option autoImplicit false
namespace DL
open PySem PySem.Spec PyProof.Rows L2
section
variable {X : Cx} {K : PySem.W.Frag}
theorem DOp.or {r r' : R2} {rd rd' : DR2} (h : DOp K r rd) (h' : DOp K r' rd') : DOp K (fun x y H Q => r x y H Q ∨ r' x y H Q) (fun x y G P => rd x y G P ∨ rd' x y G P) :=
  fun x y G P v u H Q z1 z2 rl p k => p.imp (fun p => h x y G P v u H Q z1 z2 rl p k) (fun p => h' x y G P v u H Q z1 z2 rl p k)
theorem DOp.imp {r : R2} {rd rd' : DR2} (h : DOp K r rd) (w : ∀ x y G P, rd' x y G P → rd x y G P) : DOp K r rd' := fun x y G P v u H Q z1 z2 rl p k => h x y G P v u H Q z1 z2 rl (w x y G P p) k
/-! ### flat data -/
def toF : DV → Option V
  | .non => some .non
  | .bl b => some (.bl b)
  | .int i => some (.int i)
  | .str x => some (.str x)
  | _ => none
theorem toF_rep {d : DV} {f v : V} {H : Hp} (h : toF d = some f) (r : Rep K H d v) : v = f := by
  cases d with
  | non => cases h; exact rep_non.mp r
  | bl b => cases h; exact rep_bl.mp r
  | int b => cases h; exact rep_int.mp r
  | str b => cases h; exact rep_str.mp r
  | _ => cases h
theorem toF_flat {d : DV} {f : V} (h : toF d = some f) : flatV f = true := by
  cases d with
  | non => cases h; rfl
  | bl b => cases h; rfl
  | int b => cases h; rfl
  | str b => cases h; rfl
  | _ => cases h
def fpart (d : DV) : V := (toF d).getD .non
theorem toF_all : ∀ {ds : List DV} {vs : List V} {H : Hp}, (ds.all fun d => (toF d).isSome) = true → RepL K H ds vs → vs = ds.map fpart ∧ vs.all flatV = true
  | [], vs, H, _, r => by rw [repL_nil.mp r]; exact ⟨rfl, rfl⟩
  | d :: ds, vs, H, h, r => by
    obtain ⟨v, w, rfl, r1, r2⟩ := repL_cons.mp r
    rw [List.all_cons, Bool.and_eq_true] at h
    obtain ⟨f, hf⟩ := Option.isSome_iff_exists.mp h.1
    obtain ⟨e, a⟩ := toF_all h.2 r2
    have ev := toF_rep hf r1
    subst ev
    refine ⟨by rw [List.map_cons, ← e]; unfold fpart; rw [hf]; rfl, ?_⟩
    rw [List.all_cons, toF_flat hf, a]; rfl
/-! ### ints -/
def dII (C : Int → Int → Prop) (g : Int → Int → DV) : DR2 := fun x y G P => ∃ i j, x = .int i ∧ y = .int j ∧ C i j ∧ P (g i j) G
theorem dop_I {C : Int → Int → Prop} {g : Int → Int → V} {gd : Int → Int → DV} (h : ∀ i j H, Rep K H (gd i j) (g i j)) : DOp K (rI C g) (dII C gd) :=
  fun x y G P v u H Q z1 z2 rl ⟨i, j, ex, ey, c, p⟩ k => by
    subst ex ey
    exact ⟨i, j, rep_int.mp z1, rep_int.mp z2, c, k _ G _ H (h i j H) rl (Frame.refl G H) p⟩
theorem dop_I0 {g : Int → Int → V} {gd : Int → Int → DV} (h : ∀ i j H, Rep K H (gd i j) (g i j)) : DOp K (rI0 g) (dII (fun _ _ => True) gd) :=
  fun x y G P v u H Q z1 z2 rl ⟨i, j, ex, ey, _, p⟩ k => by
    subst ex ey
    exact ⟨i, j, rep_int.mp z1, rep_int.mp z2, k _ G _ H (h i j H) rl (Frame.refl G H) p⟩
/-! ### + -/
def dAdd : DR2 := fun x y G P => match x, y with
  | .int i, .int j => P (.int (i + j)) G
  | .str a, .str b => a.length + b.length ≤ sizeLine ∧ P (.str (a ++ b)) G
  | .tup xs, .tup ys => xs.length + ys.length ≤ sizeLine ∧ P (.tup (xs ++ ys)) G
  | .ref a, .ref b => ∃ xs ys, G a = some (.lst xs) ∧ G b = some (.lst ys) ∧ xs.length + ys.length ≤ sizeLine ∧ ∀ p, G p = none → P (.ref p) (updD G p (.lst (xs ++ ys)))
  | _, _ => False
abbrev rStrAdd : R2 := fun x y H Q => ∃ i j, x = .str i ∧ y = .str j ∧ i.length + j.length ≤ sizeLine ∧ Q (.str (i ++ j)) H
abbrev rAddAll (K : PySem.W.Frag) : R2 := fun x y H Q => rI0 (fun i j => .int (i + j)) x y H Q ∨ (rStrAdd x y H Q ∨ (rCatA K x y H Q ∨ rCat x y H Q))
theorem op_addAll : OpR X (binaryOp .Add) (rAddAll X.K) := op_add.or (op_add_str.or (op_catA.or op_cat))
theorem dop_add : DOp K (rAddAll K) dAdd := fun x y G P v u H Q z1 z2 rl p k => by
  unfold dAdd at p
  split at p
  · exact .inl ⟨_, _, rep_int.mp z1, rep_int.mp z2, k _ G _ H (rep_int.mpr rfl) rl (Frame.refl G H) p⟩
  · exact .inr (.inl ⟨_, _, rep_str.mp z1, rep_str.mp z2, p.1, k _ G _ H (rep_str.mpr rfl) rl (Frame.refl G H) p.2⟩)
  · rename_i xs ys
    obtain ⟨a, vs, e1, s1, r1⟩ := rep_tup.mp z1
    obtain ⟨b, us, e2, s2, r2⟩ := rep_tup.mp z2
    refine .inr (.inr (.inl ⟨a, b, vs, us, e1, e2, s1, s2, by rw [r1.length, r2.length]; exact p.1, fun e => ?_, fun n e => ?_, fun n1 n2 q hq => ?_⟩))
    · subst e
      have : xs = [] := List.eq_nil_of_length_eq_zero (by rw [← r1.length]; rfl)
      subst this
      exact k _ G _ H (rep_tup.mpr ⟨b, us, rfl, s2, r2⟩) rl (Frame.refl G H) p.2
    · subst e
      have : ys = [] := List.eq_nil_of_length_eq_zero (by rw [← r2.length]; rfl)
      subst this
      rw [List.append_nil] at p
      exact k _ G _ H (rep_tup.mpr ⟨a, vs, rfl, s1, r1⟩) rl (Frame.refl G H) p.2
    · have ⟨r3, f3⟩ := rl.aside (u := .tup (vs ++ us)) hq
      exact k _ G _ _ (rep_tup.mpr ⟨q, _, rfl, SqT.of upd_same, (r1.append r2).mono (f3.keeps rl)⟩) r3 f3 p.2
  · obtain ⟨xs, ys, ga, gb, hl, p⟩ := p
    obtain ⟨vs, h1, r1⟩ := rl _ _ ga
    obtain ⟨us, h2, r2⟩ := rl _ _ gb
    refine .inr (.inr (.inr ⟨_, _, vs, us, rep_ref.mp z1, rep_ref.mp z2, h1, h2, by rw [r1.length, r2.length]; exact hl, fun q hq => ?_⟩))
    have ⟨r3, f3⟩ := rl.new (p := q) (u := .lst (vs ++ us)) (o := .lst (xs ++ ys)) hq ⟨_, upd_same, (r1.append r2).mono (keeps_new hq)⟩
    exact k _ _ _ _ (rep_ref.mpr rfl) r3 f3 (p q (rl.fresh hq))
  · exact p.elim
/-! ### -, //, %, ** -/
abbrev dSub : DR2 := dII (fun _ _ => True) fun i j => .int (i - j)
theorem dop_sub : DOp K (rI0 fun i j => .int (i - j)) dSub := dop_I0 fun _ _ _ => rep_int.mpr rfl
abbrev dFdiv : DR2 := dII CDivN fun i j => .int (i.fdiv j)
theorem dop_fdiv : DOp K (rI CDivN fun i j => .int (i.fdiv j)) dFdiv := dop_I fun _ _ _ => rep_int.mpr rfl
abbrev dMod : DR2 := dII (fun _ j => 0 < j) fun i j => .int (i % j)
theorem dop_mod : DOp K (rI (fun _ j => 0 < j) fun i j => .int (i % j)) dMod := dop_I fun _ _ _ => rep_int.mpr rfl
abbrev dPow : DR2 := dII CPow fun i j => .int (i ^ j.toNat)
theorem dop_pow : DOp K (rI CPow fun i j => .int (i ^ j.toNat)) dPow := dop_I fun _ _ _ => rep_int.mpr rfl
/-! ### < and its like -/
abbrev sLt (a b : Str) : Bool := decide (a.cps.toList < b.cps.toList)
def dLt : DR2 := fun x y G P => match x, y with
  | .int i, .int j => P (.bl (decide (i < j))) G
  | .str a, .str b => P (.bl (sLt a b)) G
  | _, _ => False
def dLe : DR2 := fun x y G P => match x, y with
  | .int i, .int j => P (.bl (decide (i ≤ j))) G
  | .str a, .str b => P (.bl (!sLt b a)) G
  | _, _ => False
def dGt : DR2 := fun x y G P => match x, y with
  | .int i, .int j => P (.bl (decide (j < i))) G
  | .str a, .str b => P (.bl (sLt b a)) G
  | _, _ => False
def dGe : DR2 := fun x y G P => match x, y with
  | .int i, .int j => P (.bl (decide (j ≤ i))) G
  | .str a, .str b => P (.bl (!sLt a b)) G
  | _, _ => False
abbrev rCmpAll (f : Int → Int → V) (g : Str → Str → V) : R2 := fun x y H Q => rI0 f x y H Q ∨ ∃ i j, x = .str i ∧ y = .str j ∧ Q (g i j) H
theorem dop_cmp {f : Int → Int → Bool} {g : Str → Str → Bool} {rd : DR2} (h : ∀ x y G (P : DK), rd x y G P → (∃ i j, x = .int i ∧ y = .int j ∧ P (.bl (f i j)) G) ∨ ∃ i j, x = .str i ∧ y = .str j ∧ P (.bl (g i j)) G) :
    DOp K (rCmpAll (fun i j => .bl (f i j)) (fun i j => .bl (g i j))) rd := fun x y G P v u H Q z1 z2 rl p0 k => by
  rcases h x y G P p0 with ⟨i, j, rfl, rfl, p⟩ | ⟨i, j, rfl, rfl, p⟩
  · exact .inl ⟨i, j, rep_int.mp z1, rep_int.mp z2, k _ G _ H (rep_bl.mpr rfl) rl (Frame.refl G H) p⟩
  · exact .inr ⟨i, j, rep_str.mp z1, rep_str.mp z2, k _ G _ H (rep_bl.mpr rfl) rl (Frame.refl G H) p⟩
theorem op_ltAll : OpR X (compareOp .Lt) (rCmpAll (fun i j => .bl (decide (i < j))) (fun i j => .bl (sLt i j))) := op_lt.or op_lt_str
theorem op_leAll : OpR X (compareOp .LtE) (rCmpAll (fun i j => .bl (decide (i ≤ j))) (fun i j => .bl (!sLt j i))) := op_le.or op_le_str
theorem op_gtAll : OpR X (compareOp .Gt) (rCmpAll (fun i j => .bl (decide (j < i))) (fun i j => .bl (sLt j i))) := op_gt.or op_gt_str
theorem op_geAll : OpR X (compareOp .GtE) (rCmpAll (fun i j => .bl (decide (j ≤ i))) (fun i j => .bl (!sLt i j))) := op_ge.or op_ge_str
theorem dop_lt : DOp K (rCmpAll (fun i j => .bl (decide (i < j))) (fun i j => .bl (sLt i j))) dLt := dop_cmp fun x y G P p => by
  unfold dLt at p; split at p
  · exact .inl ⟨_, _, rfl, rfl, p⟩
  · exact .inr ⟨_, _, rfl, rfl, p⟩
  · exact p.elim
theorem dop_le : DOp K (rCmpAll (fun i j => .bl (decide (i ≤ j))) (fun i j => .bl (!sLt j i))) dLe := dop_cmp fun x y G P p => by
  unfold dLe at p; split at p
  · exact .inl ⟨_, _, rfl, rfl, p⟩
  · exact .inr ⟨_, _, rfl, rfl, p⟩
  · exact p.elim
theorem dop_gt : DOp K (rCmpAll (fun i j => .bl (decide (j < i))) (fun i j => .bl (sLt j i))) dGt := dop_cmp fun x y G P p => by
  unfold dGt at p; split at p
  · exact .inl ⟨_, _, rfl, rfl, p⟩
  · exact .inr ⟨_, _, rfl, rfl, p⟩
  · exact p.elim
theorem dop_ge : DOp K (rCmpAll (fun i j => .bl (decide (j ≤ i))) (fun i j => .bl (!sLt i j))) dGe := dop_cmp fun x y G P p => by
  unfold dGe at p; split at p
  · exact .inl ⟨_, _, rfl, rfl, p⟩
  · exact .inr ⟨_, _, rfl, rfl, p⟩
  · exact p.elim
/-! ### ==, != -/
def omap {α β : Type} (f : α → Option β) : List α → Option (List β)
  | [] => some []
  | x :: xs => match f x, omap f xs with
    | some d, some ds => some (d :: ds)
    | _, _ => none
/-- a datum read through the heap: tuples, lists, scalars, to a depth -/
def toPD (G : DH) : Nat → DV → Option PyData
  | _, .non => some .none
  | _, .bl b => some (.bool b)
  | _, .int i => some (.int i)
  | _, .str x => some (.str x)
  | n + 1, .tup xs => (omap (toPD G n) xs).map .tuple
  | n + 1, .lk xs => (omap (toPD G n) xs).map .list
  | n + 1, .xt xs => (omap (toPD G n) xs).map .tuple
  | n + 1, .ref a => match G a with
    | some (.lst xs) => (omap (toPD G n) xs).map .list
    | _ => none
  | _, _ => none
theorem sqL_weak {H : Hp} {a : Addr} {vs : List V} (h : SqL K H0 a vs) : SqL K H a vs := by
  rcases h with (h | ⟨o, h⟩) | h
  · cases h
  · cases h
  · exact .inr h
theorem depthAll_le {n : Nat} : ∀ {ps : List PyData}, (∀ p ∈ ps, p.depth ≤ n) → PyData.depthAll ps ≤ n
  | [], _ => by unfold PyData.depthAll; exact Nat.zero_le _
  | p :: ps, h => by
    unfold PyData.depthAll
    exact Nat.max_le.mpr ⟨h p (List.mem_cons_self ..), depthAll_le fun q hq => h q (List.mem_cons_of_mem _ hq)⟩
theorem omap_dp {G : DH} {H : Hp} {n : Nat} (ih : ∀ d p v, toPD G n d = some p → Rep K H d v → Dp K H v p ∧ p.depth ≤ n) : ∀ (xs : List DV) (ps : List PyData) (vs : List V), omap (toPD G n) xs = some ps → RepL K H xs vs → DpAll K H vs ps ∧ ∀ p ∈ ps, p.depth ≤ n
  | [], ps, vs, h, r => by cases h; rw [repL_nil.mp r]; exact ⟨.nil, fun _ h => nomatch h⟩
  | x :: xs, ps, vs, h, r => by
    obtain ⟨v, w, rfl, r1, r2⟩ := repL_cons.mp r
    unfold omap at h
    split at h
    · rename_i d ds e1 e2
      cases h
      obtain ⟨h1, l1⟩ := ih x d v e1 r1
      obtain ⟨h2, l2⟩ := omap_dp ih xs ds w e2 r2
      refine ⟨.cons h1 h2, fun p hp => ?_⟩
      rcases List.mem_cons.mp hp with rfl | hp
      · exact l1
      · exact l2 p hp
    · cases h
theorem toPD_dp {G : DH} {H : Hp} (rl : Rel K G H) : ∀ (n : Nat) (d : DV) (p : PyData) (v : V), toPD G n d = some p → Rep K H d v → Dp K H v p ∧ p.depth ≤ n
  | n, .non, p, v, h, r => by
    have : p = .none := by unfold toPD at h; cases n <;> (cases h; rfl)
    subst this; rw [rep_non.mp r]; exact ⟨.non, by unfold PyData.depth; exact Nat.zero_le _⟩
  | n, .bl b, p, v, h, r => by
    have : p = .bool b := by unfold toPD at h; cases n <;> (cases h; rfl)
    subst this; rw [rep_bl.mp r]; exact ⟨.bl b, by unfold PyData.depth; exact Nat.zero_le _⟩
  | n, .int b, p, v, h, r => by
    have : p = .int b := by unfold toPD at h; cases n <;> (cases h; rfl)
    subst this; rw [rep_int.mp r]; exact ⟨.int b, by unfold PyData.depth; exact Nat.zero_le _⟩
  | n, .str b, p, v, h, r => by
    have : p = .str b := by unfold toPD at h; cases n <;> (cases h; rfl)
    subst this; rw [rep_str.mp r]; exact ⟨.str b, by unfold PyData.depth; exact Nat.zero_le _⟩
  | 0, .tup xs, p, v, h, r => by unfold toPD at h; cases h
  | 0, .lk xs, p, v, h, r => by unfold toPD at h; cases h
  | 0, .xt xs, p, v, h, r => by unfold toPD at h; cases h
  | 0, .ref xs, p, v, h, r => by unfold toPD at h; cases h
  | n, .ty xs, p, v, h, r => by unfold toPD at h; cases n <;> cases h
  | n, .fv L, p, v, h, r => by unfold toPD at h; cases n <;> cases h
  | n, .xo _ _ _, p, v, h, r => by unfold toPD at h; cases n <;> cases h
  | n, .xb _, p, v, h, r => by unfold toPD at h; cases n <;> cases h
  | n + 1, .tup xs, p, v, h, r => by
    unfold toPD at h
    obtain ⟨ps, e, rfl⟩ := Option.map_eq_some_iff.mp h
    obtain ⟨a, vs, rfl, s, r1⟩ := rep_tup.mp r
    obtain ⟨h1, l1⟩ := omap_dp (toPD_dp rl n) xs ps vs e r1
    exact ⟨.tup s h1, by unfold PyData.depth; exact Nat.succ_le_succ (depthAll_le l1)⟩
  | n + 1, .xt xs, p, v, h, r => by
    unfold toPD at h
    obtain ⟨ps, e, rfl⟩ := Option.map_eq_some_iff.mp h
    obtain ⟨a, vs, rfl, s, r1⟩ := rep_tup.mp (rep_forget r)
    obtain ⟨h1, l1⟩ := omap_dp (toPD_dp rl n) xs ps vs e r1
    exact ⟨.tup s h1, by unfold PyData.depth; exact Nat.succ_le_succ (depthAll_le l1)⟩
  | n + 1, .lk xs, p, v, h, r => by
    unfold toPD at h
    obtain ⟨ps, e, rfl⟩ := Option.map_eq_some_iff.mp h
    obtain ⟨a, vs, rfl, s, r1⟩ := rep_lk.mp r
    obtain ⟨h1, l1⟩ := omap_dp (toPD_dp rl n) xs ps vs e r1
    refine ⟨.lst ?_ h1, by unfold PyData.depth; exact Nat.succ_le_succ (depthAll_le l1)⟩
    rcases s with ⟨o, s⟩ | s
    · exact .inl (.inr ⟨o, s⟩)
    · exact sqL_weak s
  | n + 1, .ref a, p, v, h, r => by
    unfold toPD at h
    split at h
    · rename_i xs g
      obtain ⟨ps, e, rfl⟩ := Option.map_eq_some_iff.mp h
      rw [rep_ref.mp r]
      obtain ⟨vs, hv, r1⟩ := rl _ _ g
      obtain ⟨h1, l1⟩ := omap_dp (toPD_dp rl n) xs ps vs e r1
      exact ⟨.lst (SqL.of hv) h1, by unfold PyData.depth; exact Nat.succ_le_succ (depthAll_le l1)⟩
    · cases h
/-- how deep data may be that are compared -/
def dEq : DR2 := fun x y G P => (∃ f g, toF x = some f ∧ toF y = some g ∧ scal f g = true ∧ P (.bl (decide (f = g))) G) ∨
  ∃ d e, toPD G 60 x = some d ∧ toPD G 60 y = some e ∧ d.canLay0 = true ∧ e.canLay0 = true ∧ P (.bl (PyData.eqv d e)) G
def dNe : DR2 := fun x y G P => (∃ f g, toF x = some f ∧ toF y = some g ∧ scal f g = true ∧ P (.bl (!decide (f = g))) G) ∨
  ∃ d e, toPD G 60 x = some d ∧ toPD G 60 y = some e ∧ d.canLay0 = true ∧ e.canLay0 = true ∧ P (.bl (!PyData.eqv d e)) G
theorem shaped_of {d : PyData} (h : d.canLay0 = true) (l : d.depth ≤ 60) : SeqAt.shaped d = true := by
  unfold SeqAt.shaped
  rw [h, Bool.true_and]
  exact decide_eq_true (by omega)
theorem dop_eq : DOp K (fun x y H Q => rEq x y H Q ∨ rEqD K x y H Q) dEq := fun x y G P v u H Q z1 z2 rl p k => by
  rcases p with ⟨f, g, e1, e2, s, p⟩ | ⟨d, e, e1, e2, c1, c2, p⟩
  · rw [toF_rep e1 z1, toF_rep e2 z2]
    exact .inl ⟨s, k _ G _ H (rep_bl.mpr rfl) rl (Frame.refl G H) p⟩
  · obtain ⟨h1, l1⟩ := toPD_dp rl 60 x d v e1 z1
    obtain ⟨h2, l2⟩ := toPD_dp rl 60 y e u e2 z2
    exact .inr ⟨d, e, h1, h2, shaped_of c1 l1, shaped_of c2 l2, k _ G _ H (rep_bl.mpr rfl) rl (Frame.refl G H) p⟩
theorem dop_ne : DOp K (fun x y H Q => rNe x y H Q ∨ rNeD K x y H Q) dNe := fun x y G P v u H Q z1 z2 rl p k => by
  rcases p with ⟨f, g, e1, e2, s, p⟩ | ⟨d, e, e1, e2, c1, c2, p⟩
  · rw [toF_rep e1 z1, toF_rep e2 z2]
    exact .inl ⟨s, k _ G _ H (rep_bl.mpr rfl) rl (Frame.refl G H) p⟩
  · obtain ⟨h1, l1⟩ := toPD_dp rl 60 x d v e1 z1
    obtain ⟨h2, l2⟩ := toPD_dp rl 60 y e u e2 z2
    exact .inr ⟨d, e, h1, h2, shaped_of c1 l1, shaped_of c2 l2, k _ G _ H (rep_bl.mpr rfl) rl (Frame.refl G H) p⟩
theorem op_eqAll (hu : X.A.units + 64 < cLine) : OpR X (compareOp .Eq) (fun x y H Q => rEq x y H Q ∨ rEqD X.K x y H Q) := op_eq.or (op_eqD hu)
theorem op_neAll (hu : X.A.units + 64 < cLine) : OpR X (compareOp .NotEq) (fun x y H Q => rNe x y H Q ∨ rNeD X.K x y H Q) := op_ne.or (op_neD hu)
/-! ### in, not in -/
def keyD : DV → Option Key
  | .int i => some (.inl i)
  | .str x => some (.inr x)
  | _ => none
theorem keyD_rep {d : DV} {k : Key} {v : V} {H : Hp} (h : keyD d = some k) (r : Rep K H d v) : v = kV k := by
  cases d with
  | int i => cases h; exact rep_int.mp r
  | str i => cases h; exact rep_str.mp r
  | _ => cases h
/-- a dict's value at a key -/
def valD {κ : Type} [DecidableEq κ] (kvs : List (κ × DV)) (k : κ) : Option DV := (kvs.find? fun kv => decide (kv.1 = k)).map (·.2)
theorem valD_rep {κ : Type} [DecidableEq κ] {H : Hp} (k : κ) : ∀ {kvs : List (κ × DV)} {ps : List (κ × V)}, RepP K H kvs ps → (valD kvs k = none ∧ valV ps k = none) ∨ ∃ d v, valD kvs k = some d ∧ valV ps k = some v ∧ Rep K H d v
  | _, _, .nil => .inl ⟨rfl, rfl⟩
  | p :: ks, q :: ps, .cons ⟨e, r⟩ t => by
    by_cases h : p.1 = k
    · exact .inr ⟨p.2, q.2, by unfold valD; simp [List.find?_cons, h], by unfold valV; simp [List.find?_cons, ← e, h], r⟩
    · have h1 : valD (p :: ks) k = valD ks k := by unfold valD; rw [List.find?_cons, decide_eq_false h]
      have h2 : valV (q :: ps) k = valV ps k := by unfold valV; rw [List.find?_cons, decide_eq_false (by rw [← e]; exact h)]
      rw [h1, h2]
      exact valD_rep k t
/-- one text within another -/
def inStr (a b : Str) : Bool := !(Builtin.Str.occurrences b a 0 b.length 1).isEmpty
def inFlat (x : DV) (xs : List DV) : Bool := inV (fpart x) (xs.map fpart)
def flats (xs : List DV) : Bool := xs.all fun d => (toF d).isSome
def dIn (neg : Bool) : DR2 := fun x y G P => match y with
  | .str b => ∃ a, x = .str a ∧ P (.bl (xor neg (inStr a b))) G
  | .tup xs => (toF x).isSome = true ∧ flats xs = true ∧ P (.bl (xor neg (inFlat x xs))) G
  | .ref a => match G a with
    | some (.lst xs) => (toF x).isSome = true ∧ flats xs = true ∧ P (.bl (xor neg (inFlat x xs))) G
    | some (.dK kvs) => ∃ k, keyD x = some k ∧ P (.bl (xor neg (valD kvs k).isSome)) G
    | _ => False
  | _ => False
abbrev rInDk (neg : Bool) : R2 := fun x y H Q => ∃ a o, y = .ref a ∧ DGet H a x o ∧ Q (.bl (xor neg o.isSome)) H
theorem op_inDk (hu : X.A.units + 1 < cLine) : OpR X (compareOp .In) (rInDk false) := fun pins s σ H x y v u Q I rx ry ⟨a, o, ey, g, q⟩ => by
  subst ey
  obtain rfl : u = Value.ref a := ry
  exact d_in hu I g rx fun s' I' => ⟨.bl o.isSome, H, I', rfl, by rw [Bool.false_xor] at q; exact q⟩
theorem op_notInDk (hu : X.A.units + 1 < cLine) : OpR X (compareOp .NotIn) (rInDk true) := fun pins s σ H x y v u Q I rx ry ⟨a, o, ey, g, q⟩ => by
  subst ey
  obtain rfl : u = Value.ref a := ry
  exact d_notIn hu I g rx fun s' I' => ⟨.bl (!o.isSome), H, I', rfl, by rw [Bool.true_xor] at q; exact q⟩
abbrev rInStr (neg : Bool) : R2 := fun x y H Q => ∃ i j, x = .str i ∧ y = .str j ∧ Q (.bl (xor neg (inStr i j))) H
theorem op_inStr : OpR X (compareOp .In) (rInStr false) := fun pins s σ H x y v u Q I rx ry ⟨i, j, ex, ey, q⟩ =>
  op_in_str pins s σ H x y v u Q I rx ry ⟨i, j, ex, ey, by rw [Bool.false_xor] at q; exact q⟩
theorem op_notInStr : OpR X (compareOp .NotIn) (rInStr true) := fun pins s σ H x y v u Q I rx ry ⟨i, j, ex, ey, q⟩ =>
  op_notin_str pins s σ H x y v u Q I rx ry ⟨i, j, ex, ey, by rw [Bool.true_xor] at q; exact q⟩
abbrev rInAll (K : PySem.W.Frag) (neg : Bool) : R2 := fun x y H Q => rInStr neg x y H Q ∨ (rIn K neg x y H Q ∨ rInDk neg x y H Q)
theorem op_inAll (hu : X.A.units + 1 < cLine) : OpR X (compareOp .In) (rInAll X.K false) := op_inStr.or (op_in_seq.or (op_inDk hu))
theorem op_notInAll (hu : X.A.units + 1 < cLine) : OpR X (compareOp .NotIn) (rInAll X.K true) := op_notInStr.or (op_notIn_seq.or (op_notInDk hu))
theorem if_xor (neg b : Bool) : (if neg then !b else b) = xor neg b := by cases neg <;> cases b <;> rfl
theorem dop_in {neg : Bool} : DOp K (rInAll K neg) (dIn neg) := fun x y G P v u H Q z1 z2 rl p k => by
  unfold dIn at p
  split at p
  · obtain ⟨a, e, p⟩ := p
    subst e
    exact .inl ⟨a, _, rep_str.mp z1, rep_str.mp z2, k _ G _ H (rep_bl.mpr rfl) rl (Frame.refl G H) p⟩
  · rename_i xs
    obtain ⟨h1, h2, p⟩ := p
    obtain ⟨f, hf⟩ := Option.isSome_iff_exists.mp h1
    obtain ⟨b, us, e2, s2, r2⟩ := rep_tup.mp z2
    obtain ⟨e3, a3⟩ := toF_all h2 r2
    have e1 := toF_rep hf z1
    refine .inr (.inl ⟨b, us, e2, .inr s2, by rw [e1]; exact toF_flat hf, a3, ?_⟩)
    have ef : fpart x = v := by unfold fpart; rw [hf, e1]; rfl
    rw [if_xor, e3, ← ef]
    exact k _ G _ H (rep_bl.mpr rfl) rl (Frame.refl G H) p
  · rename_i a
    split at p
    · rename_i xs g
      obtain ⟨h1, h2, p⟩ := p
      obtain ⟨f, hf⟩ := Option.isSome_iff_exists.mp h1
      obtain ⟨us, hh, r2⟩ := rl _ _ g
      obtain ⟨e3, a3⟩ := toF_all h2 r2
      have e1 := toF_rep hf z1
      refine .inr (.inl ⟨a, us, rep_ref.mp z2, .inl (SqL.of hh), by rw [e1]; exact toF_flat hf, a3, ?_⟩)
      have ef : fpart x = v := by unfold fpart; rw [hf, e1]; rfl
      rw [if_xor, e3, ← ef]
      exact k _ G _ H (rep_bl.mpr rfl) rl (Frame.refl G H) p
    · rename_i kvs g
      obtain ⟨kk, hk, p⟩ := p
      obtain ⟨ps, hh, r2⟩ := rl _ _ g
      refine .inr (.inr ⟨a, valV ps kk, rep_ref.mp z2, by rw [keyD_rep hk z1]; exact DGet.k hh, ?_⟩)
      have es : (valV ps kk).isSome = (valD kvs kk).isSome := by
        rcases valD_rep kk r2 with ⟨q1, q2⟩ | ⟨d, w, q1, q2, _⟩ <;> rw [q1, q2] <;> rfl
      rw [es]
      exact k _ G _ H (rep_bl.mpr rfl) rl (Frame.refl G H) p
    · exact p.elim
  · exact p.elim
/-! ### is, is not: None, True, False -/
def isNonD : DV → Bool
  | .non => true
  | _ => false
def dIs (neg : Bool) : DR2 := fun x y G P => match y with
  | .non => P (.bl (xor neg (isNonD x))) G
  | .bl b => ∃ a, x = .bl a ∧ P (.bl (xor neg (decide (a = b)))) G
  | _ => False
abbrev rIsAll (neg : Bool) : R2 := fun x y H Q => (y = .non ∧ Q (.bl (xor neg (decide (x = .non)))) H) ∨ ∃ a b, x = .bl a ∧ y = .bl b ∧ Q (.bl (xor neg (decide (a = b)))) H
theorem op_isAll : OpR X (compareOp .Is) (rIsAll false) := fun pins s σ H x y v u Q I rx ry h => by
  rcases h with ⟨e, q⟩ | ⟨a, b, e1, e2, q⟩
  · exact op_isN pins s σ H x y v u Q I rx ry ⟨e, by rw [Bool.false_xor] at q; exact q⟩
  · exact op_is_bl pins s σ H x y v u Q I rx ry ⟨a, b, e1, e2, by rw [Bool.false_xor] at q; exact q⟩
theorem op_isnotAll : OpR X (compareOp .IsNot) (rIsAll true) := fun pins s σ H x y v u Q I rx ry h => by
  rcases h with ⟨e, q⟩ | ⟨a, b, e1, e2, q⟩
  · exact op_notN pins s σ H x y v u Q I rx ry ⟨e, by rw [Bool.true_xor] at q; exact q⟩
  · exact op_isnot_bl pins s σ H x y v u Q I rx ry ⟨a, b, e1, e2, by rw [Bool.true_xor] at q; exact q⟩
theorem rep_isNon {d : DV} {v : V} {H : Hp} (r : Rep K H d v) : decide (v = .non) = isNonD d := by
  cases d with
  | non => rw [rep_non.mp r]; rfl
  | bl b => rw [rep_bl.mp r]; rfl
  | int b => rw [rep_int.mp r]; rfl
  | str b => rw [rep_str.mp r]; rfl
  | ref b => rw [rep_ref.mp r]; rfl
  | ty b => rw [rep_ty.mp r]; rfl
  | tup b => obtain ⟨a, vs, e, _⟩ := rep_tup.mp r; rw [e]; rfl
  | lk b => obtain ⟨a, vs, e, _⟩ := rep_lk.mp r; rw [e]; rfl
  | xt b => obtain ⟨a, vs, e, _⟩ := rep_xt.mp r; rw [e]; rfl
  | fv b => obtain ⟨a, vs, e, _⟩ := rep_fv.mp r; rw [e]; rfl
  | xo c f x => obtain ⟨a, d, w, e, _⟩ := rep_xo.mp r; rw [e]; rfl
  | xb c => obtain ⟨a, e, _⟩ := rep_xb.mp r; rw [e]; rfl
theorem dop_is {neg : Bool} : DOp K (rIsAll neg) (dIs neg) := fun x y G P v u H Q z1 z2 rl p k => by
  unfold dIs at p
  split at p
  · exact .inl ⟨rep_non.mp z2, by rw [rep_isNon z1]; exact k _ G _ H (rep_bl.mpr rfl) rl (Frame.refl G H) p⟩
  · obtain ⟨a, e, p⟩ := p
    subst e
    exact .inr ⟨a, _, rep_bl.mp z1, rep_bl.mp z2, k _ G _ H (rep_bl.mpr rfl) rl (Frame.refl G H) p⟩
  · exact p.elim
/-! products -/
theorem RepL.rep {H : Hp} {ds : List DV} {vs : List V} (r : RepL K H ds vs) : ∀ k : Nat, RepL K H (List.replicate k ds).flatten (List.replicate k vs).flatten
  | 0 => repL_nil.mpr rfl
  | k + 1 => by
    rw [List.replicate_succ, List.replicate_succ, List.flatten_cons, List.flatten_cons]
    exact r.append (RepL.rep r k)
def dMul : DR2 := fun x y G P => match x, y with
  | .int i, .int j => CMul i j ∧ P (.int (i * j)) G
  | .tup xs, .int k => -(2 ^ 62) ≤ k ∧ k ≤ 1000 ∧ xs.length ≤ 1000 ∧ P (.tup (List.replicate k.toNat xs).flatten) G
  | .str z, .int k => -(2 ^ 62) ≤ k ∧ k ≤ 1000 ∧ z.length ≤ 1000 ∧ P (.str (strRep z k)) G
  | .ref a, .int k => match G a with
    | some (.lst xs) => -(2 ^ 63) ≤ k ∧ k < 2 ^ 63 ∧ xs.length * k.toNat ≤ sizeLine ∧ ∀ p, G p = none → P (.ref p) (updD G p (.lst (List.replicate k.toNat xs).flatten))
    | _ => False
  | _, _ => False
abbrev rMulAll (K : PySem.W.Frag) : R2 := fun x y H Q => rI CMul (fun i j => .int (i * j)) x y H Q ∨ ((∃ z k, x = V.str z ∧ y = .int k ∧ -(2 ^ 62) ≤ k ∧ k ≤ 1000 ∧ z.length ≤ 1000 ∧ Q (.str (strRep z k)) H) ∨ (rRepA K x y H Q ∨ rRep x y H Q))
theorem op_mulAll : OpR X (binaryOp .Mult) (rMulAll X.K) := op_mul.or (op_repS.or (op_repA.or op_rep))
theorem dop_mul : DOp K (rMulAll K) dMul := fun x y G P v u H Q z1 z2 rl p k => by
  unfold dMul at p
  split at p
  · exact .inl ⟨_, _, rep_int.mp z1, rep_int.mp z2, p.1, k _ G _ H (rep_int.mpr rfl) rl (Frame.refl _ _) p.2⟩
  · rename_i xs j
    obtain ⟨h1, h2, h3, p⟩ := p
    obtain ⟨a, vs, e, s, r⟩ := rep_tup.mp z1
    subst e
    refine .inr (.inr (.inl ⟨a, j, vs, rfl, rep_int.mp z2, s, h1, h2, by rw [r.length]; exact h3, fun hh => ?_, fun _ l hl => ?_⟩))
    · refine k _ G _ H (rep_tup.mpr ⟨a, vs, rfl, s, ?_⟩) rl (Frame.refl _ _) p
      rcases hh with e | e
      · have e2 : xs = [] := by
          have := r.length
          rw [e] at this
          exact List.eq_nil_of_length_eq_zero this.symm
        rw [e2, e]
        have : ∀ n : Nat, (List.replicate n ([] : List DV)).flatten = [] := fun n => by induction n with
          | zero => rfl
          | succ n ih => rw [List.replicate_succ, List.flatten_cons, ih]; rfl
        rw [this]
        exact repL_nil.mpr rfl
      · rw [e]
        have : (List.replicate (1 : Int).toNat xs).flatten = xs := by simp
        rw [this]
        exact r
    · have ⟨r2, f2⟩ := rl.aside (u := .tup (List.replicate j.toNat vs).flatten) hl
      exact k _ G _ _ (rep_tup.mpr ⟨l, _, rfl, SqT.of upd_same, (r.mono (f2.keeps rl)).rep j.toNat⟩) r2 f2 p
  · exact .inr (.inl ⟨_, _, rep_str.mp z1, rep_int.mp z2, p.1, p.2.1, p.2.2.1, k _ G _ H (rep_str.mpr rfl) rl (Frame.refl _ _) p.2.2.2⟩)
  · rename_i a j
    split at p
    · rename_i xs g
      obtain ⟨h1, h2, h3, p⟩ := p
      obtain ⟨vs, hv, r⟩ := rl _ _ g
      refine .inr (.inr (.inr ⟨a, j, vs, rep_ref.mp z1, rep_int.mp z2, hv, h1, h2, by rw [r.length]; exact h3, fun l hl => ?_⟩))
      have ⟨r2, f2⟩ := rl.new (p := l) (u := .lst (List.replicate j.toNat vs).flatten) (o := .lst (List.replicate j.toNat xs).flatten) hl ⟨_, upd_same, (r.mono (keeps_new hl)).rep j.toNat⟩
      exact k _ _ _ _ (rep_ref.mpr rfl) r2 f2 (p l (rl.fresh hl))
    · exact p.elim
  · exact p.elim
end
end DL
end
section
set_option Elab.async false
set_option linter.all false
set_option maxRecDepth 100000
set_option autoImplicit false
namespace DL
open PySem PySem.Spec PyProof.Rows L2
section
variable {X : Cx} {K : PySem.W.Frag} {ξ : XP}
/-! ### a[i] -/
def dIx : DR2 := fun x y G P => match x with
  | .tup xs => ∃ i v, y = .int i ∧ atI xs i = some v ∧ P v G
  | .lk xs => ∃ i v, y = .int i ∧ atI xs i = some v ∧ P v G
  | .str z => ∃ i c, y = .int i ∧ z.length ≤ sizeLine ∧ atI z.cps.toList i = some c ∧ P (.str ⟨#[c]⟩) G
  | .ref a => match G a with
    | some (.lst xs) => ∃ i v, y = .int i ∧ atI xs i = some v ∧ P v G
    | some (.dK kvs) => ∃ k v, keyD y = some k ∧ valD kvs k = some v ∧ P v G
    | _ => False
  | _ => False
abbrev rIxDk : R2 := fun x y H Q => ∃ a v, x = .ref a ∧ DGet H a y (some v) ∧ Q v H
theorem ix_dk (hu : X.A.units + 1 < cLine) : IxR X rIxDk := fun value slice pins s σ H x y v u Q I rx ry ⟨a, w, ex, g, q⟩ hs => by
  subst ex
  obtain rfl : v = Value.ref a := rx
  exact tail_any (dict_typeIs I g) PySem.F.slot_dict_getitem.lookup (d_getItem hu I g ry fun w' s' I' r' => ⟨w, H, I', r', q⟩) hs
abbrev rIxAll (K : PySem.W.Frag) : R2 := fun x y H Q => rIx K x y H Q ∨ rIxDk x y H Q
theorem ix_all (hu : X.A.units + 1 < cLine) : IxR X (rIxAll X.K) := ix_seq.or (ix_dk hu)
theorem ixN_len {n m : Nat} (h : n = m) (i : Int) : ixN n i = ixN m i := by rw [h]
theorem atI_rep {H : Hp} {xs : List DV} {vs : List V} (r : RepL K H xs vs) {i : Int} {d : DV} (h : atI xs i = some d) : ∃ v, atI vs i = some v ∧ Rep K H d v := by
  unfold atI at h ⊢
  rw [r.length]
  obtain ⟨j, hj, e⟩ := Option.bind_eq_some_iff.mp h
  obtain ⟨v, hv, z⟩ := r.get' e
  exact ⟨v, Option.bind_eq_some_iff.mpr ⟨j, hj, hv⟩, z⟩
theorem dop_ix : DOp K (rIxAll K) dIx := fun x y G P v u H Q z1 z2 rl p k => by
  unfold dIx at p
  split at p
  · obtain ⟨i, d, e, h, p⟩ := p
    subst e
    obtain ⟨a, vs, e1, s1, r1⟩ := rep_tup.mp z1
    obtain ⟨w, hw, z⟩ := atI_rep r1 h
    exact .inl (.inr (.inl ⟨a, vs, i, w, e1, rep_int.mp z2, s1, hw, k _ G _ H z rl (Frame.refl G H) p⟩))
  · obtain ⟨i, d, e, h, p⟩ := p
    subst e
    obtain ⟨a, vs, e1, s1, r1⟩ := rep_lk.mp z1
    obtain ⟨w, hw, z⟩ := atI_rep r1 h
    refine .inl (.inl ⟨a, vs, i, w, e1, rep_int.mp z2, ?_, hw, k _ G _ H z rl (Frame.refl G H) p⟩)
    rcases s1 with ⟨o, s⟩ | s
    · exact .inl (.inr ⟨o, s⟩)
    · exact sqL_weak s
  · obtain ⟨i, c, e, hz, h, p⟩ := p
    subst e
    exact .inl (.inr (.inr ⟨_, i, c, rep_str.mp z1, rep_int.mp z2, hz, h, k _ G _ H (rep_str.mpr rfl) rl (Frame.refl G H) p⟩))
  · rename_i a
    split at p
    · rename_i xs g
      obtain ⟨i, d, e, h, p⟩ := p
      subst e
      obtain ⟨vs, hv, r1⟩ := rl _ _ g
      obtain ⟨w, hw, z⟩ := atI_rep r1 h
      exact .inl (.inl ⟨a, vs, i, w, rep_ref.mp z1, rep_int.mp z2, SqL.of hv, hw, k _ G _ H z rl (Frame.refl G H) p⟩)
    · rename_i kvs g
      obtain ⟨kk, d, hk, h, p⟩ := p
      obtain ⟨ps, hh, r2⟩ := rl _ _ g
      rcases valD_rep kk r2 with ⟨q1, q2⟩ | ⟨d', w, q1, q2, z⟩
      · rw [q1] at h; cases h
      · rw [q1] at h; cases h
        exact .inr ⟨a, w, rep_ref.mp z1, by rw [keyD_rep hk z2, ← q2]; exact DGet.k hh, k _ G _ H z rl (Frame.refl G H) p⟩
    · exact p.elim
  · exact p.elim
/-! ### a[lo:hi] -/
def cutD (xs : List DV) (lo hi : Option Int) : List DV := (xs.drop (HT.sIx xs.length 0 lo)).take (HT.sIx xs.length xs.length hi - HT.sIx xs.length 0 lo)
theorem cut_rep {H : Hp} {xs : List DV} {vs : List V} (r : RepL K H xs vs) (lo hi : Option Int) : RepL K H (cutD xs lo hi) (cutV vs lo hi) := by
  unfold cutD cutV
  rw [r.length]
  exact (r.drop _).take _
abbrev DRS := DV → Option Int → Option Int → DH → DK → Prop
def dSlR : DRS := fun x lo hi G P => match x with
  | .tup xs => P (.tup (cutD xs lo hi)) G
  | .lk xs => ∀ p, G p = none → P (.ref p) (updD G p (.lst (cutD xs lo hi)))
  | .str z => z.length ≤ sizeLine ∧ P (.str (cutS z lo hi)) G
  | .ref a => match G a with
    | some (.lst xs) => ∀ p, G p = none → P (.ref p) (updD G p (.lst (cutD xs lo hi)))
    | _ => False
  | _ => False
abbrev rSlAll (K : PySem.W.Frag) : V → Option Int → Option Int → Hp → VK → Prop := fun x lo hi H Q => rSlA K x lo hi H Q ∨ (rSlL K x lo hi H Q ∨ rSlS x lo hi H Q)
theorem sl_all : SlR X (rSlAll X.K) := sl_tupA.or (sl_list.or sl_str)
theorem cutD_whole (xs : List DV) (lo hi : Option Int) (h : HT.sIx xs.length 0 lo = 0 ∧ HT.sIx xs.length xs.length hi = xs.length) : cutD xs lo hi = xs := by
  unfold cutD
  rw [h.1, h.2]
  simp
theorem dsl_all (x : DV) (lo hi : Option Int) (G : DH) (P : DK) (v : V) (H : Hp) (Q : VK) (z1 : Rep K H x v) (rl : Rel K G H) (p : dSlR x lo hi G P)
    (k : ∀ d G' w H', Rep K H' d w → Rel K G' H' → Frame G H G' H' → P d G' → Q w H') : rSlAll K v lo hi H Q := by
  unfold dSlR at p
  split at p
  · rename_i xs
    obtain ⟨a, vs, e1, s1, r1⟩ := rep_tup.mp z1
    refine .inl ⟨a, vs, e1, s1, fun hw => ?_, fun hw q hq => ?_⟩
    · rw [r1.length] at hw
      rw [cutD_whole xs lo hi hw] at p
      exact k _ G _ H (rep_tup.mpr ⟨a, vs, rfl, s1, r1⟩) rl (Frame.refl G H) p
    · have ⟨r3, f3⟩ := rl.aside (u := .tup (cutV vs lo hi)) hq
      exact k _ G _ _ (rep_tup.mpr ⟨q, _, rfl, SqT.of upd_same, (cut_rep r1 lo hi).mono (f3.keeps rl)⟩) r3 f3 p
  · rename_i xs
    obtain ⟨a, vs, e1, s1, r1⟩ := rep_lk.mp z1
    refine .inr (.inl ⟨a, vs, e1, ?_, fun q hq => ?_⟩)
    · rcases s1 with ⟨o, s⟩ | s
      · exact .inl (.inr ⟨o, s⟩)
      · exact sqL_weak s
    · have ⟨r3, f3⟩ := rl.new (p := q) (u := .lst (cutV vs lo hi)) (o := .lst (cutD xs lo hi)) hq ⟨_, upd_same, (cut_rep r1 lo hi).mono (keeps_new hq)⟩
      exact k _ _ _ _ (rep_ref.mpr rfl) r3 f3 (p q (rl.fresh hq))
  · exact .inr (.inr ⟨_, rep_str.mp z1, p.1, k _ G _ H (rep_str.mpr rfl) rl (Frame.refl G H) p.2⟩)
  · rename_i a
    split at p
    · rename_i xs g
      obtain ⟨vs, hv, r1⟩ := rl _ _ g
      refine .inr (.inl ⟨a, vs, rep_ref.mp z1, SqL.of hv, fun q hq => ?_⟩)
      have ⟨r3, f3⟩ := rl.new (p := q) (u := .lst (cutV vs lo hi)) (o := .lst (cutD xs lo hi)) hq ⟨_, upd_same, (cut_rep r1 lo hi).mono (keeps_new hq)⟩
      exact k _ _ _ _ (rep_ref.mpr rfl) r3 f3 (p q (rl.fresh hq))
    · exact p.elim
  · exact p.elim
abbrev DTO := DSt → DH → (Option Int → DH → Prop) → Prop
def liftO (K : PySem.W.Frag) (ξ : XP) (t : DTO) : TO := fun σ H Q => ∃ (τ : DSt) (G : DH) (P : Option Int → DH → Prop), RelS K H τ σ ∧ RelX K ξ G H ∧ t τ G P ∧ ∀ d G' H', RelX K ξ G' H' → Frame G H G' H' → P d G' → Q d H'
def dPart (t : DTE) : DTO := fun τ G P => t τ G fun x G1 => ∃ i, x = .int i ∧ P (some i) G1
def dNoPart : DTO := fun _ G P => P none G
theorem po_weak {e : Option Expr} {t t' : TO} (h : PO X e t) (w : ∀ σ H Q, t' σ H Q → t σ H Q) : PO X e t' := ⟨fun pins s σ H Q I q => h.run pins s σ H Q I (w σ H Q q)⟩
theorem do_none : PO X none (liftO X.K ξ dNoPart) := po_weak po_none fun σ H Q ⟨τ, G, P, rs, rl, p, k⟩ => k none G H rl (Frame.refl G H) p
theorem do_some {e : Expr} {te : DTE} (h : DE X ξ e te) : PO X (some e) (liftO X.K ξ (dPart te)) :=
  po_weak (po_some h) fun σ H Q ⟨τ, G, P, rs, rl, p, k⟩ => ⟨τ, G, _, rs, rl, p, fun d G1 v H1 z r1 f1 ⟨i, e, p1⟩ => by subst e; exact ⟨i, rep_int.mp z, k (some i) G1 H1 r1 f1 p1⟩⟩
def dSl (te : DTE) (tl th : DTO) : DTE := fun τ G P => te τ G fun x G1 => tl τ G1 fun l G2 => th τ G2 fun u G3 => dSlR x l u G3 P
theorem de_slice {e : Expr} {lo hi : Option Expr} {te : DTE} {tl th : DTO} {pos p2 : Pos} (he : DE X ξ e te) (hl : PO X lo (liftO X.K ξ tl)) (hu : PO X hi (liftO X.K ξ th)) : DE X ξ (.Subscript e (.Slice lo hi none p2) pos) (dSl te tl th) :=
  pe_weak (pe_slice sl_all he hl hu) fun σ H Q ⟨τ, G, P, rs, rl, p, k⟩ => ⟨τ, G, _, rs, rl, p, fun x G1 v H1 z r1 f1 p1 => ⟨τ, G1, _, rs.mono (f1.keeps rl.1), r1, p1, fun l G2 H2 r2 f2 p2 => ⟨τ, G2, _, (rs.mono (f1.keeps rl.1)).mono (f2.keeps r1.1), r2, p2, fun u G3 H3 r3 f3 p3 =>
    dsl_all x l u G3 P v H3 Q ((z.mono (f2.keeps r1.1)).mono (f3.keeps r2.1)) r3.1 p3 fun d G4 w H4 z4 r4 f4 p4 => k d G4 w H4 z4 (r3.to r4 f4) (f1.trans (f2.trans (f3.trans f4))) p4⟩⟩⟩
/-! ### built-in functions and types, called -/
abbrev DRC := List DV → DH → DK → Prop
def DCal (K : PySem.W.Frag) (r : List V → Hp → VK → Prop) (rd : DRC) : Prop := ∀ xs G (P : DK) vs H (Q : VK), RepL K H xs vs → Rel K G H → rd xs G P →
  (∀ d G' w H', Rep K H' d w → Rel K G' H' → Frame G H G' H' → P d G' → Q w H') → r vs H Q
def dCB (rd : DRC) (t : DTA) : DTE := fun τ G P => t τ G fun xs G1 => rd xs G1 P
theorem lift_cb {r : List V → Hp → VK → Prop} {rd : DRC} (h : DCal K r rd) (t : DTA) : ∀ σ H Q, liftE K ξ (dCB rd t) σ H Q → liftA K ξ t σ H fun vs H1 => r vs H1 Q :=
  fun σ H Q ⟨τ, G, P, rs, rl, p, k⟩ => ⟨τ, G, _, rs, rl, p, fun xs G1 vs H1 z r1 f1 p1 => h xs G1 P vs H1 Q z r1.1 p1 fun d G2 w H2 z2 r2 f2 p2 => k d G2 w H2 z2 (r1.to r2 f2) (f1.trans f2) p2⟩
theorem DCal.or {r r' : List V → Hp → VK → Prop} {rd rd' : DRC} (h : DCal K r rd) (h' : DCal K r' rd') : DCal K (fun xs H Q => r xs H Q ∨ r' xs H Q) (fun xs G P => rd xs G P ∨ rd' xs G P) :=
  fun xs G P vs H Q z rl p k => p.imp (fun p => h xs G P vs H Q z rl p k) (fun p => h' xs G P vs H Q z rl p k)
theorem repL_one {H : Hp} {x : DV} {vs : List V} : RepL K H [x] vs ↔ ∃ v, vs = [v] ∧ Rep K H x v := by
  rw [repL_cons]
  constructor
  · rintro ⟨v, r, e, h, h2⟩; rw [repL_nil.mp h2] at e; exact ⟨v, e, h⟩
  · rintro ⟨v, e, h⟩; exact ⟨v, [], e, h, repL_nil.mpr rfl⟩
theorem repL_two {H : Hp} {x y : DV} {vs : List V} : RepL K H [x, y] vs ↔ ∃ v u, vs = [v, u] ∧ Rep K H x v ∧ Rep K H y u := by
  rw [repL_cons]
  constructor
  · rintro ⟨v, r, e, h, h2⟩
    obtain ⟨u, e2, h3⟩ := repL_one.mp h2
    rw [e2] at e; exact ⟨v, u, e, h, h3⟩
  · rintro ⟨v, u, e, h, h3⟩; exact ⟨v, [u], e, h, repL_one.mpr ⟨u, rfl, h3⟩⟩
/-- a list or a tuple, read -/
def seqD (G : DH) : DV → Option (List DV)
  | .tup xs => some xs
  | .lk xs => some xs
  | .ref a => match G a with
    | some (.lst xs) => some xs
    | _ => none
  | _ => none
theorem seqD_rep {G : DH} {H : Hp} {x : DV} {xs : List DV} {v : V} (rl : Rel K G H) (h : seqD G x = some xs) (z : Rep K H x v) : ∃ a vs, v = .ref a ∧ RepL K H xs vs ∧ ((SqT K H a vs ∧ x = .tup xs) ∨ (SqL K H a vs ∧ ∀ ys, x ≠ .tup ys)) := by
  unfold seqD at h
  split at h
  · cases h
    obtain ⟨a, vs, e1, s1, r1⟩ := rep_tup.mp z
    exact ⟨a, vs, e1, r1, .inl ⟨s1, rfl⟩⟩
  · cases h
    obtain ⟨a, vs, e1, s1, r1⟩ := rep_lk.mp z
    refine ⟨a, vs, e1, r1, .inr ⟨?_, fun ys e => by cases e⟩⟩
    rcases s1 with ⟨o, s⟩ | s
    · exact .inl (.inr ⟨o, s⟩)
    · exact sqL_weak s
  · rename_i a
    split at h
    · rename_i ys g
      cases h
      obtain ⟨vs, hv, r1⟩ := rl _ _ g
      exact ⟨a, vs, rep_ref.mp z, r1, .inr ⟨SqL.of hv, fun ys e => by cases e⟩⟩
    · cases h
  · cases h
/-- len -/
def dLen : DRC := fun xs G P => match xs with
  | [.str z] => z.length ≤ sizeLine ∧ P (.int z.length) G
  | [.ref a] => match G a with
    | some (.lst ys) => P (.int ys.length) G
    | some (.dK kvs) => P (.int kvs.length) G
    | _ => False
  | [.tup ys] => P (.int ys.length) G
  | [.lk ys] => P (.int ys.length) G
  | _ => False
abbrev rLenAll (K : PySem.W.Frag) : List V → Hp → VK → Prop := fun xs H Q => (∃ x n, xs = [x] ∧ LenV K x H n ∧ Q (.int n) H) ∨ ∃ a kvs, xs = [V.ref a] ∧ H a = some (.dK kvs) ∧ Q (.int kvs.length) H
theorem cr_lenAll : CallR X (.builtin "len") (rLenAll X.K) := call_len.or call_lenD
theorem dc_len : DCal K (rLenAll K) dLen := fun xs G P vs H Q zs rl p k => by
  unfold dLen at p
  split at p
  · obtain ⟨v, rfl, z⟩ := repL_one.mp zs
    rw [rep_str.mp z]
    exact .inl ⟨_, _, rfl, ⟨p.1, rfl⟩, k _ G _ H (rep_int.mpr rfl) rl (Frame.refl G H) p.2⟩
  · obtain ⟨v, rfl, z⟩ := repL_one.mp zs
    rw [rep_ref.mp z]
    split at p
    · rename_i ys g
      obtain ⟨us, hv, r1⟩ := rl _ _ g
      exact .inl ⟨_, _, rfl, .inl ⟨us, SqL.of hv, rfl⟩, k _ G _ H (rep_int.mpr (by rw [r1.length])) rl (Frame.refl G H) p⟩
    · rename_i kvs g
      obtain ⟨us, hv, r1⟩ := rl _ _ g
      have : us.length = kvs.length := (Paired.length r1).symm
      exact .inr ⟨_, us, rfl, hv, k _ G _ H (rep_int.mpr (by rw [this])) rl (Frame.refl G H) p⟩
    · exact p.elim
  · obtain ⟨v, rfl, z⟩ := repL_one.mp zs
    obtain ⟨a, us, rfl, s1, r1⟩ := rep_tup.mp z
    exact .inl ⟨_, _, rfl, .inr ⟨us, s1, rfl⟩, k _ G _ H (rep_int.mpr (by rw [r1.length])) rl (Frame.refl G H) p⟩
  · obtain ⟨v, rfl, z⟩ := repL_one.mp zs
    obtain ⟨a, us, rfl, r1, h⟩ := seqD_rep rl (x := .lk _) rfl z
    rcases h with ⟨_, e⟩ | ⟨s1, _⟩
    · cases e
    · exact .inl ⟨_, _, rfl, .inl ⟨us, s1, rfl⟩, k _ G _ H (rep_int.mpr (by rw [r1.length])) rl (Frame.refl G H) p⟩
  · exact p.elim
/-- int(x), bool(x) of an int, a truth; str(n) -/
def dInt : DRC := fun xs G P => match xs with
  | [.int i] => P (.int i) G
  | [.bl b] => P (.int (if b then 1 else 0)) G
  | _ => False
theorem dc_int : DCal K (fun xs H Q => (∃ i, xs = [V.int i] ∧ Q (V.int i) H) ∨ ∃ k, xs = [V.bl k] ∧ Q (V.int (if k then 1 else 0)) H) dInt := fun xs G P vs H Q zs rl p k => by
  unfold dInt at p
  split at p
  · obtain ⟨v, rfl, z⟩ := repL_one.mp zs
    rw [rep_int.mp z]
    exact .inl ⟨_, rfl, k _ G _ H (rep_int.mpr rfl) rl (Frame.refl G H) p⟩
  · obtain ⟨v, rfl, z⟩ := repL_one.mp zs
    rw [rep_bl.mp z]
    exact .inr ⟨_, rfl, k _ G _ H (rep_int.mpr rfl) rl (Frame.refl G H) p⟩
  · exact p.elim
def dStrI : DRC := fun xs G P => match xs with
  | [.int i] => i.natAbs.log2 < 1920 ∧ P (.str (toString i)) G
  | _ => False
theorem dc_str : DCal K (fun xs H Q => ∃ i : Int, xs = [V.int i] ∧ i.natAbs.log2 < 1920 ∧ Q (.str (toString i)) H) dStrI := fun xs G P vs H Q zs rl p k => by
  unfold dStrI at p
  split at p
  · obtain ⟨v, rfl, z⟩ := repL_one.mp zs
    rw [rep_int.mp z]
    exact ⟨_, rfl, p.1, k _ G _ H (rep_str.mpr rfl) rl (Frame.refl G H) p.2⟩
  · exact p.elim
/-- max(i, j), min(i, j) -/
def dMax2 : DRC := fun xs G P => match xs with
  | [.int i, .int j] => P (.int (if j > i then j else i)) G
  | _ => False
def dMin2 : DRC := fun xs G P => match xs with
  | [.int i, .int j] => P (.int (if j < i then j else i)) G
  | _ => False
theorem dc_max2 : DCal K (fun xs H Q => ∃ i j, xs = [V.int i, V.int j] ∧ Q (.int (if j > i then j else i)) H) dMax2 := fun xs G P vs H Q zs rl p k => by
  unfold dMax2 at p
  split at p
  · obtain ⟨v, u, rfl, z1, z2⟩ := repL_two.mp zs
    rw [rep_int.mp z1, rep_int.mp z2]
    exact ⟨_, _, rfl, k _ G _ H (rep_int.mpr rfl) rl (Frame.refl G H) p⟩
  · exact p.elim
theorem dc_min2 : DCal K (fun xs H Q => ∃ i j, xs = [V.int i, V.int j] ∧ Q (.int (if j < i then j else i)) H) dMin2 := fun xs G P vs H Q zs rl p k => by
  unfold dMin2 at p
  split at p
  · obtain ⟨v, u, rfl, z1, z2⟩ := repL_two.mp zs
    rw [rep_int.mp z1, rep_int.mp z2]
    exact ⟨_, _, rfl, k _ G _ H (rep_int.mpr rfl) rl (Frame.refl G H) p⟩
  · exact p.elim
/-- list(x), tuple(x) of a list, a tuple -/
def dListOf : DRC := fun xs G P => ∃ x ys, xs = [x] ∧ seqD G x = some ys ∧ ∀ p, G p = none → P (.ref p) (updD G p (.lst ys))
def dTupOf : DRC := fun xs G P => ∃ x ys, xs = [x] ∧ seqD G x = some ys ∧ P (.tup ys) G
theorem dc_listOf : DCal K (fun xs H Q => ∃ p ys, xs = [V.ref p] ∧ (SqL K H p ys ∨ SqT K H p ys) ∧ ∀ l, H l = none → Q (.ref l) (upd H l (.lst ys))) dListOf := fun xs G P vs H Q zs rl ⟨x, ys, e, h, p⟩ k => by
  subst e
  obtain ⟨v, rfl, z⟩ := repL_one.mp zs
  obtain ⟨a, us, rfl, r1, q⟩ := seqD_rep rl h z
  refine ⟨a, us, rfl, q.symm.imp (·.1) (·.1), fun l hl => ?_⟩
  have ⟨r3, f3⟩ := rl.new (p := l) (u := .lst us) (o := .lst ys) hl ⟨us, upd_same, r1.mono (keeps_new hl)⟩
  exact k _ _ _ _ (rep_ref.mpr rfl) r3 f3 (p l (rl.fresh hl))
theorem dc_tupOf : DCal K (fun xs H Q => ∃ p ys, xs = [V.ref p] ∧ ((SqL K H p ys ∧ ∀ l, H l = none → Q (.ref l) (upd H l (.tup ys))) ∨ (SqT K H p ys ∧ Q (.ref p) H))) dTupOf := fun xs G P vs H Q zs rl ⟨x, ys, e, h, p⟩ k => by
  subst e
  obtain ⟨v, rfl, z⟩ := repL_one.mp zs
  obtain ⟨a, us, rfl, r1, q⟩ := seqD_rep rl h z
  refine ⟨a, us, rfl, ?_⟩
  rcases q with ⟨s1, e⟩ | ⟨s1, _⟩
  · exact .inr ⟨s1, k _ G _ H (rep_tup.mpr ⟨a, us, rfl, s1, r1⟩) rl (Frame.refl G H) p⟩
  · refine .inl ⟨s1, fun l hl => ?_⟩
    have ⟨r3, f3⟩ := rl.aside (u := .tup us) hl
    exact k _ G _ _ (rep_tup.mpr ⟨l, us, rfl, SqT.of upd_same, r1.mono (keeps_new hl)⟩) r3 f3 p
/-- all, any of a list of truths -/
def dAll : DRC := fun xs G P => ∃ (a : Addr) (bs : List Bool), xs = [.ref a] ∧ G a = some (.lst (bs.map DV.bl)) ∧ P (.bl (bs.all id)) G
def dAny : DRC := fun xs G P => ∃ (a : Addr) (bs : List Bool), xs = [.ref a] ∧ G a = some (.lst (bs.map DV.bl)) ∧ P (.bl (bs.any id)) G
theorem dc_all : DCal K (rAll K) dAll := fun xs G P vs H Q zs rl ⟨a, bs, e, g, p⟩ k => by
  subst e
  obtain ⟨v, rfl, z⟩ := repL_one.mp zs
  rw [rep_ref.mp z]
  obtain ⟨us, hv, r1⟩ := rl _ _ g
  rw [RepL.bls.mp r1] at hv
  exact ⟨a, bs, rfl, SqL.of hv, k _ G _ H (rep_bl.mpr rfl) rl (Frame.refl G H) p⟩
theorem dc_any : DCal K (rAny K) dAny := fun xs G P vs H Q zs rl ⟨a, bs, e, g, p⟩ k => by
  subst e
  obtain ⟨v, rfl, z⟩ := repL_one.mp zs
  rw [rep_ref.mp z]
  obtain ⟨us, hv, r1⟩ := rl _ _ g
  rw [RepL.bls.mp r1] at hv
  exact ⟨a, bs, rfl, SqL.of hv, k _ G _ H (rep_bl.mpr rfl) rl (Frame.refl G H) p⟩
/-- sorted of texts (below 64) -/
def dSorted : DRC := fun xs G P => ∃ (a : Addr) (ss : List Str), xs = [.ref a] ∧ G a = some (.lst (ss.map DV.str)) ∧ ss.length < 64 ∧ ∀ (ys : List Str) (p : Addr), ys.Perm ss → sortedS ys = true → G p = none → P (.ref p) (updD G p (.lst (ys.map DV.str)))
theorem dc_sorted : DCal K (rSortedS K) dSorted := fun xs G P vs H Q zs rl ⟨a, ss, e, g, hl, p⟩ k => by
  subst e
  obtain ⟨v, rfl, z⟩ := repL_one.mp zs
  rw [rep_ref.mp z]
  obtain ⟨us, hv, r1⟩ := rl _ _ g
  rw [RepL.strs.mp r1] at hv
  refine ⟨a, ss, rfl, SqL.of hv, hl, fun ys q hp hs hq => ?_⟩
  have ⟨r3, f3⟩ := rl.new (p := q) (u := .lst (ys.map V.str)) (o := .lst (ys.map DV.str)) hq ⟨_, upd_same, RepL.strs.mpr rfl⟩
  exact k _ _ _ _ (rep_ref.mpr rfl) r3 f3 (p ys q hp hs (rl.fresh hq))
/-! ### methods of built-in types -/
abbrev DRM := DV → List DV → DH → DK → Prop
def DMet (K : PySem.W.Frag) (r : V → List V → Hp → VK → Prop) (rd : DRM) : Prop := ∀ x xs G (P : DK) v vs H (Q : VK), Rep K H x v → RepL K H xs vs → Rel K G H → rd x xs G P →
  (∀ d G' w H', Rep K H' d w → Rel K G' H' → Frame G H G' H' → P d G' → Q w H') → r v vs H Q
/-- the type by which a method is found -/
def tyD (G : DH) : DV → Option String
  | .str _ => some "str"
  | .int _ => some "int"
  | .ref a => match G a with
    | some (.lst _) => some "list"
    | some (.dK _) => some "dict"
    | _ => none
  | _ => none
theorem tyD_rep {G : DH} {H : Hp} {T : String} {x : DV} {v : V} (rl : Rel K G H) (h : tyD G x = some T) (z : Rep K H x v) : tyV K T v H := by
  unfold tyD at h
  split at h
  · cases h; rw [rep_str.mp z]; rfl
  · cases h; rw [rep_int.mp z]; rfl
  · rw [rep_ref.mp z]
    split at h
    · rename_i xs g
      cases h
      obtain ⟨us, hv, _⟩ := rl _ _ g
      exact .inl ⟨rfl, us, SqL.of hv⟩
    · rename_i xs g
      cases h
      obtain ⟨us, hv, _⟩ := rl _ _ g
      exact .inr (.inr (.inl ⟨rfl, .inl ⟨us, hv⟩⟩))
    · cases h
  · cases h
def dBM0 (T : String) (rd : DRM) (to : DTE) : DTE := fun τ G P => to τ G fun x G1 => tyD G1 x = some T ∧ rd x [] G1 P
def dBM (T : String) (rd : DRM) (to : DTE) (t : DTA) : DTE := fun τ G P => to τ G fun x G1 => tyD G1 x = some T ∧ t τ G1 fun xs G2 => rd x xs G2 P
theorem lift_bm0 {T : String} {r : V → List V → Hp → VK → Prop} {rd : DRM} (h : DMet K r rd) (to : DTE) : ∀ σ H Q, liftE K ξ (dBM0 T rd to) σ H Q → tBM0 K T r (liftE K ξ to) σ H Q :=
  fun σ H Q ⟨τ, G, P, rs, rl, p, k⟩ => ⟨τ, G, _, rs, rl, p, fun x G1 v H1 z r1 f1 ⟨ty, p1⟩ => ⟨tyD_rep r1.1 ty z, h x [] G1 P v [] H1 Q z (repL_nil.mpr rfl) r1.1 p1 fun d G2 w H2 z2 r2 f2 p2 => k d G2 w H2 z2 (r1.to r2 f2) (f1.trans f2) p2⟩⟩
theorem lift_bm {T : String} {r : V → List V → Hp → VK → Prop} {rd : DRM} (h : DMet K r rd) (to : DTE) (t : DTA) : ∀ σ H Q, liftE K ξ (dBM T rd to t) σ H Q → tBM K T r (liftE K ξ to) (liftA K ξ t) σ H Q :=
  fun σ H Q ⟨τ, G, P, rs, rl, p, k⟩ => ⟨τ, G, _, rs, rl, p, fun x G1 v H1 z r1 f1 ⟨ty, p1⟩ => ⟨tyD_rep r1.1 ty z, ⟨τ, G1, _, rs.mono (f1.keeps rl.1), r1, p1, fun xs G2 vs H2 z2 r2 f2 p2 =>
    h x xs G2 P v vs H2 Q (z.mono (f2.keeps r1.1)) z2 r2.1 p2 fun d G3 w H3 z3 r3 f3 p3 => k d G3 w H3 z3 (r2.to r3 f3) (f1.trans (f2.trans f3)) p3⟩⟩⟩
def dAppend : DRM := fun x xs G P => ∃ a ys y, x = .ref a ∧ xs = [y] ∧ G a = some (.lst ys) ∧ ys.length < sizeLine ∧ P .non (updD G a (.lst (ys ++ [y])))
theorem dm_append : DMet K rAppend dAppend := fun x xs G P v vs H Q z zs rl ⟨a, ys, y, e1, e2, g, hl, p⟩ k => by
  subst e1 e2
  obtain ⟨u, rfl, zy⟩ := repL_one.mp zs
  obtain ⟨us, hv, r1⟩ := rl _ _ g
  refine ⟨a, us, u, rep_ref.mp z, rfl, hv, by rw [r1.length]; exact hl, ?_⟩
  have kk := rl.keepsW (u := .lst (us ++ [u])) g
  have ⟨r3, f3⟩ := rl.write (u := .lst (us ++ [u])) (o' := .lst (ys ++ [y])) g ⟨_, upd_same, (r1.append (repL_one.mpr ⟨u, rfl, zy⟩)).mono kk⟩
  exact k _ _ _ _ (rep_non.mpr rfl) r3 f3 p
def dExtend : DRM := fun x xs G P => ∃ a b ys zs, x = .ref a ∧ xs = [.ref b] ∧ G a = some (.lst ys) ∧ G b = some (.lst zs) ∧ ys.length + zs.length ≤ sizeLine ∧ P .non (updD G a (.lst (ys ++ zs)))
theorem dm_extend : DMet K rExtend dExtend := fun x xs G P v vs H Q z zs rl ⟨a, b, ys, ws, e1, e2, g, gb, hl, p⟩ k => by
  subst e1 e2
  obtain ⟨u, rfl, zy⟩ := repL_one.mp zs
  obtain ⟨us, hv, r1⟩ := rl _ _ g
  obtain ⟨us2, hv2, r2⟩ := rl _ _ gb
  refine ⟨a, b, us, us2, rep_ref.mp z, by rw [rep_ref.mp zy], hv, hv2, by rw [r1.length, r2.length]; exact hl, ?_⟩
  have kk := rl.keepsW (u := .lst (us ++ us2)) g
  have ⟨r3, f3⟩ := rl.write (u := .lst (us ++ us2)) (o' := .lst (ys ++ ws)) g ⟨_, upd_same, (r1.append r2).mono kk⟩
  exact k _ _ _ _ (rep_non.mpr rfl) r3 f3 p
theorem RepL.dropLast {H : Hp} {ds : List DV} {vs : List V} (h : RepL K H ds vs) : RepL K H ds.dropLast vs.dropLast := by
  rw [List.dropLast_eq_take, List.dropLast_eq_take, h.length]
  exact h.take _
def dPop : DRM := fun x xs G P => ∃ a ys y, x = .ref a ∧ xs = [] ∧ G a = some (.lst ys) ∧ ys[ys.length - 1]? = some y ∧ P y (updD G a (.lst ys.dropLast))
theorem dm_pop : DMet K rPop dPop := fun x xs G P v vs H Q z zs rl ⟨a, ys, y, e1, e2, g, hl, p⟩ k => by
  subst e1 e2
  obtain ⟨us, hv, r1⟩ := rl _ _ g
  obtain ⟨u, hu, zu⟩ := r1.get' hl
  refine ⟨a, us, u, rep_ref.mp z, repL_nil.mp zs, hv, by rw [r1.length]; exact hu, ?_⟩
  have kk := rl.keepsW (u := .lst us.dropLast) g
  have ⟨r3, f3⟩ := rl.write (u := .lst us.dropLast) (o' := .lst ys.dropLast) g ⟨_, upd_same, r1.dropLast.mono kk⟩
  exact k _ _ _ _ (zu.mono kk) r3 f3 p
/-- d.get(k), d.get(k, x) -/
def dGet : DRM := fun x xs G P => ∃ a kvs, x = .ref a ∧ G a = some (.dK kvs) ∧ ((∃ y k, xs = [y] ∧ keyD y = some k ∧ P ((valD kvs k).getD .non) G) ∨ ∃ y k z, xs = [y, z] ∧ keyD y = some k ∧ P ((valD kvs k).getD z) G)
abbrev rGet : V → List V → Hp → VK → Prop := fun x xs H Q => ∃ a, x = .ref a ∧ ((∃ y o, xs = [y] ∧ DGet H a y o ∧ Q (o.getD .non) H) ∨ ∃ y z o, xs = [y, z] ∧ DGet H a y o ∧ Q (o.getD z) H)
theorem mt_get (hu : X.A.units + 1 < cLine) : MtR X "dict.get" rGet := fun pins s σ H x xs v us Q I rx rs ⟨a, ex, h⟩ => by
  subst ex
  obtain rfl : v = Value.ref a := rx
  rcases h with ⟨y, o, e, g, q⟩ | ⟨y, z, o, e, g, q⟩
  · subst e
    obtain ⟨u, rfl, ru⟩ := vals1 rs
    exact d_get1 hu I g ru fun w' s' I' r' => ⟨_, H, I', r', q⟩
  · subst e
    obtain ⟨u, w, rfl, ru, rw'⟩ := vals2 rs
    exact d_get2 hu I g ru rw' fun w' s' I' r' => ⟨_, H, I', r', q⟩
theorem dm_get : DMet K rGet dGet := fun x xs G P v vs H Q z zs rl ⟨a, kvs, e, g, h⟩ k => by
  subst e
  obtain ⟨ps, hv, r1⟩ := rl _ _ g
  refine ⟨a, rep_ref.mp z, ?_⟩
  rcases h with ⟨y, kk, e, hk, p⟩ | ⟨y, kk, w, e, hk, p⟩
  · subst e
    obtain ⟨u, rfl, zu⟩ := repL_one.mp zs
    refine .inl ⟨u, valV ps kk, rfl, by rw [keyD_rep hk zu]; exact DGet.k hv, ?_⟩
    rcases valD_rep kk r1 with ⟨q1, q2⟩ | ⟨d', w, q1, q2, zz⟩
    · rw [q1] at p; rw [q2]; exact k _ G _ H (rep_non.mpr rfl) rl (Frame.refl G H) p
    · rw [q1] at p; rw [q2]; exact k _ G _ H zz rl (Frame.refl G H) p
  · subst e
    obtain ⟨u, w', rfl, zu, zw⟩ := repL_two.mp zs
    refine .inr ⟨u, w', valV ps kk, rfl, by rw [keyD_rep hk zu]; exact DGet.k hv, ?_⟩
    rcases valD_rep kk r1 with ⟨q1, q2⟩ | ⟨d', w2, q1, q2, zz⟩
    · rw [q1] at p; rw [q2]; exact k _ G _ H zw rl (Frame.refl G H) p
    · rw [q1] at p; rw [q2]; exact k _ G _ H zz rl (Frame.refl G H) p
end
end DL
end
section
set_option Elab.async false
set_option linter.all false
set_option maxRecDepth 100000
set_option autoImplicit false
/-! repr of data: lists, tuples, dicts with int and text keys, read through the heap. -/
namespace DL
open PySem PySem.Spec PyProof.Rows L2
def keyPD : Key → PyData
  | .inl i => .int i
  | .inr x => .str x
/-- a datum read through the heap to a depth, dicts too -/
def toRD (G : DH) : Nat → DV → Option PyData
  | _, .non => some .none
  | _, .bl b => some (.bool b)
  | _, .int i => some (.int i)
  | _, .str x => some (.str x)
  | n + 1, .tup xs => (omap (toRD G n) xs).map .tuple
  | n + 1, .ref a => match G a with
    | some (.lst xs) => (omap (toRD G n) xs).map .list
    | some (.dK kvs) => (omap (toRD G n) (kvs.map (·.2))).map fun vs => .dict ((kvs.map fun p => keyPD p.1).zip vs)
    | _ => none
  | _, _ => none
section
variable {X : Cx} {pins : List (Addr × Obj)} {σ : L2.St} {H : Hp} {s : Shared} {G : DH}
theorem depthAll_le' {n : Nat} {ps : List PyData} (h : ∀ p ∈ ps, p.depth ≤ n) : PyData.depthAll ps ≤ n := depthAll_le h
theorem depthKv_le {n : Nat} : ∀ {ks : List Key} {vs : List PyData}, (∀ p ∈ vs, p.depth ≤ n) → PyData.depthKv ((ks.map keyPD).zip vs) ≤ n
  | [], _, _ => by simp [PyData.depthKv]
  | _ :: _, [], _ => by simp [PyData.depthKv]
  | k :: ks, v :: vs, h => by
    rw [List.map_cons, List.zip_cons_cons]
    unfold PyData.depthKv
    have h1 := h v (List.mem_cons_self ..)
    have h2 := depthKv_le (ks := ks) (vs := vs) fun p hp => h p (List.mem_cons_of_mem _ hp)
    have h3 : (keyPD k).depth = 0 := by cases k <;> simp [keyPD, PyData.depth]
    omega
theorem omap_len {α β : Type} {f : α → Option β} : ∀ {xs : List α} {ys : List β}, omap f xs = some ys → ys.length = xs.length
  | [], ys, h => by cases h; rfl
  | x :: xs, ys, h => by
    unfold omap at h
    split at h
    · rename_i d ds e1 e2
      cases h
      rw [List.length_cons, List.length_cons, omap_len e2]
    · cases h
theorem omap_rd {n : Nat} (ih : ∀ d p v u, toRD G n d = some p → Rep X.K H d v → RelV v u → ∃ as, Reads s.heap u p as ∧ p.depth ≤ n ∧ sysModules ∉ as) :
    ∀ (xs : List DV) (ps : List PyData) (vs : List V) (us : List Value), omap (toRD G n) xs = some ps → RepL X.K H xs vs → Vals vs us → ∃ as, ReadsAll s.heap us ps as ∧ (∀ p ∈ ps, p.depth ≤ n) ∧ sysModules ∉ as
  | [], ps, vs, us, h, r, z => by
    cases h
    rw [repL_nil.mp r] at z
    cases z
    exact ⟨[], .nil, fun p hp => (List.not_mem_nil hp).elim, fun hp => (List.not_mem_nil hp).elim⟩
  | x :: xs, ps, vs, us, h, r, z => by
    obtain ⟨v, w, rfl, r1, r2⟩ := repL_cons.mp r
    cases z with
    | cons z1 z2 =>
      unfold omap at h
      split at h
      · rename_i d ds e1 e2
        cases h
        obtain ⟨as, a1, a2, a3⟩ := ih x d v _ e1 r1 z1
        obtain ⟨bs, b1, b2, b3⟩ := omap_rd ih xs ds w _ e2 r2 z2
        refine ⟨as ++ bs, .cons a1 b1, fun p hp => ?_, fun hm => ?_⟩
        · rcases List.mem_cons.mp hp with rfl | hp
          · exact a2
          · exact b2 p hp
        · rcases List.mem_append.mp hm with hm | hm
          · exact a3 hm
          · exact b3 hm
      · cases h
theorem keys_rd {h : Heap} {P : Program} {w : World} : ∀ {es : List DictEntry} {kvs : List (Key × Value)}, Pairs (mixKind P w) es kvs → ReadsAll h (es.map (·.key)) (kvs.map fun p => keyPD p.1) [] ∧ es.map (·.val) = kvs.map (·.2)
  | _, _, .nil => ⟨.nil, rfl⟩
  | _, _, .cons (e := e) (kv := kv) h1 h2 r => by
    obtain ⟨i1, i2⟩ := keys_rd r
    refine ⟨?_, by rw [List.map_cons, List.map_cons, i2, h2]⟩
    obtain ⟨k, v⟩ := kv
    have q : keyIs k e.key = true := h1
    rcases keyIs_shape q with ⟨i, t, ek, ev⟩ | ⟨x, t, ek, ev⟩
    · rw [List.map_cons, List.map_cons]
      dsimp only at ek ⊢
      subst ek
      rw [ev]
      exact ReadsAll.cons (as := []) (.int i t) i1
    · rw [List.map_cons, List.map_cons]
      dsimp only at ek ⊢
      subst ek
      rw [ev]
      exact ReadsAll.cons (as := []) (.str x t) i1
theorem kv_vals : ∀ {ps : List (Key × V)} {vs : List (Key × Value)}, KV ps vs → Vals (ps.map (·.2)) (vs.map (·.2)) ∧ vs.map (·.1) = ps.map (·.1)
  | _, _, .nil => ⟨.nil, rfl⟩
  | _, _, .cons ⟨e, r⟩ t => by
    obtain ⟨i1, i2⟩ := kv_vals t
    exact ⟨.cons r i1, by rw [List.map_cons, List.map_cons, i2, e]⟩
theorem repP_vals {H : Hp} {K : PySem.W.Frag} : ∀ {kvs : List (Key × DV)} {ps : List (Key × V)}, RepP K H kvs ps → RepL K H (kvs.map (·.2)) (ps.map (·.2)) ∧ ps.map (·.1) = kvs.map (·.1)
  | _, _, .nil => ⟨repL_nil.mpr rfl, rfl⟩
  | _, _, .cons ⟨e, r⟩ t => by
    obtain ⟨i1, i2⟩ := repP_vals t
    exact ⟨repL_cons.mpr ⟨_, _, rfl, r, i1⟩, by rw [List.map_cons, List.map_cons, i2, e]⟩
/-- the list of all modules is none of what is tracked -/
theorem sys_none (hK : ∃ o, X.K.lookup sysModules = some o) (I : Inv X pins σ H s) : H sysModules = none := by
  obtain ⟨o, e⟩ := hK
  exact (I.bs sysModules o (I.ok.mod.kin _ _ e)).2
theorem toRD_reads (hK : ∃ o, X.K.lookup sysModules = some o) (I : Inv X pins σ H s) (rl : Rel X.K G H) : ∀ (n : Nat) (d : DV) (p : PyData) (v : V) (u : Value), toRD G n d = some p → Rep X.K H d v → RelV v u → ∃ as, Reads s.heap u p as ∧ p.depth ≤ n ∧ sysModules ∉ as
  | n, .non, p, v, u, h, r, z => by
    have : p = .none := by unfold toRD at h; cases n <;> (cases h; rfl)
    subst this
    rw [rep_non.mp r] at z
    cases (show u = Value.none from z)
    exact ⟨[], .none, by unfold PyData.depth; exact Nat.zero_le _, fun h => nomatch h⟩
  | n, .bl b, p, v, u, h, r, z => by
    have : p = .bool b := by unfold toRD at h; cases n <;> (cases h; rfl)
    subst this
    rw [rep_bl.mp r] at z
    cases (show u = Value.bool b from z)
    exact ⟨[], .bool b, by unfold PyData.depth; exact Nat.zero_le _, fun h => nomatch h⟩
  | n, .int b, p, v, u, h, r, z => by
    have : p = .int b := by unfold toRD at h; cases n <;> (cases h; rfl)
    subst this
    rw [rep_int.mp r] at z
    obtain ⟨t, rfl⟩ := (show ∃ t, u = Value.int b t from z)
    exact ⟨[], .int b t, by unfold PyData.depth; exact Nat.zero_le _, fun h => nomatch h⟩
  | n, .str b, p, v, u, h, r, z => by
    have : p = .str b := by unfold toRD at h; cases n <;> (cases h; rfl)
    subst this
    rw [rep_str.mp r] at z
    obtain ⟨t, rfl⟩ := (show ∃ t, u = Value.str b t from z)
    exact ⟨[], .str b t, by unfold PyData.depth; exact Nat.zero_le _, fun h => nomatch h⟩
  | 0, .tup xs, p, v, u, h, r, z => by unfold toRD at h; cases h
  | 0, .ref xs, p, v, u, h, r, z => by unfold toRD at h; cases h
  | n, .lk xs, p, v, u, h, r, z => by unfold toRD at h; cases n <;> cases h
  | n, .xt xs, p, v, u, h, r, z => by unfold toRD at h; cases n <;> cases h
  | n, .ty xs, p, v, u, h, r, z => by unfold toRD at h; cases n <;> cases h
  | n, .fv L, p, v, u, h, r, z => by unfold toRD at h; cases n <;> cases h
  | n, .xo _ _ _, p, v, u, h, r, z => by unfold toRD at h; cases n <;> cases h
  | n, .xb _, p, v, u, h, r, z => by unfold toRD at h; cases n <;> cases h
  | n + 1, .tup xs, p, v, u, h, r, z => by
    unfold toRD at h
    obtain ⟨ps, e, rfl⟩ := Option.map_eq_some_iff.mp h
    obtain ⟨a, vs, rfl, q, r1⟩ := rep_tup.mp r
    cases (show u = Value.ref a from z)
    obtain ⟨its, rv, ⟨o, ho, hc, m, hd⟩, _⟩ := I.tuple q
    obtain ⟨as, a1, a2, a3⟩ := omap_rd (s := s) (toRD_reads hK I rl n) xs ps vs its e r1 rv
    exact ⟨as, .tuple ho hc hd (by simpa using a1), by unfold PyData.depth; exact Nat.succ_le_succ (depthAll_le a2), a3⟩
  | n + 1, .ref a, p, v, u, h, r, z => by
    have ev := rep_ref.mp r
    subst ev
    cases (show u = Value.ref a from z)
    unfold toRD at h
    split at h
    · rename_i xs g
      obtain ⟨ps, e, rfl⟩ := Option.map_eq_some_iff.mp h
      obtain ⟨vs, q, r1⟩ := rl.rep a _ g
      obtain ⟨_, its, m, rv, ho⟩ := (show ObjOk X.prog X.w H s.heap a (.lst vs) from I.hok a _ q)
      obtain ⟨as, a1, a2, a3⟩ := omap_rd (s := s) (toRD_reads hK I rl n) xs ps vs its e r1 rv
      refine ⟨a :: as, .list ho rfl rfl (by simpa using a1), by unfold PyData.depth; exact Nat.succ_le_succ (depthAll_le a2), fun hm => ?_⟩
      rcases List.mem_cons.mp hm with e | hm
      · rw [← e, sys_none hK I] at q; cases q
      · exact a3 hm
    · rename_i kvs g
      obtain ⟨qs, e, rfl⟩ := Option.map_eq_some_iff.mp h
      obtain ⟨ps, q, rp⟩ := rl.rep a _ g
      obtain ⟨_, _, vs, rk, o, es, ep, ho, hx, hd, _, pr, _⟩ := (show ObjOk X.prog X.w H s.heap a (.dK ps) from I.hok a _ q)
      obtain ⟨b1, b2⟩ := repP_vals rp
      obtain ⟨c1, c2⟩ := kv_vals rk
      obtain ⟨d1, d2⟩ := keys_rd (h := s.heap) pr
      obtain ⟨as, a1, a2, a3⟩ := omap_rd (s := s) (toRD_reads hK I rl n) _ qs _ _ e b1 c1
      have hl := omap_len e
      rw [List.length_map] at hl
      have ek : (vs.map fun p => keyPD p.1) = kvs.map fun p => keyPD p.1 := by
        have : (vs.map (·.1)).map keyPD = (kvs.map (·.1)).map keyPD := by rw [c2, b2]
        rw [List.map_map, List.map_map] at this
        exact this
      have z1 : (((kvs.map fun p => keyPD p.1).zip qs).map (·.1)) = kvs.map fun p => keyPD p.1 := by
        rw [List.map_fst_zip (by rw [List.length_map, hl]; exact Nat.le_refl _)]
      have z2 : (((kvs.map fun p => keyPD p.1).zip qs).map (·.2)) = qs := by
        rw [List.map_snd_zip (by rw [List.length_map, hl]; exact Nat.le_refl _)]
      refine ⟨a :: [] ++ as, .dict (as := []) (bs := as) ho hx.1 hd (by rw [z1, ← ek]; exact d1) (by rw [z2, d2]; exact a1), ?_, fun hm => ?_⟩
      · unfold PyData.depth
        have := depthKv_le (n := n) (ks := kvs.map (·.1)) (vs := qs) a2
        rw [List.map_map] at this
        exact Nat.succ_le_succ this
      · rcases List.mem_cons.mp (show sysModules ∈ a :: as from hm) with e | hm
        · rw [← e, sys_none hK I] at q; cases q
        · exact a3 hm
    · cases h
/-- repr(x) -/
def rRepr (K : PySem.W.Frag) : List V → Hp → VK → Prop := fun xs H Q => ∃ (G : DH) (x : DV) (v : V) (p : PyData), xs = [v] ∧ Rel K G H ∧ Rep K H x v ∧ toRD G 60 x = some p ∧ p.showable = true ∧ p.shown.length ≤ sizeLine ∧ Q (.str p.shown) H
theorem call_repr (hg : X.A.guards = some []) (hu : X.A.units + 64 < cLine) (hK : ∃ o, X.K.lookup sysModules = some o) : CallR X (.builtin "repr") (rRepr X.K) := by
  intro pins s σ H xs us Q I r h
  obtain ⟨G, x, v, p, rfl, rl, rx, e, hs, hz, q⟩ := h
  obtain ⟨u, rfl, ru⟩ := vals1 r
  obtain ⟨as, hr, hd, hm⟩ := toRD_reads hK I rl 60 x p v u e rx ru
  have fin : ∀ (h' : Heap) (t tk : Tok), (∀ b o, s.heap.get? b = some o → h'.get? b = some o) → EP X pins σ Q (.str p.shown t) { s with heap := h', toks := tk } := fun h' t tk k => ⟨.str p.shown, H, I.kept (t' := tk) k, ⟨t, rfl⟩, q⟩
  cases hr with
  | none => exact PySem.P.repr_of_none (by have := fin s.heap s.toks (s.toks + 1) fun _ _ z => z; simpa only [PyData.shown] using this)
  | bool b => exact PySem.P.repr_of_bool (by have := fin s.heap s.toks (s.toks + 1) fun _ _ z => z; simpa only [PyData.shown] using this)
  | int i t => exact PySem.P.repr_of_int (by simpa [PyData.showable] using hs) (by have := fin s.heap s.toks (s.toks + 1) fun _ _ z => z; simpa only [PyData.shown] using this)
  | str y t => exact PySem.P.repr_of_str (by have := fin s.heap s.toks (s.toks + 1) fun _ _ z => z; simpa only [PyData.shown] using this) (by simpa only [PyData.shown] using hz)
  | list h1 h2 h3 h4 => exact repr_of_reads' (.list h1 h2 h3 h4) hs (fun _ => hm) hg (by omega) (fun _ _ z => z) (fun h' t tk k => fin h' t tk k) hz
  | tuple h1 h2 h3 h4 => exact repr_of_reads' (.tuple h1 h2 h3 h4) hs (fun _ => hm) hg (by omega) (fun _ _ z => z) (fun h' t tk k => fin h' t tk k) hz
  | dict h1 h2 h3 h4 h5 => exact repr_of_reads' (.dict h1 h2 h3 h4 h5) hs (fun _ => hm) hg (by omega) (fun _ _ z => z) (fun h' t tk k => fin h' t tk k) hz
end
/-! repr(e) by data -/
def dRepr : DRC := fun ds G P => ∃ x p, ds = [x] ∧ toRD G 60 x = some p ∧ p.showable = true ∧ p.shown.length ≤ sizeLine ∧ P (.str p.shown) G
theorem dc_repr {K : PySem.W.Frag} : DCal K (rRepr K) dRepr := fun xs G P vs H Q zs rl ⟨x, p, e, h1, h2, h3, q⟩ k => by
  subst e
  obtain ⟨v, rfl, z⟩ := repL_one.mp zs
  exact ⟨G, x, v, p, rfl, rl, z, h1, h2, h3, k _ G _ H (rep_str.mpr rfl) rl (Frame.refl G H) q⟩
end DL
end
section
set_option Elab.async false
set_option linter.all false
set_option maxRecDepth 100000
set_option autoImplicit false
namespace DL
open PySem PySem.Spec PyProof.Rows L2
structure DEnds where
  nx : DSt → DH → Prop
  rt : DK
  bk : DSt → DH → Prop := fun _ _ => False
  ct : DSt → DH → Prop := fun _ _ => False
abbrev DTS := DEnds → DSt → DH → Prop
structure EndsR (K : PySem.W.Frag) (ξ : XP) (G : DH) (H : Hp) (E : DEnds) (D : Ends) : Prop where
  nx : ∀ τ' G' σ' H', RelS K H' τ' σ' → RelX K ξ G' H' → Frame G H G' H' → E.nx τ' G' → D.nx σ' H'
  rt : ∀ d G' v H', Rep K H' d v → RelX K ξ G' H' → Frame G H G' H' → E.rt d G' → D.rt v H'
  bk : ∀ τ' G' σ' H', RelS K H' τ' σ' → RelX K ξ G' H' → Frame G H G' H' → E.bk τ' G' → D.bk σ' H'
  ct : ∀ τ' G' σ' H', RelS K H' τ' σ' → RelX K ξ G' H' → Frame G H G' H' → E.ct τ' G' → D.ct σ' H'
theorem EndsR.mono {K : PySem.W.Frag} {ξ : XP} {G G1 : DH} {H H1 : Hp} {E : DEnds} {D : Ends} (e : EndsR K ξ G H E D) (f : Frame G H G1 H1) : EndsR K ξ G1 H1 E D :=
  ⟨fun τ' G' σ' H' a b c d => e.nx τ' G' σ' H' a b (f.trans c) d, fun d G' v H' a b c q => e.rt d G' v H' a b (f.trans c) q, fun τ' G' σ' H' a b c d => e.bk τ' G' σ' H' a b (f.trans c) d, fun τ' G' σ' H' a b c d => e.ct τ' G' σ' H' a b (f.trans c) d⟩
def liftS (K : PySem.W.Frag) (ξ : XP) (t : DTS) : TS := fun D σ H => ∃ (τ : DSt) (G : DH) (E : DEnds), RelS K H τ σ ∧ RelX K ξ G H ∧ t E τ G ∧ EndsR K ξ G H E D
abbrev DS (X : Cx) (ξ : XP) (st : Stmt) (t : DTS) : Prop := PS X st (liftS X.K ξ t)
abbrev DSs (X : Cx) (ξ : XP) (st : List Stmt) (t : DTS) : Prop := PSs X st (liftS X.K ξ t)
section
variable {X : Cx} {ξ : XP} {st : Stmt} {rest a b body : List Stmt} {t u tb : DTS} {e c : Expr} {te ta : DTE} {tc : DTT} {pos : Pos}
def dNext : DTS := fun E τ G => E.nx τ G
def dSeq (t u : DTS) : DTS := fun E τ G => t { E with nx := u E } τ G
theorem dss_nil : DSs X ξ [] dNext := pss_weak pss_nil fun D σ H ⟨τ, G, E, rs, rl, p, er⟩ => er.nx τ G σ H rs rl (Frame.refl G H) p
theorem dss_cons (h1 : DS X ξ st t) (h2 : DSs X ξ rest u) : DSs X ξ (st :: rest) (dSeq t u) :=
  pss_weak (pss_cons h1 h2) fun D σ H ⟨τ, G, E, rs, rl, p, er⟩ => ⟨τ, G, { E with nx := u E }, rs, rl, p, ⟨fun τ' G' σ' H' rs' rl' f q => ⟨τ', G', E, rs', rl', q, er.mono f⟩, er.rt, er.bk, er.ct⟩⟩
theorem ds_pass : DS X ξ (.Pass pos) dNext := ps_weak ps_pass fun D σ H ⟨τ, G, E, rs, rl, p, er⟩ => er.nx τ G σ H rs rl (Frame.refl G H) p
theorem ds_doc {x : Str} {j : Nat} {pos' : Pos} : DS X ξ (.Expr (.Constant (.str x) j pos) pos') dNext := ps_weak ps_doc fun D σ H ⟨τ, G, E, rs, rl, p, er⟩ => er.nx τ G σ H rs rl (Frame.refl G H) p
def dBreak : DTS := fun E τ G => E.bk τ G
def dCont : DTS := fun E τ G => E.ct τ G
theorem ds_break : DS X ξ (.Break pos) dBreak := ps_weak ps_break fun D σ H ⟨τ, G, E, rs, rl, p, er⟩ => er.bk τ G σ H rs rl (Frame.refl G H) p
theorem ds_continue : DS X ξ (.Continue pos) dCont := ps_weak ps_continue fun D σ H ⟨τ, G, E, rs, rl, p, er⟩ => er.ct τ G σ H rs rl (Frame.refl G H) p
def dNever : DTS := fun _ _ _ => False
theorem ds_never : DS X ξ st dNever := ps_weak ps_never fun D σ H ⟨τ, G, E, rs, rl, p, er⟩ => p
def dDrop (te : DTE) : DTS := fun E τ G => te τ G fun _ G1 => E.nx τ G1
theorem ds_expr (he : DE X ξ e te) (hs : swapsWith e none pos.line X.env = pure false) : DS X ξ (.Expr e pos) (dDrop te) :=
  ps_weak (ps_expr he hs) fun D σ H ⟨τ, G, E, rs, rl, p, er⟩ => ⟨τ, G, _, rs, rl, p, fun d G1 v H1 z r1 f1 p1 => er.nx τ G1 σ H1 (rs.mono (f1.keeps rl.1)) r1 f1 p1⟩
def dRet (te : DTE) : DTS := fun E τ G => te τ G E.rt
theorem ds_ret (he : DE X ξ e te) : DS X ξ (.Return (some e) pos) (dRet te) := ps_weak (ps_ret he) fun D σ H ⟨τ, G, E, rs, rl, p, er⟩ => ⟨τ, G, _, rs, rl, p, er.rt⟩
def dRetN : DTS := fun E _ G => E.rt .non G
theorem ds_retN : DS X ξ (.Return none pos) dRetN := ps_weak ps_retN fun D σ H ⟨τ, G, E, rs, rl, p, er⟩ => er.rt .non G _ H (rep_non.mpr rfl) rl (Frame.refl G H) p
def dIf (c : DTT) (t u : DTS) : DTS := fun E τ G => c τ G fun b G1 => if b = true then t E τ G1 else u E τ G1
theorem ds_if (hc : DT X ξ c tc) (ha : DSs X ξ a t) (hb : DSs X ξ b u) : DS X ξ (.If c a b pos) (dIf tc t u) :=
  ps_weak (ps_if hc ha hb) fun D σ H ⟨τ, G, E, rs, rl, p, er⟩ => lift_ifT (α := Unit) tc rs rl p
    (fun G1 H1 r1 f1 p1 => ⟨τ, G1, E, rs.mono (f1.keeps rl.1), r1, p1, er.mono f1⟩) fun G1 H1 r1 f1 p1 => ⟨τ, G1, E, rs.mono (f1.keeps rl.1), r1, p1, er.mono f1⟩
/-! ### targets that are names -/
inductive Tg where
  | n (i : Nat)
  | t (ts : List Tg)
mutual
def asgD : Tg → DV → DSt → Option DSt
  | .n i, d, τ => some (τ.set i (some d))
  | .t ts, .tup xs, τ => asgDs ts xs τ
  | .t _, _, _ => none
def asgDs : List Tg → List DV → DSt → Option DSt
  | [], [], τ => some τ
  | t :: ts, x :: xs, τ => match asgD t x τ with
    | some τ1 => asgDs ts xs τ1
    | none => none
  | _, _, _ => none
end
mutual
def gTg (K : PySem.W.Frag) : Tg → TG
  | .n i => gName i
  | .t ts => gTup K ts.length (gTgs K ts)
def gTgs (K : PySem.W.Frag) : List Tg → TGs
  | [] => gNil
  | t :: ts => gCons (gTg K t) (gTgs K ts)
end
mutual
def Tg.vars : Tg → List Nat
  | .n i => [i]
  | .t ts => Tg.varss ts
def Tg.varss : List Tg → List Nat
  | [] => []
  | t :: ts => t.vars ++ Tg.varss ts
end
/-- slots that only differ at vs -/
structure Diff (vs : List Nat) (σ σ' : L2.St) : Prop where
  len : σ'.length = σ.length
  out : ∀ i, i ∉ vs → σ'[i]? = σ[i]?
mutual
theorem asg_run {K : PySem.W.Frag} {H : Hp} : ∀ (tg : Tg) (d : DV) (v : V) (τ τ2 : DSt) (σ : L2.St) (Q : L2.St → Hp → Prop), asgD tg d τ = some τ2 → Rep K H d v → RelS K H τ σ → (∀ σ2, RelS K H τ2 σ2 → Diff tg.vars σ σ2 → Q σ2 H) → gTg K tg v σ H Q
  | .n i, d, v, τ, τ2, σ, Q, h, z, rs, q => by
    unfold asgD at h; cases h
    unfold gTg gName
    refine q _ (rs.set i z) ⟨by simp, fun j hj => ?_⟩
    unfold Tg.vars at hj
    rw [List.getElem?_set_ne (fun e => hj (by rw [e]; exact List.mem_singleton_self _))]
  | .t ts, d, v, τ, τ2, σ, Q, h, z, rs, q => by
    cases d with
    | tup xs =>
      unfold asgD at h
      obtain ⟨a, vs, e, s, r⟩ := rep_tup.mp z
      unfold gTg gTup
      have hl : xs.length = ts.length := asgDs_len ts xs τ τ2 h
      refine ⟨a, vs, e, s, by rw [r.length, hl], ?_⟩
      have e2 : (Tg.t ts).vars = Tg.varss ts := by rw [Tg.vars]
      exact asgs_run ts xs vs τ τ2 σ Q h r rs (by rw [e2] at q; exact q)
    | _ => unfold asgD at h; cases h
theorem asgs_run {K : PySem.W.Frag} {H : Hp} : ∀ (ts : List Tg) (ds : List DV) (vs : List V) (τ τ2 : DSt) (σ : L2.St) (Q : L2.St → Hp → Prop), asgDs ts ds τ = some τ2 → RepL K H ds vs → RelS K H τ σ → (∀ σ2, RelS K H τ2 σ2 → Diff (Tg.varss ts) σ σ2 → Q σ2 H) → gTgs K ts vs σ H Q
  | [], ds, vs, τ, τ2, σ, Q, h, z, rs, q => by
    cases ds with
    | nil =>
      unfold asgDs at h; cases h
      unfold gTgs gNil
      exact ⟨repL_nil.mp z, q σ rs ⟨rfl, fun _ _ => rfl⟩⟩
    | cons x xs => unfold asgDs at h; cases h
  | t :: ts, ds, vs, τ, τ2, σ, Q, h, z, rs, q => by
    cases ds with
    | nil => unfold asgDs at h; cases h
    | cons x xs =>
      unfold asgDs at h
      obtain ⟨v, r, e, z1, z2⟩ := repL_cons.mp z
      split at h
      · rename_i τ1 h1
        unfold gTgs gCons
        refine ⟨v, r, e, asg_run t x v τ τ1 σ _ h1 z1 rs fun σ1 rs1 d1 => asgs_run ts xs r τ1 τ2 σ1 Q h z2 rs1 fun σ2 rs2 d2 => q σ2 rs2 ⟨d2.len.trans d1.len, fun i hi => ?_⟩⟩
        rw [Tg.varss, List.mem_append, not_or] at hi
        exact (d2.out i hi.2).trans (d1.out i hi.1)
      · cases h
theorem asgDs_len : ∀ (ts : List Tg) (ds : List DV) (τ τ2 : DSt), asgDs ts ds τ = some τ2 → ds.length = ts.length
  | [], ds, τ, τ2, h => by
    cases ds with
    | nil => rfl
    | cons x xs => unfold asgDs at h; cases h
  | t :: ts, ds, τ, τ2, h => by
    cases ds with
    | nil => unfold asgDs at h; cases h
    | cons x xs =>
      unfold asgDs at h
      split at h
      · rename_i τ1 h1
        rw [List.length_cons, List.length_cons, asgDs_len ts xs τ1 τ2 h]
      · cases h
end
/-- names = e -/
def dAsg (tg : Tg) (te : DTE) : DTS := fun E τ G => te τ G fun d G1 => ∃ τ2, asgD tg d τ = some τ2 ∧ E.nx τ2 G1
theorem lift_asg {K : PySem.W.Frag} (tg : Tg) (te : DTE) : ∀ D σ H, liftS K ξ (dAsg tg te) D σ H → tAsg (liftE K ξ te) (gTg K tg) D σ H :=
  fun D σ H ⟨τ, G, E, rs, rl, p, er⟩ => ⟨τ, G, _, rs, rl, p, fun d G1 v H1 z r1 f1 ⟨τ2, h, p1⟩ => asg_run tg d v τ τ2 σ _ h z (rs.mono (f1.keeps rl.1)) fun σ2 rs2 _ => er.nx τ2 G1 σ2 H1 rs2 r1 f1 p1⟩
/-- two names = two values, nothing made -/
def dPar (i j : Nat) (ta : DTA) : DTS := fun E τ G => ta τ G fun ds G1 => ∃ x y, ds = [x, y] ∧ E.nx ((τ.set i (some x)).set j (some y)) G1
theorem lift_par {K : PySem.W.Frag} (i j : Nat) (ta : DTA) : ∀ D σ H, liftS K ξ (dPar i j ta) D σ H → tPar i j (liftA K ξ ta) D σ H :=
  fun D σ H ⟨τ, G, E, rs, rl, p, er⟩ => ⟨τ, G, _, rs, rl, p, fun ds G1 vs H1 z r1 f1 ⟨x, y, e, p1⟩ => by
    subst e
    obtain ⟨v, u, rfl, z1, z2⟩ := repL_two.mp z
    exact ⟨v, u, rfl, er.nx _ G1 _ H1 (((rs.mono (f1.keeps rl.1)).set i z1).set j z2) r1 f1 p1⟩⟩
/-! ### o[i] = e, o.f = e, name op= e -/
def ixNat (n : Nat) (i : Int) : Option Nat := ixN n i
def putD {κ : Type} [DecidableEq κ] (kvs : List (κ × DV)) (k : κ) (v : DV) : List (κ × DV) := if (kvs.any fun kv => decide (kv.1 = k)) = true then kvs.map fun kv => if kv.1 = k then (kv.1, v) else kv else kvs ++ [(k, v)]
def dSet : DV → DV → DV → DH → (DH → Prop) → Prop := fun o i v G P => match o with
  | .ref a => match G a with
    | some (.lst xs) => ∃ k j, i = .int k ∧ ixN xs.length k = some j ∧ P (updD G a (.lst (xs.set j v)))
    | some (.dK kvs) => ∃ k, keyD i = some k ∧ kvs.length < sizeLine ∧ P (updD G a (.dK (putD kvs k v)))
    | _ => False
  | _ => False
end
end DL
end
section
set_option Elab.async false
set_option linter.all false
set_option maxRecDepth 100000
set_option autoImplicit false
namespace DL
open PySem PySem.Spec PyProof.Rows L2
section
variable {X : Cx} {ξ : XP} {K : PySem.W.Frag}
theorem any_rep {κ : Type} [DecidableEq κ] {H : Hp} (k : κ) : ∀ {kvs : List (κ × DV)} {ps : List (κ × V)}, RepP K H kvs ps → (kvs.any fun kv => decide (kv.1 = k)) = ps.any fun kv => decide (kv.1 = k)
  | _, _, .nil => rfl
  | p :: ks, q :: ps, .cons ⟨e, r⟩ t => by rw [List.any_cons, List.any_cons, e, any_rep k t]
theorem map_rep {κ : Type} [DecidableEq κ] {H : Hp} (k : κ) {d : DV} {v : V} (z : Rep K H d v) : ∀ {kvs : List (κ × DV)} {ps : List (κ × V)}, RepP K H kvs ps → RepP K H (kvs.map fun kv => if kv.1 = k then (kv.1, d) else kv) (ps.map fun kv => if kv.1 = k then (kv.1, v) else kv)
  | _, _, .nil => .nil
  | p :: ks, q :: ps, .cons ⟨e, r⟩ t => by
    refine .cons ?_ (map_rep k z t)
    dsimp only
    by_cases h : p.1 = k
    · rw [if_pos h, if_pos (e ▸ h)]; exact ⟨e, z⟩
    · rw [if_neg h, if_neg (e ▸ h)]; exact ⟨e, r⟩
theorem app_rep {κ : Type} {H : Hp} {as bs : List (κ × DV)} {cs ds : List (κ × V)} (h : RepP K H as cs) (g : RepP K H bs ds) : RepP K H (as ++ bs) (cs ++ ds) := by
  induction h with
  | nil => exact g
  | cons r t ih => exact .cons r ih
theorem putD_rep {κ : Type} [DecidableEq κ] {H : Hp} (k : κ) {d : DV} {v : V} (z : Rep K H d v) {kvs : List (κ × DV)} {ps : List (κ × V)} (r : RepP K H kvs ps) : RepP K H (putD kvs k d) (putK ps k v) := by
  unfold putD putK
  rw [any_rep k r]
  split
  · exact map_rep k z r
  · exact app_rep r (.cons ⟨rfl, z⟩ .nil)
abbrev rSetDk : TSet := fun o i v H Q => ∃ a H', o = .ref a ∧ DPut H a i v H' ∧ Q H'
theorem set_dk (hu : X.A.units + 1 < cLine) : PSet X rSetDk := fun pins s σ H o i v ov iv u Q I ro ri rv ⟨a, H', e, g, q⟩ => by
  subst e
  obtain rfl : ov = Value.ref a := ro
  exact d_setItem hu I g ri rv fun s' I' => ⟨H', I', q⟩
abbrev rSetAll : TSet := fun o i v H Q => rSetL o i v H Q ∨ rSetDk o i v H Q
theorem set_all (hu : X.A.units + 1 < cLine) : PSet X rSetAll := fun pins s σ H o i v ov iv u Q I ro ri rv h => by
  rcases h with h | h
  · exact set_list pins s σ H o i v ov iv u Q I ro ri rv h
  · exact set_dk hu pins s σ H o i v ov iv u Q I ro ri rv h
theorem dset_run {o i v : DV} {G : DH} {P : DH → Prop} {ov iv vv : V} {H : Hp} {Q : Hp → Prop} (zo : Rep K H o ov) (zi : Rep K H i iv) (zv : Rep K H v vv) (rl : Rel K G H) (p : dSet o i v G P)
    (k : ∀ G' H', Rel K G' H' → Frame G H G' H' → P G' → Q H') : rSetAll ov iv vv H Q := by
  unfold dSet at p
  split at p
  · rename_i a
    split at p
    · rename_i xs g
      obtain ⟨n, j, e, hj, p⟩ := p
      subst e
      obtain ⟨us, hv, r1⟩ := rl _ _ g
      have kk := rl.keepsW (u := .lst (us.set j vv)) g
      have ⟨r3, f3⟩ := rl.write (u := .lst (us.set j vv)) (o' := .lst (xs.set j v)) g ⟨_, upd_same, (r1.set j zv).mono kk⟩
      exact .inl ⟨a, us, n, j, rep_ref.mp zo, rep_int.mp zi, hv, by rw [r1.length]; exact hj, k _ _ r3 f3 p⟩
    · rename_i kvs g
      obtain ⟨kk, hk, hl, p⟩ := p
      obtain ⟨ps, hv, r1⟩ := rl _ _ g
      have kp := rl.keepsW (u := .dK (putK ps kk vv)) g
      have ⟨r3, f3⟩ := rl.write (u := .dK (putK ps kk vv)) (o' := .dK (putD kvs kk v)) g ⟨_, upd_same, (putD_rep kk zv r1).mono kp⟩
      have hl2 : ps.length = kvs.length := (Paired.length r1).symm
      exact .inr ⟨a, _, rep_ref.mp zo, by rw [keyD_rep hk zi]; exact DPut.k hv (by rw [hl2]; exact hl), k _ _ r3 f3 p⟩
    · exact p.elim
  · exact p.elim
def dSetS (to ti te : DTE) : DTS := fun E τ G => te τ G fun v G1 => to τ G1 fun o G2 => ti τ G2 fun i G3 => dSet o i v G3 fun G4 => E.nx τ G4
theorem lift_set (to ti te : DTE) : ∀ D σ H, liftS K ξ (dSetS to ti te) D σ H → tAsg (liftE K ξ te) (gSub (liftE K ξ to) (liftE K ξ ti) rSetAll) D σ H :=
  fun D σ H ⟨τ, G, E, rs, rl, p, er⟩ => ⟨τ, G, _, rs, rl, p, fun v G1 vv H1 zv r1 f1 p1 => ⟨τ, G1, _, rs.mono (f1.keeps rl.1), r1, p1, fun o G2 ov H2 zo r2 f2 p2 => ⟨τ, G2, _, (rs.mono (f1.keeps rl.1)).mono (f2.keeps r1.1), r2, p2, fun i G3 iv H3 zi r3 f3 p3 =>
    dset_run (zo.mono (f3.keeps r2.1)) zi ((zv.mono (f2.keeps r1.1)).mono (f3.keeps r2.1)) r3.1 p3 fun G4 H4 r4 f4 p4 => er.nx τ G4 σ H4 ((((rs.mono (f1.keeps rl.1)).mono (f2.keeps r1.1)).mono (f3.keeps r2.1)).mono (f4.keeps r3.1)) (r3.to r4 f4) (f1.trans (f2.trans (f3.trans f4))) p4⟩⟩⟩
/-! ### fields -/
def putFD (f : String) (v : DV) : List (String × DV) → List (String × DV)
  | [] => [(f, v)]
  | (g, w) :: r => if g = f then (g, v) :: r else (g, w) :: putFD f v r
theorem putF_eq (f : Str) (v : V) : ∀ l : List (Str × V), putF f v l = match l with | [] => [(f, v)] | (g, w) :: r => if g = f then (g, v) :: r else (g, w) :: putF f v r
  | [] => rfl
  | (g, w) :: r => rfl
theorem putFD_rep {H : Hp} (f : String) {d : DV} {v : V} (z : Rep K H d v) : ∀ {fs : List (String × DV)} {gs : List (Str × V)}, RepF K H fs gs → RepF K H (putFD f d fs) (putF f v gs)
  | _, _, .nil => .cons ⟨rfl, z⟩ .nil
  | (g, w) :: r, (g', w') :: r', .cons ⟨e, q⟩ t => by
    have e' : Str.ofString g = g' := e
    subst e'
    unfold putFD
    rw [putF_eq]
    dsimp only
    by_cases h : g = f
    · rw [if_pos h, if_pos (by rw [h])]; exact .cons ⟨rfl, z⟩ t
    · rw [if_neg h, if_neg (fun e => h (ofString_inj.mp e))]; exact .cons ⟨rfl, q⟩ (putFD_rep f z t)
theorem lookF_rep {H : Hp} (f : String) : ∀ {fs : List (String × DV)} {gs : List (Str × V)}, RepF K H fs gs → (fs.lookup f = none ∧ gs.lookup (Str.ofString f) = none) ∨ ∃ d v, fs.lookup f = some d ∧ gs.lookup (Str.ofString f) = some v ∧ Rep K H d v
  | _, _, .nil => .inl ⟨rfl, rfl⟩
  | (g, w) :: r, (g', w') :: r', .cons ⟨e, q⟩ t => by
    have e' : Str.ofString g = g' := e
    subst e'
    by_cases h : f = g
    · subst h
      exact .inr ⟨w, w', by simp [List.lookup], by simp [List.lookup], q⟩
    · have h1 : (f == g) = false := by simpa using h
      have h2 : (Str.ofString f == Str.ofString g) = false := by
        cases hh : (Str.ofString f == Str.ofString g) with
        | false => rfl
        | true => exact absurd (ofString_inj.mp (eq_of_beq hh)) h
      rw [List.lookup_cons, List.lookup_cons, h1, h2]
      exact lookF_rep f t
/-- what the written part says of the classes' fields -/
def FldOk (K : PySem.W.Frag) (c f : String) : Prop := Cls K (He.ga K c) ∧ NoAttr K (He.ga K c) (Str.ofString f)
/-- o.f of an instance of one of the classes cs -/
def dFld (cs : List String) (f : String) (ta : DTE) : DTE := fun τ G P => ta τ G fun x G1 => ∃ a c fs d, x = .ref a ∧ G1 a = some (.ins c fs) ∧ c ∈ cs ∧ fs.lookup f = some d ∧ P d G1
theorem de_fld {cs : List String} {e : Expr} {f : String} {te : DTE} {pos : Pos} (hc : ∀ c ∈ cs, FldOk X.K c f) (he : DE X ξ e te) (hb : attributeBase e (Str.ofString f) X.env (eval e X.env) = eval e X.env) : DE X ξ (.Attribute e (Str.ofString f) pos) (dFld cs f te) :=
  pe_weak (pe_fld he hb) fun σ H Q ⟨τ, G, P, rs, rl, p, k⟩ => ⟨τ, G, _, rs, rl, p, fun x G1 v H1 z r1 f1 ⟨a, c, fs, d, e, g, hm, l, p1⟩ => by
    subst e
    obtain ⟨dx, gs, hh, rf⟩ := r1.1 _ _ g
    rcases lookF_rep f rf with ⟨q1, _⟩ | ⟨d', w, q1, q2, zz⟩
    · rw [q1] at l; cases l
    · rw [q1] at l; cases l
      exact ⟨a, _, dx, gs, w, rep_ref.mp z, hh, (hc c hm).1, (hc c hm).2, q2, k _ G1 w H1 zz r1 f1 p1⟩⟩
def dFldS (cs : List String) (f : String) (to te : DTE) : DTS := fun E τ G => te τ G fun v G1 => to τ G1 fun x G2 => ∃ a c fs, x = .ref a ∧ G2 a = some (.ins c fs) ∧ c ∈ cs ∧ fs.length < 1000 ∧ E.nx τ (updD G2 a (.ins c (putFD f v fs)))
theorem ds_fld {cs : List String} {o e : Expr} {f : String} {to te : DTE} {pos pos' : Pos} (hc : ∀ c ∈ cs, FldOk X.K c f) (ho : DE X ξ o to) (he : DE X ξ e te) (hs : swapsWith e (some (.Attribute o (Str.ofString f) pos')) pos.line X.env = pure false) :
    DS X ξ (.Assign [.Attribute o (Str.ofString f) pos'] e pos) (dFldS cs f to te) :=
  ps_weak (ps_fld ho he hs) fun D σ H ⟨τ, G, E, rs, rl, p, er⟩ => ⟨τ, G, _, rs, rl, p, fun v G1 vv H1 zv r1 f1 p1 => ⟨τ, G1, _, rs.mono (f1.keeps rl.1), r1, p1, fun x G2 xv H2 z r2 f2 ⟨a, c, fs, e, g, hm, hl, p2⟩ => by
    subst e
    obtain ⟨dx, gs, hh, rf⟩ := r2.1 _ _ g
    have hl2 : gs.length = fs.length := (Paired.length rf).symm
    have kk := r2.1.keepsW (u := .ins (He.ga X.K c) dx (putF (Str.ofString f) vv gs)) g
    have ⟨r3, f3⟩ := r2.1.write (u := .ins (He.ga X.K c) dx (putF (Str.ofString f) vv gs)) (o' := .ins c (putFD f v fs)) g ⟨dx, _, upd_same, (putFD_rep f (zv.mono (f2.keeps r1.1)) rf).mono kk⟩
    exact ⟨a, _, dx, gs, rep_ref.mp z, hh, (hc c hm).1, (hc c hm).2, by rw [hl2]; exact hl, er.nx τ _ σ _ (((rs.mono (f1.keeps rl.1)).mono (f2.keeps r1.1)).mono (f3.keeps r2.1)) (r2.to r3 f3) (f1.trans (f2.trans f3)) p2⟩⟩⟩
/-- name op= e -/
def dAug (i : Nat) (rd : DR2) (te : DTE) : DTS := fun E τ G => ∃ x, τ[i]? = some (some x) ∧ te τ G fun y G1 => rd x y G1 fun z G2 => E.nx (τ.set i (some z)) G2
theorem lift_aug {r : R2} {rd : DR2} (h : DOp K r rd) (i : Nat) (te : DTE) : ∀ D σ H, liftS K ξ (dAug i rd te) D σ H → tAug i (liftE K ξ te) r D σ H :=
  fun D σ H ⟨τ, G, E, rs, rl, ⟨x, hx, p⟩, er⟩ => by
    obtain ⟨v, hv, z⟩ := rs.get i x hx
    exact ⟨v, hv, ⟨τ, G, _, rs, rl, p, fun y G1 u H1 zy r1 f1 p1 => h x y G1 _ v u H1 _ (z.mono (f1.keeps rl.1)) zy r1.1 p1 fun d G2 w H2 z2 r2 f2 p2 =>
      er.nx _ G2 _ H2 (((rs.mono (f1.keeps rl.1)).mono (f2.keeps r1.1)).set i z2) (r1.to r2 f2) (f1.trans f2) p2⟩⟩
/-! ### what is walked -/
/-- an iterator of the layer goes over data, as long as they live -/
def JOk (K : PySem.W.Frag) (H1 : Hp) (J : It) (xs : List DV) (live : DH → Prop) : Prop := ∀ i G H, Keeps H1 H → Rel K G H → live G →
  (∀ d, xs[i]? = some d → J.go i H ∧ ∀ x H', J.yld i H x H' → Rep K H' d x ∧ Rel K G H' ∧ Frame G H G H') ∧ (i = xs.length → J.stop i H)
abbrev DTI := DSt → DH → (List DV → (DH → Prop) → DH → Prop) → Prop
def liftI (K : PySem.W.Frag) (ξ : XP) (wi : DTI) : TI := fun σ H R => ∃ (τ : DSt) (G : DH) (P : List DV → (DH → Prop) → DH → Prop), RelS K H τ σ ∧ RelX K ξ G H ∧ wi τ G P ∧
  ∀ xs live G' H' J, RelX K ξ G' H' → Frame G H G' H' → JOk K H' J xs live → P xs live G' → R J H'
abbrev DI (X : Cx) (ξ : XP) (tg iter : Expr) (wi : DTI) : Prop := PI X tg iter (liftI X.K ξ wi)
theorem pi_weak {tg e : Expr} {t t' : TI} (h : PI X tg e t) (w : ∀ σ H Q, t' σ H Q → t σ H Q) : PI X tg e t' := ⟨fun pins s σ H Q I q => h.run pins s σ H Q I (w σ H Q q)⟩
/-- for target in wi -/
def dFor (wi : DTI) (tg : Tg) (tb : DTS) : DTS := fun E τ G => wi τ G fun xs live G1 => ∃ Pv : Nat → DSt → DH → Prop, Pv 0 τ G1 ∧ ∀ i τ G, i ≤ xs.length → Pv i τ G → live G ∧
  match xs[i]? with
  | some x => ∃ τ2, asgD tg x τ = some τ2 ∧ tb { E with nx := Pv (i + 1), ct := Pv (i + 1), bk := E.nx } τ2 G
  | none => E.nx τ G
theorem lift_for (wi : DTI) (tg : Tg) (tb : DTS) : ∀ D σ H, liftS K ξ (dFor wi tg tb) D σ H → tFor (liftI K ξ wi) (gTg K tg) (liftS K ξ tb) D σ H :=
  fun D σ H ⟨τ, G, E, rs, rl, p, er⟩ => ⟨τ, G, _, rs, rl, p, fun xs live G1 H1 J r1 f1 jo ⟨Pv, h0, hs⟩ => by
    refine ⟨fun i m σ H' => m = xs.length - i ∧ i ≤ xs.length ∧ ∃ τ' G', RelS K H' τ' σ ∧ RelX K ξ G' H' ∧ Frame G1 H1 G' H' ∧ Pv i τ' G', ⟨_, rfl, Nat.zero_le _, τ, G1, rs.mono (f1.keeps rl.1), r1, Frame.refl _ _, h0⟩, ?_⟩
    rintro i m σ1 H2 ⟨rfl, hi, τ', G', rs', rl', f', pv⟩
    obtain ⟨lv, hb⟩ := hs i τ' G' hi pv
    obtain ⟨jg, jst⟩ := jo i G' H2 (f'.keeps r1.1) rl'.1 lv
    by_cases hlt : i < xs.length
    · have hx : xs[i]? = some xs[i] := List.getElem?_eq_getElem hlt
      rw [hx] at hb
      obtain ⟨τ2, ha, hb⟩ := hb
      obtain ⟨g1, g2⟩ := jg _ hx
      refine .inr ⟨g1, fun σ' H' => i + 1 ≤ xs.length ∧ ∃ τ' G', RelS K H' τ' σ' ∧ RelX K ξ G' H' ∧ Frame G1 H1 G' H' ∧ Pv (i + 1) τ' G', fun σ' H' ⟨l, q⟩ => ⟨xs.length - (i + 1), by omega, rfl, l, q⟩, fun x H3 hy => ?_⟩
      obtain ⟨zx, r3, f3⟩ := g2 x H3 hy
      refine asg_run tg _ x τ' τ2 σ1 _ ha zx (rs'.mono (f3.keeps rl'.1)) fun σ2 rs2 _ => ?_
      have e3 := ((er.mono f1).mono f').mono f3
      exact ⟨τ2, G', _, rs2, rl'.to r3 f3, hb, ⟨fun τa Ga σa Ha a b c d => ⟨hlt, τa, Ga, a, b, f'.trans (f3.trans c), d⟩, e3.rt, e3.nx, fun τa Ga σa Ha a b c d => ⟨hlt, τa, Ga, a, b, f'.trans (f3.trans c), d⟩⟩⟩
    · have hx : xs[i]? = none := List.getElem?_eq_none (by omega)
      rw [hx] at hb
      exact .inl ⟨jst (by omega), er.nx τ' G' σ1 H2 rs' rl' (f1.trans f') hb⟩⟩
/-- while -/
def dWhile (c : DTT) (tb : DTS) : DTS := fun E τ G => ∃ Pv : Nat → DSt → DH → Prop, (∃ m, Pv m τ G) ∧ ∀ m τ G, Pv m τ G → c τ G fun b G1 =>
  if b = true then tb { E with nx := fun τ' G' => ∃ m', m' < m ∧ Pv m' τ' G', ct := fun τ' G' => ∃ m', m' < m ∧ Pv m' τ' G', bk := E.nx } τ G1 else E.nx τ G1
theorem lift_while (c : DTT) (tb : DTS) : ∀ D σ H, liftS K ξ (dWhile c tb) D σ H → tWhile (liftT K ξ c) (liftS K ξ tb) D σ H :=
  fun D σ H ⟨τ, G, E, rs, rl, ⟨Pv, ⟨m, h0⟩, hs⟩, er⟩ => by
    refine ⟨fun m σ H' => ∃ τ' G', RelS K H' τ' σ ∧ RelX K ξ G' H' ∧ Frame G H G' H' ∧ Pv m τ' G', ⟨m, τ, G, rs, rl, Frame.refl G H, h0⟩, ?_⟩
    rintro m σ1 H1 ⟨τ', G', rs', rl', f', pv⟩
    refine ⟨τ', G', _, rs', rl', hs m τ' G' pv, fun b G2 H2 r2 f2 p2 => ?_⟩
    have e2 := (er.mono f').mono f2
    cases b with
    | true =>
      dsimp only at p2 ⊢
      rw [if_pos rfl] at p2 ⊢
      refine ⟨fun σ' H' => ∃ m', m' < m ∧ ∃ τ' G', RelS K H' τ' σ' ∧ RelX K ξ G' H' ∧ Frame G H G' H' ∧ Pv m' τ' G', fun σ' H' ⟨m', l, q⟩ => ⟨m', l, q⟩, τ', G2, _, rs'.mono (f2.keeps rl'.1), r2, p2, ?_⟩
      exact ⟨fun τa Ga σa Ha a b c ⟨m', l, d⟩ => ⟨m', l, τa, Ga, a, b, f'.trans (f2.trans c), d⟩, e2.rt, e2.nx, fun τa Ga σa Ha a b c ⟨m', l, d⟩ => ⟨m', l, τa, Ga, a, b, f'.trans (f2.trans c), d⟩⟩
    | false =>
      dsimp only at p2 ⊢
      rw [if_neg (by decide)] at p2 ⊢
      exact e2.nx τ' G2 σ1 H2 (rs'.mono (f2.keeps rl'.1)) r2 (Frame.refl _ _) p2
end
end DL
end
section
set_option Elab.async false
set_option linter.all false
set_option maxRecDepth 100000
set_option autoImplicit false
namespace DL
open PySem PySem.Spec PyProof.Rows L2
section
variable {X : Cx} {ξ : XP} {K : PySem.W.Frag}
/-! ### what is walked -/
def chrs (s : Str) : List DV := s.cps.toList.map fun c => .str ⟨#[c]⟩
def itOf (G : DH) (d : DV) : Option (List DV) := match d with
  | .str s => some (chrs s)
  | d => seqD G d
theorem atL {xs : List DV} {vs : List V} {H : Hp} (r : RepL K H xs vs) {i : Nat} {d : DV} (h : xs[i]? = some d) : ∃ v, vs[i]? = some v ∧ Rep K H d v := r.get' h
theorem jok_list {G1 : DH} {H1 : Hp} {x : DV} {a : Addr} {xs : List DV} (z : Rep K H1 x (.ref a)) (n : ∀ ys, x ≠ .tup ys) : JOk K H1 (Itl K a) xs (fun G => seqD G x = some xs) := fun i G H k rl lv => by
  obtain ⟨b, vs, e, r, ⟨_, q⟩ | ⟨q, _⟩⟩ := seqD_rep rl lv (z.mono k)
  · exact absurd q (n _)
  · cases e
    refine ⟨fun d hd => ?_, fun hl => ⟨vs, q, by rw [r.length]; omega⟩⟩
    obtain ⟨v, hv, zv⟩ := atL r hd
    refine ⟨⟨vs, v, q, hv⟩, fun y H' ⟨eH, hy⟩ => ?_⟩
    subst eH
    have e1 := hy vs q
    rw [hv] at e1
    cases e1
    exact ⟨zv, rl, Frame.refl _ _⟩
theorem jok_tup {G1 : DH} {H1 : Hp} {a : Addr} {xs : List DV} {live : DH → Prop} (z : Rep K H1 (.tup xs) (.ref a)) : JOk K H1 (Itt K a) xs live := fun i G H k rl lv => by
  obtain ⟨b, vs, e, q, r⟩ := rep_tup.mp (z.mono k)
  cases e
  refine ⟨fun d hd => ?_, fun hl => ⟨vs, q, by rw [r.length]; omega⟩⟩
  obtain ⟨v, hv, zv⟩ := atL r hd
  refine ⟨⟨vs, v, q, hv⟩, fun y H' ⟨eH, hy⟩ => ?_⟩
  subst eH
  have e1 := hy vs q
  rw [hv] at e1
  cases e1
  exact ⟨zv, rl, Frame.refl _ _⟩
theorem jok_str {H1 : Hp} {s : Str} {live : DH → Prop} : JOk K H1 (Its s) (chrs s) live := fun i G H k rl lv => by
  have hs : (chrs s).length = s.cps.size := by simp [chrs]
  refine ⟨fun d hd => ?_, fun hl => by rw [hs] at hl; exact Nat.le_of_eq hl.symm⟩
  have hi : i < s.cps.size := by
    have := (List.getElem?_eq_some_iff.mp hd).1
    rw [hs] at this; exact this
  refine ⟨hi, fun y H' ⟨eH, c, hc, hy⟩ => ?_⟩
  subst eH
  unfold chrs at hd
  rw [List.getElem?_map, Array.getElem?_toList, hc] at hd
  cases hd
  exact ⟨rep_str.mpr hy, rl, Frame.refl _ _⟩
def rngD (lo : Int) (n : Nat) : List DV := (List.range n).map fun i => .int (lo + (i : Nat))
theorem rngD_len (lo : Int) (n : Nat) : (rngD lo n).length = n := by simp [rngD]
theorem jok_rng {H1 : Hp} {lo : Int} {n : Nat} {live : DH → Prop} : JOk K H1 (Itr lo n) (rngD lo n) live := fun i G H k rl lv => by
  refine ⟨fun d hd => ?_, fun hl => by rw [rngD_len] at hl; exact Nat.le_of_eq hl.symm⟩
  have hi : i < n := by
    have := (List.getElem?_eq_some_iff.mp hd).1
    rw [rngD_len] at this; exact this
  refine ⟨hi, fun y H' ⟨eH, hy⟩ => ?_⟩
  subst eH
  unfold rngD at hd
  rw [List.getElem?_map, List.getElem?_range hi] at hd
  cases hd
  exact ⟨rep_int.mpr hy, rl, Frame.refl _ _⟩
def zipD (xs ys : List DV) : List DV := (xs.zip ys).map fun p => .tup [p.1, p.2]
theorem zipD_at {xs ys : List DV} {i : Nat} {d : DV} (h : (zipD xs ys)[i]? = some d) : ∃ x y, xs[i]? = some x ∧ ys[i]? = some y ∧ d = .tup [x, y] := by
  unfold zipD at h
  rw [List.getElem?_map] at h
  cases q : (xs.zip ys)[i]? with
  | none => rw [q] at h; cases h
  | some p =>
    rw [q] at h
    cases h
    obtain ⟨q1, q2⟩ := List.getElem?_zip_eq_some.mp q
    exact ⟨_, _, q1, q2, rfl⟩
theorem rep_pair {G : DH} {H : Hp} {T : Addr} {d e : DV} {x y : V} (rl : Rel K G H) (hT : H T = none) (z1 : Rep K H d x) (z2 : Rep K H e y) : Rep K (upd H T (.tup [x, y])) (.tup [d, e]) (.ref T) ∧ Rel K G (upd H T (.tup [x, y])) ∧ Frame G H G (upd H T (.tup [x, y])) := by
  obtain ⟨r2, f2⟩ := rl.aside (u := .tup [x, y]) hT
  exact ⟨rep_tup.mpr ⟨T, _, rfl, SqT.of upd_same, repL_two.mpr ⟨x, y, rfl, z1.mono (f2.keeps rl), z2.mono (f2.keeps rl)⟩⟩, r2, f2⟩
theorem zipD_len (xs ys : List DV) : (zipD xs ys).length = min xs.length ys.length := by simp [zipD]
theorem jok_zip {H1 : Hp} {x y : DV} {a b : Addr} {xs ys : List DV} (z : Rep K H1 x (.ref a)) (n : ∀ us, x ≠ .tup us) (z' : Rep K H1 y (.ref b)) (n' : ∀ us, y ≠ .tup us) :
    JOk K H1 (Itz K a b) (zipD xs ys) (fun G => seqD G x = some xs ∧ seqD G y = some ys) := fun i G H k rl ⟨l1, l2⟩ => by
  obtain ⟨_, vs, e, r, ⟨_, q⟩ | ⟨q, _⟩⟩ := seqD_rep rl l1 (z.mono k)
  · exact absurd q (n _)
  cases e
  obtain ⟨_, us, e, r', ⟨_, q'⟩ | ⟨q', _⟩⟩ := seqD_rep rl l2 (z'.mono k)
  · exact absurd q' (n' _)
  cases e
  refine ⟨fun d hd => ?_, fun hl => ⟨vs, us, q, q', by rw [r.length, r'.length]; rw [zipD_len] at hl; omega⟩⟩
  obtain ⟨dx, dy, h1, h2, ed⟩ := zipD_at hd
  obtain ⟨v, hv, zv⟩ := atL r h1
  obtain ⟨u, hu, zu⟩ := atL r' h2
  refine ⟨⟨vs, us, v, u, q, q', hv, hu⟩, fun w H' ⟨T, v', u', ew, hT, eH, g1, g2⟩ => ?_⟩
  have e1 := g1 vs q
  have e2 := g2 us q'
  rw [hv] at e1; rw [hu] at e2
  cases e1; cases e2
  subst ew eH ed
  exact rep_pair rl hT zv zu
theorem jok_zipT {H1 : Hp} {a b : Addr} {xs ys : List DV} {live : DH → Prop} (z : Rep K H1 (.tup xs) (.ref a)) (z' : Rep K H1 (.tup ys) (.ref b)) :
    JOk K H1 (RZ.ItzT K a b) (zipD xs ys) live := fun i G H k rl _ => by
  obtain ⟨_, vs, e, q, r⟩ := rep_tup.mp (z.mono k)
  cases e
  obtain ⟨_, us, e, q', r'⟩ := rep_tup.mp (z'.mono k)
  cases e
  refine ⟨fun d hd => ?_, fun hl => ⟨vs, us, q, q', by rw [r.length, r'.length]; rw [zipD_len] at hl; omega⟩⟩
  obtain ⟨dx, dy, h1, h2, ed⟩ := zipD_at hd
  obtain ⟨v, hv, zv⟩ := atL r h1
  obtain ⟨u, hu, zu⟩ := atL r' h2
  refine ⟨⟨vs, us, v, u, q, q', hv, hu⟩, fun w H' ⟨T, v', u', ew, hT, eH, g1, g2⟩ => ?_⟩
  have e1 := g1 vs q
  have e2 := g2 us q'
  rw [hv] at e1; rw [hu] at e2
  cases e1; cases e2
  subst ew eH ed
  exact rep_pair rl hT zv zu
def enumD (xs : List DV) : List DV := xs.mapIdx fun i x => .tup [.int ((i : Nat) : Int), x]
theorem enumD_at (xs : List DV) (i : Nat) : (enumD xs)[i]? = (xs[i]?).map fun x => .tup [.int ((i : Nat) : Int), x] := by unfold enumD; rw [List.getElem?_mapIdx]
theorem enumD_len (xs : List DV) : (enumD xs).length = xs.length := by unfold enumD; rw [List.length_mapIdx]
theorem jok_enum {H1 : Hp} {x : DV} {a : Addr} {xs : List DV} (z : Rep K H1 x (.ref a)) (n : ∀ us, x ≠ .tup us) :
    JOk K H1 (Ite K a) (enumD xs) (fun G => seqD G x = some xs) := fun i G H k rl l1 => by
  obtain ⟨_, vs, e, r, ⟨_, q⟩ | ⟨q, _⟩⟩ := seqD_rep rl l1 (z.mono k)
  · exact absurd q (n _)
  cases e
  refine ⟨fun d hd => ?_, fun hl => ⟨vs, q, by rw [r.length]; rw [enumD_len] at hl; omega⟩⟩
  rw [enumD_at] at hd
  cases hx : xs[i]? with
  | none => rw [hx] at hd; cases hd
  | some dx =>
    rw [hx] at hd
    cases hd
    obtain ⟨v, hv, zv⟩ := atL r hx
    refine ⟨⟨vs, v, q, hv⟩, fun w H' ⟨T, v', ew, hT, eH, g1⟩ => ?_⟩
    have e1 := g1 vs q
    rw [hv] at e1
    cases e1
    subst ew eH
    exact rep_pair rl hT (rep_int.mpr rfl) zv
/-! the judgements -/
def iSeq (K : PySem.W.Frag) (te : TE) : TI := fun σ H R => te σ H fun v H1 => (∃ x, v = .str x ∧ R (Its x) H1) ∨ ∃ a, v = .ref a ∧ (((∃ xs, SqL K H1 a xs) ∧ R (Itl K a) H1) ∨ ((∃ xs, SqT K H1 a xs) ∧ R (Itt K a) H1))
theorem pi_seq {tg e : Expr} {te : TE} (he : PE X e te) : PI X tg e (iSeq X.K te) := by
  refine ⟨fun pins s σ H R I h => ?_⟩
  refine thn (he.run pins s σ H _ I h) fun v s1 ⟨x, H1, I1, r1, q1⟩ => ?_
  rcases q1 with ⟨x, e, q⟩ | ⟨a, e, ⟨⟨xs, hq⟩, q⟩ | ⟨⟨xs, hq⟩, q⟩⟩
  · subst e
    obtain ⟨t, rfl⟩ := r1
    cases ha : x.cps.all (· < 128)
    · exact wpAny_pyIter_wide ha (pi_one (tk := s1.toks) I1 _ (turn_str _ x t "str_iterator" (.inr rfl)) ⟨_, Heap.get?_push_size _ rfl, rfl, rfl⟩ q)
    · exact wpAny_pyIter_ascii ha (pi_one (tk := s1.toks) I1 _ (turn_str _ x t "str_ascii_iterator" (.inl rfl)) ⟨_, Heap.get?_push_size _ rfl, rfl, rfl⟩ q)
  · subst e
    cases r1
    obtain ⟨its, rv, p, hz⟩ := I1.list hq
    exact wpAny_pyIter_list p.isList (pi_one (tk := s1.toks) I1 _ (turn_list a _) ⟨_, Heap.get?_push_size _ rfl, rfl, rfl⟩ q)
  · subst e
    cases r1
    obtain ⟨its, rv, p, hz⟩ := I1.tuple hq
    exact wpAny_pyIter_tuple (show s1.heap.IsTuple a its.toArray from p) (pi_one (tk := s1.toks) I1 _ (turn_tuple a _) ⟨_, Heap.get?_push_size _ rfl, rfl, rfl⟩ q)
def dSeqI (te : DTE) : DTI := fun τ G P => te τ G fun x G1 => ∃ xs, itOf G1 x = some xs ∧ P xs (fun G' => itOf G' x = some xs) G1
theorem di_seq {tg e : Expr} {te : DTE} (he : DE X ξ e te) : DI X ξ tg e (dSeqI te) := pi_weak (pi_seq he) fun σ H R ⟨τ, G, P, rs, rl, p, k⟩ => ⟨τ, G, _, rs, rl, p, fun d G1 v H1 z r1 f1 ⟨xs, hx, p1⟩ => by
  cases d with
  | str s =>
    cases hx
    exact .inl ⟨s, rep_str.mp z, k _ _ G1 H1 _ r1 f1 jok_str p1⟩
  | tup ys =>
    cases hx
    obtain ⟨a, vs, e, q, r⟩ := rep_tup.mp z
    subst e
    exact .inr ⟨a, rfl, .inr ⟨⟨vs, q⟩, k _ _ G1 H1 _ r1 f1 (jok_tup (G1 := G1) z) p1⟩⟩
  | lk ys =>
    obtain ⟨a, vs, e, r, ⟨_, q⟩ | ⟨q, n⟩⟩ := seqD_rep r1.1 (x := .lk ys) hx z
    · cases q
    subst e
    exact .inr ⟨a, rfl, .inl ⟨⟨vs, q⟩, k _ _ G1 H1 _ r1 f1 (jok_list (G1 := G1) z n) p1⟩⟩
  | ref b =>
    obtain ⟨a, vs, e, r, ⟨_, q⟩ | ⟨q, n⟩⟩ := seqD_rep r1.1 (x := .ref b) hx z
    · cases q
    subst e
    exact .inr ⟨a, rfl, .inl ⟨⟨vs, q⟩, k _ _ G1 H1 _ r1 f1 (jok_list (G1 := G1) z n) p1⟩⟩
  | _ => cases hx⟩
def dRng1 (t : DTA) : DTI := fun τ G P => t τ G fun ds G1 => ∃ j : Int, ds = [.int j] ∧ -(2 ^ 62) ≤ j ∧ j < 2 ^ 62 ∧ P (rngD 0 j.toNat) (fun _ => True) G1
def dRng2 (t : DTA) : DTI := fun τ G P => t τ G fun ds G1 => ∃ i j : Int, ds = [.int i, .int j] ∧ (-(2 ^ 62) ≤ i ∧ i < 2 ^ 62 ∧ -(2 ^ 62) ≤ j ∧ j < 2 ^ 62) ∧ P (rngD i (j - i).toNat) (fun _ => True) G1
theorem lift_rng1 (t : DTA) : ∀ σ H R, liftI K ξ (dRng1 t) σ H R → iRng1 (liftA K ξ t) σ H R := fun σ H R ⟨τ, G, P, rs, rl, p, k⟩ => ⟨τ, G, _, rs, rl, p, fun ds G1 vs H1 z r1 f1 ⟨j, e, h1, h2, p1⟩ => by
  subst e
  obtain ⟨v, rfl, zv⟩ := repL_one.mp z
  exact ⟨j, by rw [rep_int.mp zv], h1, h2, k _ _ G1 H1 _ r1 f1 jok_rng p1⟩⟩
theorem lift_rng2 (t : DTA) : ∀ σ H R, liftI K ξ (dRng2 t) σ H R → iRng2 (liftA K ξ t) σ H R := fun σ H R ⟨τ, G, P, rs, rl, p, k⟩ => ⟨τ, G, _, rs, rl, p, fun ds G1 vs H1 z r1 f1 ⟨i, j, e, h1, p1⟩ => by
  subst e
  obtain ⟨v, u, rfl, zv, zu⟩ := repL_two.mp z
  exact ⟨i, j, by rw [rep_int.mp zv, rep_int.mp zu], h1, k _ _ G1 H1 _ r1 f1 jok_rng p1⟩⟩
def dZip (t : DTA) : DTI := fun τ G P => t τ G fun ds G1 => ∃ x y, ds = [x, y] ∧ ((∃ xs ys, x = .tup xs ∧ y = .tup ys ∧ P (zipD xs ys) (fun _ => True) G1) ∨
  ∃ xs ys, (∀ us, x ≠ .tup us) ∧ (∀ us, y ≠ .tup us) ∧ seqD G1 x = some xs ∧ seqD G1 y = some ys ∧ P (zipD xs ys) (fun G' => seqD G' x = some xs ∧ seqD G' y = some ys) G1)
theorem lift_zip (t : DTA) : ∀ σ H R, liftI K ξ (dZip t) σ H R → RZ.iZipA K (liftA K ξ t) σ H R := fun σ H R ⟨τ, G, P, rs, rl, p, k⟩ => ⟨τ, G, _, rs, rl, p, fun ds G1 vs H1 z r1 f1 ⟨x, y, e, p1⟩ => by
  subst e
  obtain ⟨v, u, rfl, zv, zu⟩ := repL_two.mp z
  rcases p1 with ⟨xs, ys, rfl, rfl, p1⟩ | ⟨xs, ys, n1, n2, h1, h2, p1⟩
  · obtain ⟨a, vs, rfl, q1, _⟩ := rep_tup.mp zv
    obtain ⟨b, us, rfl, q2, _⟩ := rep_tup.mp zu
    exact ⟨a, b, vs, us, rfl, .inr ⟨q1, q2, k _ _ G1 H1 _ r1 f1 (jok_zipT zv zu) p1⟩⟩
  · obtain ⟨a, vs, rfl, _, ⟨_, q⟩ | ⟨q1, _⟩⟩ := seqD_rep r1.1 h1 zv
    · exact absurd q (n1 _)
    obtain ⟨b, us, rfl, _, ⟨_, q⟩ | ⟨q2, _⟩⟩ := seqD_rep r1.1 h2 zu
    · exact absurd q (n2 _)
    exact ⟨a, b, vs, us, rfl, .inl ⟨q1, q2, k _ _ G1 H1 _ r1 f1 (jok_zip zv n1 zu n2) p1⟩⟩⟩
/-- list(zip(..)) -/
def dLzip (t : DTA) : DTE := fun τ G P => t τ G fun ds G1 => ∃ x y xs ys, ds = [x, y] ∧ ((x = .tup xs ∧ y = .tup ys) ∨ ((∀ us, x ≠ .tup us) ∧ (∀ us, y ≠ .tup us) ∧ seqD G1 x = some xs ∧ seqD G1 y = some ys)) ∧
  ∀ p, G1 p = none → P (.ref p) (updD G1 p (.lst (zipD xs ys)))
theorem paired_pair {H : Hp} : ∀ {ts : List Addr} {xs ys : List DV} {vs us : List V}, RepL K H xs vs → RepL K H ys us → Paired (fun (t : Addr) (q : V × V) => H t = some (.tup [q.1, q.2])) ts (vs.zip us) → RepL K H (zipD xs ys) (ts.map V.ref)
  | ts, [], ys, vs, us, h1, h2, h => by
    rw [repL_nil.mp h1] at h
    cases h
    exact repL_nil.mpr rfl
  | ts, x :: xs, [], vs, us, h1, h2, h => by
    rw [repL_nil.mp h2, List.zip_nil_right] at h
    cases h
    exact repL_nil.mpr rfl
  | ts, x :: xs, y :: ys, vs, us, h1, h2, h => by
    obtain ⟨v, vs', rfl, a1, a2⟩ := repL_cons.mp h1
    obtain ⟨u, us', rfl, b1, b2⟩ := repL_cons.mp h2
    rw [List.zip_cons_cons] at h
    cases h with
    | cons e r =>
      exact repL_cons.mpr ⟨_, _, rfl, rep_tup.mpr ⟨_, _, rfl, SqT.of e, repL_two.mpr ⟨_, _, rfl, a1, b1⟩⟩, paired_pair a2 b2 r⟩
theorem lift_lzip (t : DTA) : ∀ σ H Q, liftE K ξ (dLzip t) σ H Q → LzI.tListZip K (liftA K ξ t) σ H Q := fun σ H Q ⟨τ, G, P, rs, rl, p, k⟩ => ⟨τ, G, _, rs, rl, p, fun ds G1 vs H1 z r1 f1 ⟨x, y, xs, ys, e, hx, p1⟩ => by
  subst e
  obtain ⟨v, u, rfl, zv, zu⟩ := repL_two.mp z
  have fin : ∀ {a b : Addr} {vs us : List V}, RepL K H1 xs vs → RepL K H1 ys us → ∀ (H' : Hp) (p : Addr) (ts : List Addr), (∀ c o, H1 c = some o → H' c = some o) → H1 p = none → (∀ t ∈ ts, H1 t = none) → p ∉ ts → H' p = some (.lst (ts.map V.ref)) → Paired (fun (t : Addr) (q : V × V) => H' t = some (.tup [q.1, q.2])) ts (vs.zip us) → Q (.ref p) H' := by
    intro a b vs us c1 c2 H' p ts kp np nt hp e5 e6
    have kk : Keeps H1 H' := ⟨fun a xs h => kp a _ h, fun a o u h => kp a _ h, fun a u h => kp a _ h⟩
    have f2 : Frame G1 H1 (updD G1 p (.lst (zipD xs ys))) H' := fun a o q g _ => ⟨kp a o q, by rw [updD_ne (ne_of_none q np)]; exact g⟩
    refine (fun (r2 : Rel K (updD G1 p (.lst (zipD xs ys))) H') => ?_) ⟨fun a ob g => ?_, r1.1.tab.ext kp⟩
    · exact k _ _ _ _ (rep_ref.mpr rfl) (r1.to r2 f2) (f1.trans f2) (p1 p (r1.1.fresh np))
    · by_cases e : a = p
      · rw [e, updD_same] at g; cases g; rw [e]
        exact ⟨_, e5, paired_pair (c1.mono kk) (c2.mono kk) e6⟩
      · rw [updD_ne e] at g
        refine (r1.1.rep a ob g).mono kk ?_
        rcases r1.1.un g with ⟨_, q⟩ | ⟨_, q⟩ | ⟨_, _, _, q⟩ <;> rw [q, kp a _ q]
  rcases hx with ⟨rfl, rfl⟩ | ⟨n1, n2, h1, h2⟩
  · obtain ⟨a, vs, rfl, q1, c1⟩ := rep_tup.mp zv
    obtain ⟨b, us, rfl, q2, c2⟩ := rep_tup.mp zu
    exact ⟨a, b, vs, us, rfl, .inr ⟨q1, q2⟩, fin (a := a) (b := b) c1 c2⟩
  · obtain ⟨a, vs, rfl, c1, ⟨_, q⟩ | ⟨q1, _⟩⟩ := seqD_rep r1.1 h1 zv
    · exact absurd q (n1 _)
    obtain ⟨b, us, rfl, c2, ⟨_, q⟩ | ⟨q2, _⟩⟩ := seqD_rep r1.1 h2 zu
    · exact absurd q (n2 _)
    exact ⟨a, b, vs, us, rfl, .inl ⟨q1, q2⟩, fin (a := a) (b := b) c1 c2⟩⟩
theorem jok_enumT {H1 : Hp} {a : Addr} {xs : List DV} {live : DH → Prop} (z : Rep K H1 (.tup xs) (.ref a)) : JOk K H1 (Itet K a) (enumD xs) live := fun i G H k rl l1 => by
  obtain ⟨_, vs, e, q, r⟩ := rep_tup.mp (z.mono k)
  cases e
  refine ⟨fun d hd => ?_, fun hl => ⟨vs, q, by rw [r.length]; rw [enumD_len] at hl; omega⟩⟩
  rw [enumD_at] at hd
  cases hx : xs[i]? with
  | none => rw [hx] at hd; cases hd
  | some dx =>
    rw [hx] at hd
    cases hd
    obtain ⟨v, hv, zv⟩ := atL r hx
    refine ⟨⟨vs, v, q, hv⟩, fun w H' ⟨T, v', ew, hT, eH, g1⟩ => ?_⟩
    have e1 := g1 vs q
    rw [hv] at e1
    cases e1
    subst ew eH
    exact rep_pair rl hT (rep_int.mpr rfl) zv
def dEnum (t : DTA) : DTI := fun τ G P => t τ G fun ds G1 => ∃ x xs, ds = [x] ∧ seqD G1 x = some xs ∧ P (enumD xs) (fun G' => seqD G' x = some xs) G1
theorem lift_enum (t : DTA) : ∀ σ H R, liftI K ξ (dEnum t) σ H R → iEnumA K (liftA K ξ t) σ H R := fun σ H R ⟨τ, G, P, rs, rl, p, k⟩ => ⟨τ, G, _, rs, rl, p, fun ds G1 vs H1 z r1 f1 ⟨x, xs, e, h1, p1⟩ => by
  subst e
  obtain ⟨v, rfl, zv⟩ := repL_one.mp z
  obtain ⟨a, vs, rfl, _, ⟨q1, ex⟩ | ⟨q1, n1⟩⟩ := seqD_rep r1.1 h1 zv
  · subst ex
    exact ⟨a, rfl, .inr ⟨⟨vs, q1⟩, k _ _ G1 H1 _ r1 f1 (jok_enumT zv) p1⟩⟩
  · exact ⟨a, rfl, .inl ⟨⟨vs, q1⟩, k _ _ G1 H1 _ r1 f1 (jok_enum zv n1) p1⟩⟩⟩
/-! ### list, dict comprehensions -/
def wipeD (τ : DSt) : List Nat → DSt
  | [] => τ
  | v :: vs => (wipeD τ vs).set v none
theorem wipe_rep {H : Hp} {τ : DSt} {σ : L2.St} (rs : RelS K H τ σ) : ∀ vs, RelS K H (wipeD τ vs) (wipe σ vs)
  | [] => rs
  | v :: vs => (wipe_rep rs vs).unset v
theorem wipe_at (σ : L2.St) : ∀ (vs : List Nat) (i : Nat), (wipe σ vs)[i]? = if i ∈ vs then (σ[i]?).map (fun _ => none) else σ[i]?
  | [], i => by simp [wipe]
  | v :: vs, i => by
    unfold wipe
    have ih := wipe_at σ vs i
    by_cases e : v = i
    · subst e
      rw [if_pos List.mem_cons_self]
      by_cases hl : v < (wipe σ vs).length
      · rw [List.getElem?_set_self hl]
        rw [wipe_length] at hl
        rw [List.getElem?_eq_getElem hl]; rfl
      · rw [List.getElem?_eq_none (by simpa using hl)]
        rw [wipe_length] at hl
        rw [List.getElem?_eq_none (by omega)]; rfl
    · rw [List.getElem?_set_ne e, ih]
      simp only [List.mem_cons]
      by_cases hm : i ∈ vs
      · rw [if_pos hm, if_pos (.inr hm)]
      · rw [if_neg hm, if_neg (fun q => q.elim (fun z => e z.symm) hm)]
theorem wipe_diff {σ σ2 : L2.St} {us vs : List Nat} (d : Diff us (wipe σ vs) σ2) (h : ∀ i ∈ us, i ∈ vs) : wipe σ2 vs = wipe σ vs := by
  apply List.ext_getElem?
  intro i
  rw [wipe_at, wipe_at]
  by_cases hm : i ∈ vs
  · rw [if_pos hm, if_pos hm]
    have hl : σ2.length = σ.length := by rw [d.len, wipe_length]
    by_cases hi : i < σ.length
    · rw [List.getElem?_eq_getElem hi, List.getElem?_eq_getElem (l := σ2) (by omega)]; rfl
    · rw [List.getElem?_eq_none (l := σ) (by omega), List.getElem?_eq_none (l := σ2) (by omega)]
  · rw [if_neg hm, if_neg hm, d.out i (fun q => hm (h i q)), wipe_at, if_neg hm]
/-- nothing is let out -/
def xi0 : XP := ⟨fun _ _ _ => False, fun _ _ _ => False⟩
theorem relX0 {G : DH} {H : Hp} (r : Rel K G H) : RelX K xi0 G H := ⟨r, ⟨fun _ _ _ _ _ _ _ _ _ _ z => z.elim, fun _ _ _ _ _ z => z.elim⟩⟩
def dYes : DTT := fun _ G P => P true G
def dLc (wi : DTI) (tg : Tg) (tt : DTT) (te : DTE) (vs : List Nat) : DTE := fun τ G P => wi τ G fun xs live G1 => ∀ D, G1 D = none → ∃ Pv : Nat → List DV → DH → Prop, Pv 0 [] (updD G1 D (.lst [])) ∧ ∀ i acc G, i ≤ xs.length → Pv i acc G → G D = some (.lst acc) ∧ live G ∧
  match xs[i]? with
  | some x => ∃ τ2, asgD tg x (wipeD τ vs) = some τ2 ∧ tt τ2 G fun b G3 => if b = true then te τ2 G3 fun y G4 => G4 D = some (.lst acc) ∧ acc.length < sizeLine ∧ Pv (i + 1) (acc ++ [y]) (updD G4 D (.lst (acc ++ [y]))) else Pv (i + 1) acc G3
  | none => P (.ref D) G
theorem lift_lc (wi : DTI) (tg : Tg) (tt : DTT) (te : DTE) (vs : List Nat) (hv : ∀ i ∈ tg.vars, i ∈ vs) : ∀ σ H Q, liftE K ξ (dLc wi tg tt te vs) σ H Q → tLc (liftI K ξ wi) (gTg K tg) (liftT K xi0 tt) (liftE K xi0 te) vs σ H Q :=
  fun σ H Q ⟨τ, G, P, rs, rl, p, k⟩ => ⟨τ, G, _, rs, rl, p, fun xs live G1 H1 J r1 f1 jo p1 D hD => by
    obtain ⟨Pv, h0, hs⟩ := p1 D (r1.1.fresh hD)
    have ⟨r1', f1'⟩ := r1.1.new (p := D) (u := .lst []) (o := .lst []) hD ⟨[], upd_same, repL_nil.mpr rfl⟩
    refine ⟨fun i m H' => m = xs.length - i ∧ i ≤ xs.length ∧ ∃ acc G', Rel K G' H' ∧ Frame G1 H1 G' H' ∧ Pv i acc G', ⟨_, rfl, Nat.zero_le _, [], _, r1', f1', h0⟩, ?_⟩
    rintro i m H2 ⟨rfl, hi, acc, G', rl', f', pv⟩
    obtain ⟨hD', lv, hb⟩ := hs i acc G' hi pv
    obtain ⟨jg, jst⟩ := jo i G' H2 (f'.keeps r1.1) rl' lv
    by_cases hlt : i < xs.length
    · have hx : xs[i]? = some xs[i] := List.getElem?_eq_getElem hlt
      rw [hx] at hb
      obtain ⟨τ2, ha, hb⟩ := hb
      obtain ⟨g1, g2⟩ := jg _ hx
      refine .inr ⟨g1, fun H' => i + 1 ≤ xs.length ∧ ∃ acc G', Rel K G' H' ∧ Frame G1 H1 G' H' ∧ Pv (i + 1) acc G', fun H' ⟨l, q⟩ => ⟨xs.length - (i + 1), by omega, rfl, l, q⟩, fun x H3 hy => ?_⟩
      obtain ⟨zx, r3, f3⟩ := g2 x H3 hy
      have kk : Keeps H H3 := ((f1.keeps rl.1).trans (f'.keeps r1.1)).trans (f3.keeps rl')
      refine asg_run tg _ x (wipeD τ vs) τ2 (wipe σ vs) _ ha zx (wipe_rep (rs.mono kk) vs) fun σ2 rs2 df => ⟨wipe_diff df hv, τ2, G', _, rs2, relX0 r3, hb, fun b G4 H4 r4 f4 p4 => ?_⟩
      cases b with
      | false =>
        dsimp only at p4 ⊢
        rw [if_neg (by decide)] at p4 ⊢
        exact ⟨hlt, acc, G4, r4.1, f'.trans (f3.trans f4), p4⟩
      | true =>
        dsimp only at p4 ⊢
        rw [if_pos rfl] at p4 ⊢
        refine ⟨τ2, G4, _, rs2.mono (f4.keeps r3), relX0 r4.1, p4, fun y G5 v H5 zy r5 f5 ⟨h5, hl, p5⟩ => ?_⟩
        obtain ⟨us, hus, ru⟩ := r5.1 _ _ h5
        have kw := r5.1.keepsW (u := .lst (us ++ [v])) h5
        have ⟨r6, f6⟩ := r5.1.write (u := .lst (us ++ [v])) (o' := .lst (acc ++ [y])) h5 ⟨_, upd_same, (ru.mono kw).append (repL_one.mpr ⟨v, rfl, zy.mono kw⟩)⟩
        exact ⟨us, hus, by rw [ru.length]; exact hl, hlt, _, _, r6, f'.trans (f3.trans (f4.trans (f5.trans f6))), p5⟩
    · have hx : xs[i]? = none := List.getElem?_eq_none (by omega)
      rw [hx] at hb
      exact .inl ⟨jst (by omega), k _ _ _ _ (rep_ref.mpr rfl) (r1.to rl' f') (f1.trans f') hb⟩⟩
def dDc (wi : DTI) (tg : Tg) (tt : DTT) (tk tv : DTE) (vs : List Nat) : DTE := fun τ G P => wi τ G fun xs live G1 => ∀ D, G1 D = none → ∃ Pv : Nat → List (Key × DV) → DH → Prop, Pv 0 [] (updD G1 D (.dK [])) ∧ ∀ i acc G, i ≤ xs.length → Pv i acc G → G D = some (.dK acc) ∧ live G ∧
  match xs[i]? with
  | some x => ∃ τ2, asgD tg x (wipeD τ vs) = some τ2 ∧ tt τ2 G fun b G3 => if b = true then tk τ2 G3 fun y G4 => tv τ2 G4 fun z G5 => ∃ k, keyD y = some k ∧ G5 D = some (.dK acc) ∧ acc.length < sizeLine ∧ Pv (i + 1) (putD acc k z) (updD G5 D (.dK (putD acc k z))) else Pv (i + 1) acc G3
  | none => P (.ref D) G
theorem lift_dc (wi : DTI) (tg : Tg) (tt : DTT) (tk tv : DTE) (vs : List Nat) (hv : ∀ i ∈ tg.vars, i ∈ vs) : ∀ σ H Q, liftE K ξ (dDc wi tg tt tk tv vs) σ H Q → tDc (liftI K ξ wi) (gTg K tg) (liftT K xi0 tt) (liftE K xi0 tk) (liftE K xi0 tv) vs σ H Q :=
  fun σ H Q ⟨τ, G, P, rs, rl, p, k⟩ => ⟨τ, G, _, rs, rl, p, fun xs live G1 H1 J r1 f1 jo p1 D hD => by
    obtain ⟨Pv, h0, hs⟩ := p1 D (r1.1.fresh hD)
    have ⟨r1', f1'⟩ := r1.1.new (p := D) (u := .dK []) (o := .dK []) hD ⟨[], upd_same, .nil⟩
    refine ⟨fun i m H' => m = xs.length - i ∧ i ≤ xs.length ∧ ∃ acc G', Rel K G' H' ∧ Frame G1 H1 G' H' ∧ Pv i acc G', ⟨_, rfl, Nat.zero_le _, [], _, r1', f1', h0⟩, ?_⟩
    rintro i m H2 ⟨rfl, hi, acc, G', rl', f', pv⟩
    obtain ⟨hD', lv, hb⟩ := hs i acc G' hi pv
    obtain ⟨jg, jst⟩ := jo i G' H2 (f'.keeps r1.1) rl' lv
    by_cases hlt : i < xs.length
    · have hx : xs[i]? = some xs[i] := List.getElem?_eq_getElem hlt
      rw [hx] at hb
      obtain ⟨τ2, ha, hb⟩ := hb
      obtain ⟨g1, g2⟩ := jg _ hx
      refine .inr ⟨g1, fun H' => i + 1 ≤ xs.length ∧ ∃ acc G', Rel K G' H' ∧ Frame G1 H1 G' H' ∧ Pv (i + 1) acc G', fun H' ⟨l, q⟩ => ⟨xs.length - (i + 1), by omega, rfl, l, q⟩, fun x H3 hy => ?_⟩
      obtain ⟨zx, r3, f3⟩ := g2 x H3 hy
      have kk : Keeps H H3 := ((f1.keeps rl.1).trans (f'.keeps r1.1)).trans (f3.keeps rl')
      refine asg_run tg _ x (wipeD τ vs) τ2 (wipe σ vs) _ ha zx (wipe_rep (rs.mono kk) vs) fun σ2 rs2 df => ⟨wipe_diff df hv, τ2, G', _, rs2, relX0 r3, hb, fun b G4 H4 r4 f4 p4 => ?_⟩
      cases b with
      | false =>
        dsimp only at p4 ⊢
        rw [if_neg (by decide)] at p4 ⊢
        exact ⟨hlt, acc, G4, r4.1, f'.trans (f3.trans f4), p4⟩
      | true =>
        dsimp only at p4 ⊢
        rw [if_pos rfl] at p4 ⊢
        refine ⟨τ2, G4, _, rs2.mono (f4.keeps r3), relX0 r4.1, p4, fun y G5 v H5 zy r5 f5 p5 => ⟨τ2, G5, _, (rs2.mono (f4.keeps r3)).mono (f5.keeps r4.1), relX0 r5.1, p5, fun z G6 u H6 zz r6 f6 ⟨kk, hk, h6, hl, p6⟩ => ?_⟩⟩
        obtain ⟨us, hus, ru⟩ := r6.1 _ _ h6
        have kw := r6.1.keepsW (u := .dK (putK us kk u)) h6
        have ⟨r7, f7⟩ := r6.1.write (u := .dK (putK us kk u)) (o' := .dK (putD acc kk z)) h6 ⟨_, upd_same, (putD_rep kk zz ru).mono kw⟩
        have hl2 : us.length = acc.length := (Paired.length ru).symm
        exact ⟨us, kk, keyD_rep hk zy, hus, by rw [hl2]; exact hl, hlt, _, _, r7, f'.trans (f3.trans (f4.trans (f5.trans (f6.trans f7)))), p6⟩
    · have hx : xs[i]? = none := List.getElem?_eq_none (by omega)
      rw [hx] at hb
      exact .inl ⟨jst (by omega), k _ _ _ _ (rep_ref.mpr rfl) (r1.to rl' f') (f1.trans f') hb⟩⟩
end
end DL
end
section
set_option Elab.async false
set_option linter.all false
set_option maxRecDepth 100000
set_option autoImplicit false
namespace DL
open PySem PySem.Spec PyProof.Rows L2
/-! ### shapes of the text -/
def notStar : Expr → Bool
  | .Starred _ _ => false
  | _ => true
theorem star_cons {e : Expr} {es : List Expr} {env : Env} (h : notStar e = true) : starEach (e :: es) env = (false, eval e env) :: starEach es env := by
  cases e <;> first | rfl | cases h
theorem star_all {pos : Pos} {env : Env} : ∀ {es : List Expr}, es.all notStar = true → (backTo pos (starEach es env)).any (·.1) = false
  | [], _ => rfl
  | e :: es, h => by
    rw [List.all_cons, Bool.and_eq_true] at h
    rw [star_cons h.1]
    show (false || (backTo pos (starEach es env)).any (·.1)) = false
    rw [star_all h.2]; rfl
theorem star_none {pos : Pos} {env : Env} : ∀ {es : List Expr}, es.all notStar = true → (backTo pos (starEach es env)).all (fun x => !x.1) = true
  | [], _ => rfl
  | e :: es, h => by
    rw [List.all_cons, Bool.and_eq_true] at h
    rw [star_cons h.1]
    show (true && (backTo pos (starEach es env)).all (fun x => !x.1)) = true
    rw [star_none h.2]; rfl
def notSuper : Expr → Bool
  | .Call _ _ _ _ => false
  | _ => true
theorem base_of {o : Expr} {m : Str} {env : Env} {whole : Sem Value} (h : notSuper o = true) : attributeBase o m env whole = whole := by
  cases o <;> first | rfl | cases h
def plainT : Expr → Bool
  | .UnaryOp .Not _ _ | .BoolOp _ _ _ | .IfExp _ _ _ _ | .Compare _ _ _ _ => false
  | _ => true
theorem true_of {e : Expr} {env : Env} {whole : Sem Value} (h : plainT e = true) : isTrue e env whole = (do let v ← whole; standAt e.pos; holding [v] (truthy v)) := by
  cases e with
  | UnaryOp op x pos => cases op <;> first | rfl | cases h
  | BoolOp op x pos => cases h
  | IfExp a b c pos => cases h
  | Compare a b c pos => cases h
  | _ => rfl
def notSlice : Expr → Bool
  | .Slice _ _ _ _ => false
  | _ => true
theorem ix_of {b : Expr} (h : notSlice b = true) : PlainIx b := fun o i => by
  cases b <;> first | rfl | cases h
def notComp : Expr → Bool
  | .ListComp _ _ _ _ | .SetComp _ _ _ _ | .DictComp _ _ _ _ _ => false
  | _ => true
theorem sw_of {e : Expr} {t : Option Expr} {l : Nat} {env : Env} (h : notComp e = true) : swapsWith e t l env = pure false := by
  cases e <;> first | rfl | cases h
def notSetD : Expr → Bool
  | .Set _ _ _ => false
  | _ => true
theorem fold_of {e : Expr} {env : Env} {x : Value} (h : notSetD e = true) : foldedSetIterable e env x = pure x := by
  cases e <;> first | rfl | cases h
theorem behind_of {op : CmpOp} {e : Expr} (h : notSetD e = true) : behindInMarks op e = false := by
  cases e <;> first | rfl | cases h
theorem last_of {o1 o2 : CmpOp} {b c : Expr} (h : notSetD c = true) : lastMarks [o1, o2] [b, c] = false := behind_of h
/-- the stores stay in their order: not two, three plain local names against as many values -/
def noSwap (sc : Scope) : Expr → Expr → Bool
  | .Tuple ts _ _, .Tuple vs _ _ => (!(ts.length == 2 || ts.length == 3) || vs.length != ts.length) || (!(vs.any fun | .Starred .. => true | _ => false) && ts.any fun | .Name id _ => sc.names.lookup id != some .local | _ => true)
  | .List _ _, _ => false
  | _, _ => true
theorem filterMap_lt {α β : Type} (f : α → Option β) : ∀ (l : List α), (l.filterMap f).length ≤ l.length ∧ ((∃ x ∈ l, f x = none) → (l.filterMap f).length < l.length)
  | [] => ⟨Nat.le_refl _, fun ⟨x, h, _⟩ => by cases h⟩
  | x :: l => by
    obtain ⟨h1, h2⟩ := filterMap_lt f l
    cases e : f x with
    | none =>
      rw [List.filterMap_cons_none e]
      exact ⟨by simp only [List.length_cons]; omega, fun _ => by simp only [List.length_cons]; omega⟩
    | some y =>
      rw [List.filterMap_cons_some e]
      refine ⟨by simp only [List.length_cons]; omega, fun ⟨z, hz, q⟩ => ?_⟩
      rcases List.mem_cons.mp hz with r | r
      · rw [r, e] at q; cases q
      · have := h2 ⟨z, r, q⟩; simp only [List.length_cons]; omega
theorem swn_of {t e : Expr} {env : Env} (h : noSwap env.scope t e = true) : swappedStores [t] e env = pure none := by
  unfold swappedStores
  cases t with
  | Tuple ts k p =>
    cases e with
    | Tuple vs k2 p2 =>
      have h' : ((!(ts.length == 2 || ts.length == 3) || vs.length != ts.length) || (!(vs.any fun | .Starred .. => true | _ => false) && ts.any fun | .Name id _ => env.scope.names.lookup id != some .local | _ => true)) = true := h
      dsimp only
      cases h1 : (!(ts.length == 2 || ts.length == 3) || vs.length != ts.length) with
      | true => rw [Bool.true_or]; rfl
      | false =>
        rw [h1, Bool.false_or, Bool.and_eq_true] at h'
        obtain ⟨h2, h3⟩ := h'
        split
        · rfl
        split
        · rfl
        split
        · rfl
        · rename_i hn
          exfalso
          apply hn
          rw [Bool.or_eq_true]
          left
          rw [bne_iff_ne]
          refine Nat.ne_of_lt ((filterMap_lt _ ts).2 ?_)
          obtain ⟨x, hx, q⟩ := List.any_eq_true.mp h3
          refine ⟨x, hx, ?_⟩
          cases x with
          | Name id pos =>
            have q' : (env.kindOf id == some NameKind.local) = false := by
              have h7 : (env.kindOf id != some .local) = true := q
              unfold bne at h7
              simpa only [Bool.not_eq_true'] using h7
            dsimp only
            rw [q', Bool.false_and]
            rfl
          | _ => rfl
    | _ => rfl
  | List ts p => cases h
  | _ => cases e <;> rfl
theorem meth_eq {o : Expr} {m : Str} {apos pos : Pos} {env : Env} {es : List Expr} (h : notSuper o = true) (hs : es.all notStar = true) (hl : es.length < 30) (hp : (apos.endLine == pos.line) = true) :
    eval (.Call (.Attribute o m apos) es [] pos) env = (do
      let ov ← eval o env
      standAt apos.atName
      let (f, first) ← holding [ov] (getMethod ov m (do return (← importBound o env).getD true))
      callWith pos f first (backTo pos (starEach es env)) (backToKw pos (keywordEach [] env))) := by
  show (do
    let ov ← attributeBase o m env (eval o env)
    standAt apos.atName
    methodCall o m apos pos env ov (es.length + ([] : List Keyword).length) (backTo pos (starEach es env)) (backToKw pos (keywordEach [] env))) = _
  rw [base_of h]
  have hf : methodCallForm (es.length + ([] : List Keyword).length) (backTo pos (starEach es env)) (backToKw pos (keywordEach [] env)) = true := by
    unfold methodCallForm
    rw [star_none hs]
    simp [keywordEach, backToKw, hl]
  unfold methodCall
  rw [hf]
  unfold methodCallPos calleeOf
  simp only [hp, Bool.not_true, Bool.false_or, if_true]
  rfl
end DL
end
section
set_option Elab.async false
set_option linter.all false
set_option maxRecDepth 100000
set_option autoImplicit false
namespace DL
open PySem PySem.Spec PyProof.Rows L2
section
variable {X : Cx} {ξ : XP} {K : PySem.W.Frag}
/-! ### calls -/
/-- what a def wants: the arguments, the data's heap, what is wanted of the value, of an exception -/
abbrev DSp := List DV → DH → DK → DXK → Prop
def spD (K : PySem.W.Frag) (n : Nat) (S : DSp) : Sp := fun vs H Q E => ∃ (ds : List DV) (G : DH) (P : DK) (EX : DXK), RepL K H ds vs ∧ Rel K G H ∧ ds.length = n ∧ S ds G P EX ∧
  (∀ d G' v H', Rep K H' d v → Rel K G' H' → Frame G H G' H' → P d G' → Q v H') ∧ XR K ⟨EX, E⟩ G H
def dCall (n : Nat) (S : DSp) (EX : DXK) (t : DTA) : DTE := fun τ G P => t τ G fun ds G1 => ds.length = n ∧ S ds G1 P EX
theorem lift_call {n : Nat} {S : DSp} (t : DTA) : ∀ σ H Q, liftE K ξ (dCall n S ξ.EX t) σ H Q → tCall (spD K n S) [] ξ.Ex (liftA K ξ t) σ H Q :=
  fun σ H Q ⟨τ, G, P, rs, rl, p, k⟩ => ⟨τ, G, _, rs, rl, p, fun ds G1 vs H1 z r1 f1 ⟨hl, p1⟩ => by
    dsimp only
    rw [List.append_nil]
    exact ⟨ds, G1, P, ξ.EX, z, r1.1, hl, p1, fun d G' v H' z2 r2 f2 p2 => k d G' v H' z2 (r1.to r2 f2) (f1.trans f2) p2, r1.2⟩⟩
theorem lift_callK {n : Nat} {S : DSp} (t : DTA) (g : {α : Type} → List α → List α) (hg : ∀ {H : Hp} {ds : List DV} {vs : List V}, RepL K H ds vs → RepL K H (g ds) (g vs)) : ∀ σ H Q, liftE K ξ (fun τ G P => t τ G fun ds G1 => (g ds).length = n ∧ S (g ds) G1 P ξ.EX) σ H Q → (fun σ H Q => liftA K ξ t σ H fun zs H2 => spD K n S (g zs) H2 Q ξ.Ex : TE) σ H Q :=
  fun σ H Q ⟨τ, G, P, rs, rl, p, k⟩ => ⟨τ, G, _, rs, rl, p, fun ds G1 vs H1 z r1 f1 ⟨hl, p1⟩ =>
    ⟨g ds, G1, P, ξ.EX, hg z, r1.1, hl, p1, fun d G' v H' z2 r2 f2 p2 => k d G' v H' z2 (r1.to r2 f2) (f1.trans f2) p2, r1.2⟩⟩
def dOwn (c m : String) (n : Nat) (S : DSp) (EX : DXK) (to : DTE) (t : DTA) : DTE := fun τ G P => to τ G fun x G1 => ∃ a fs, x = .ref a ∧ G1 a = some (.ins c fs) ∧ fs.lookup m = none ∧ t τ G1 fun ds G2 => (x :: ds).length = n ∧ S (x :: ds) G2 P EX
theorem lift_own {c m : String} {n : Nat} {S : DSp} (to : DTE) (t : DTA) : ∀ σ H Q, liftE K ξ (dOwn c m n S ξ.EX to t) σ H Q → tMeth (He.ga K c) (Str.ofString m) (spD K n S) [] ξ.Ex (liftE K ξ to) (liftA K ξ t) σ H Q :=
  fun σ H Q ⟨τ, G, P, rs, rl, p, k⟩ => ⟨τ, G, _, rs, rl, p, fun x G1 v H1 z r1 f1 ⟨a, fs, e, g, l, p1⟩ => by
    subst e
    obtain ⟨dx, gs, hh, rf⟩ := r1.1 _ _ g
    refine ⟨a, dx, gs, rep_ref.mp z, hh, ?_, τ, G1, _, rs.mono (f1.keeps rl.1), r1, p1, fun ds G2 vs H2 zs r2 f2 ⟨hl, p2⟩ => ?_⟩
    · rcases lookF_rep m rf with ⟨_, q⟩ | ⟨d', w, q1, _, _⟩
      · exact q
      · rw [l] at q1; cases q1
    · dsimp only
      rw [List.append_nil]
      exact ⟨_, G2, P, ξ.EX, repL_cons.mpr ⟨v, vs, rfl, z.mono (f2.keeps r1.1), zs⟩, r2.1, hl, p2, fun d G' v H' z2 r3 f3 p3 => k d G' v H' z2 (r2.to r3 f3) (f1.trans (f2.trans f3)) p3, r2.2⟩⟩
def dMk (c : String) (n : Nat) (S : DSp) (EX : DXK) (t : DTA) : DTE := fun τ G P => t τ G fun ds G1 => ∀ a, G1 a = none → (.ref a :: ds : List DV).length = n ∧ S (.ref a :: ds) (updD G1 a (.ins c [])) (fun v G2 => v = .non ∧ P (.ref a) G2) EX
theorem lift_mk {c : String} {n : Nat} {S : DSp} (t : DTA) : ∀ σ H Q, liftE K ξ (dMk c n S ξ.EX t) σ H Q → tMake (He.ga K c) (spD K n S) [] ξ.Ex (liftA K ξ t) σ H Q :=
  fun σ H Q ⟨τ, G, P, rs, rl, p, k⟩ => ⟨τ, G, _, rs, rl, p, fun ds G1 vs H1 z r1 f1 p1 x dx hx hd hne => by
    rw [List.append_nil]
    obtain ⟨hl, p1⟩ := p1 x (r1.1.fresh hx)
    have ⟨r2, f2⟩ := r1.1.aside (u := .own x) hd
    have hx2 : upd H1 dx (.own x) x = none := by rw [upd_ne (fun e => hne e.symm)]; exact hx
    have ⟨r3, f3⟩ := r2.new (p := x) (u := .ins (He.ga K c) dx []) (o := .ins c []) hx2 ⟨dx, [], upd_same, .nil⟩
    have f : Frame G1 H1 _ _ := f2.trans f3
    exact ⟨_, _, _, ξ.EX, repL_cons.mpr ⟨.ref x, vs, rfl, rep_ref.mpr rfl, z.mono (f.keeps r1.1)⟩, r3, hl, p1, fun d G' v H' z2 r4 f4 ⟨e, p4⟩ => by
      subst e
      exact ⟨rep_non.mp z2, k _ G' _ H' (rep_ref.mpr rfl) ((r1.to r3 f).to r4 f4) (f1.trans (f.trans f4)) p4⟩, r1.2.mono f⟩⟩
/-! ### isinstance -/
inductive TN where
  | b (n : String) | o (c : String)
  deriving DecidableEq
def tyN (G : DH) : DV → Option TN
  | .non => some (.b "NoneType")
  | .bl _ => some (.b "bool")
  | .int _ => some (.b "int")
  | .str _ => some (.b "str")
  | .tup _ => some (.b "tuple")
  | .lk _ => some (.b "list")
  | .ref a => match G a with
    | some (.lst _) => some (.b "list")
    | some (.dK _) => some (.b "dict")
    | some (.ins c _) => some (.o c)
    | none => none
  | .xt _ => some (.b "tuple")
  | .ty _ => none
  | .fv _ => none
  | .xo _ _ _ => none
  | .xb _ => none
/-- what the written part says of an own class, for isinstance -/
structure ClsI (K : PySem.W.Frag) (c : String) : Prop where
  cl : Cls K (He.ga K c)
  ha : PySem.W.findIn K (.ref (He.ga K c)) "__class__" = some (some (.builtin "object.__class__"))
  hn : PySem.W.specialIn K (.builtin "object.__class__") "__get__" = some (some (.builtin "getset_descriptor.__get__"))
  htk : PySem.W.takesIn K (.builtin "object.__class__") = some true
  hm : PySem.W.mroIn K (He.ga K c) (.type "object") = some true
def TN.v (K : PySem.W.Frag) : TN → Value
  | .b n => .type n
  | .o c => .ref (He.ga K c)
theorem tyN_rep {G : DH} {H : Hp} {d : DV} {v : V} {t : TN} (rl : Rel K G H) (hc : ∀ c, t = .o c → ClsI K c) (h : tyN G d = some t) (z : Rep K H d v) : TyX K H v (t.v K) := by
  cases d with
  | non => cases h; rw [rep_non.mp z]; exact .base .non
  | bl b => cases h; rw [rep_bl.mp z]; exact .base (.bl b)
  | int i => cases h; rw [rep_int.mp z]; exact .base (.int i)
  | str s => cases h; rw [rep_str.mp z]; exact .base (.str s)
  | ty n => cases h
  | fv L => cases h
  | xo c f x => cases h
  | xb c => cases h
  | xt xs =>
    cases h
    obtain ⟨a, vs, rfl, ⟨o, q, _⟩, _⟩ := rep_xt.mp z
    exact .fTuple q
  | tup xs =>
    cases h
    obtain ⟨a, vs, rfl, q, _⟩ := rep_tup.mp z
    rcases q with (q | ⟨o, q⟩) | ⟨o, its, n, q, hc, _⟩
    · exact .base (.tup q)
    · exact .fTuple q
    · exact .kTuple q hc
  | lk xs =>
    cases h
    obtain ⟨a, vs, rfl, q, _⟩ := rep_lk.mp z
    rcases q with ⟨o, q⟩ | (q | ⟨o, q⟩) | ⟨o, its, n, q, hc, _⟩
    · exact .base (.frz q)
    · cases q
    · cases q
    · exact .kList q hc
  | ref a =>
    have e := rep_ref.mp z
    subst e
    unfold tyN at h
    cases g : G a with
    | none => simp only [g] at h; cases h
    | some o =>
      cases o with
      | lst xs =>
        simp only [g] at h; cases h
        obtain ⟨vs, q, _⟩ := rl _ _ g
        exact .base (.lst q)
      | dK kvs =>
        simp only [g] at h; cases h
        obtain ⟨vs, q, _⟩ := rl _ _ g
        exact .base (.dK q)
      | ins c fs =>
        simp only [g] at h; cases h
        obtain ⟨dx, gs, q, _⟩ := rl _ _ g
        obtain ⟨h1, h2, h3, h4, h5⟩ := hc c rfl
        exact .base (.ins q h1 h2 h3 h4 h5)
/-- a class that is asked for -/
def TN.d : TN → V → PySem.W.Frag → Prop
  | .b n, v, _ => v = .ty n
  | .o c, v, K => v = .ref (He.ga K c)
def bltT : List String := ["NoneType", "bool", "int", "str", "tuple", "list", "dict"]
def isaB (t c : String) : Bool := t == c || (t == "bool" && c == "int")
/-- a value of the type t is one of the class c -/
def isa (sub : List (String × String)) : TN → TN → Bool
  | .b t, .b c => isaB t c
  | .o t, .o c => t == c || sub.contains (t, c)
  | _, _ => false
theorem kit_bb : ∀ t ∈ bltT, ∀ c ∈ bltT, kitB t c = some (isaB t c) := by decide +kernel
def dIsi (T : List TN) (sub : List (String × String)) (c : TN) (ta : DTE) : DTE := fun τ G P => ta τ G fun x G1 => ∃ t, tyN G1 x = some t ∧ t ∈ T ∧ P (.bl (isa sub t c)) G1
theorem lift_isi {T : List TN} {sub : List (String × String)} {c : TN} {cv : V} (ta : DTE) (hT : ∀ t ∈ T, (∀ o, t = .o o → ClsI K o) ∧ PySem.W.kitOne K (t.v K) (c.v K) = some (isa sub t c)) (hcv : ClsV cv (c.v K)) :
    ∀ σ H Q, liftE K ξ (dIsi T sub c ta) σ H Q → liftE K ξ ta σ H fun x H1 => rIsi K [x, cv] H1 Q :=
  fun σ H Q ⟨τ, G, P, rs, rl, p, k⟩ => ⟨τ, G, _, rs, rl, p, fun x G1 v H1 z r1 f1 ⟨t, ht, hm, p1⟩ =>
    ⟨v, cv, t.v K, c.v K, _, rfl, hcv, tyN_rep r1.1 (hT t hm).1 ht z, (hT t hm).2, k _ G1 _ H1 (rep_bl.mpr rfl) r1 f1 p1⟩⟩
end
end DL
end
section
set_option Elab.async false
set_option linter.all false
set_option maxRecDepth 100000
set_option autoImplicit false
namespace DL
open PySem PySem.Spec PyProof.Rows L2
section
variable {X : Cx} {ξ : XP} {K : PySem.W.Frag}
/-! tuples whose object is known -/
def dXTup (t : DTA) : DTE := fun τ G P => t τ G fun xs G1 => xs.length ≤ sizeLine ∧ P (.xt xs) G1
theorem lift_xtup (t : DTA) : ∀ σ H Q, liftE K ξ (dXTup t) σ H Q → tXTup (liftA K ξ t) σ H Q := fun σ H Q ⟨τ, G, P, rs, rl, p, k⟩ => ⟨τ, G, _, rs, rl, p, fun xs G1 vs H1 z r1 f1 ⟨hl, p1⟩ => ⟨by rw [z.length]; exact hl, fun q o hq hd =>
  have ⟨r2, f2⟩ := r1.1.aside (u := .frz o (.tup vs)) hq
  k (.xt xs) G1 _ _ (rep_xt.mpr ⟨q, vs, rfl, ⟨o, upd_same, hd⟩, z.mono (f2.keeps r1.1)⟩) (r1.to r2 f2) (f1.trans f2) p1⟩⟩
def fgD : DV → DV
  | .xt xs => .tup xs
  | d => d
theorem fgD_rep {H : Hp} {d : DV} {v : V} (z : Rep K H d v) : Rep K H (fgD d) v := by
  cases d with
  | xt xs => exact rep_forget z
  | _ => exact z
def dFg (te : DTE) : DTE := fun τ G P => te τ G fun x G1 => P (fgD x) G1
theorem lift_fg (te : DTE) : ∀ σ H Q, liftE K ξ (dFg te) σ H Q → liftE K ξ te σ H Q := fun σ H Q ⟨τ, G, P, rs, rl, p, k⟩ => ⟨τ, G, _, rs, rl, p, fun x G1 v H1 z r1 f1 p1 => k _ G1 v H1 (fgD_rep z) r1 f1 p1⟩
/-! dicts of pairs -/
def pairD : DV → Option (Key × DV)
  | .tup [k, v] => (keyD k).map fun q => (q, v)
  | _ => none
def mergeD (kvs more : List (Key × DV)) : List (Key × DV) := more.foldl (fun acc kv => putD acc kv.1 kv.2) kvs
theorem mergeD_rep {H : Hp} : ∀ {more : List (Key × DV)} {ms : List (Key × V)} {kvs : List (Key × DV)} {ks : List (Key × V)}, RepP K H more ms → RepP K H kvs ks → RepP K H (mergeD kvs more) (mergeK ks ms)
  | _, _, _, _, .nil, r => r
  | p :: more, q :: ms, kvs, ks, .cons ⟨e, z⟩ t, r => by
    have h1 : RepP K H (putD kvs p.1 p.2) (putK ks q.1 q.2) := by
      rw [← e]
      exact putD_rep p.1 z r
    show RepP K H (mergeD (putD kvs p.1 p.2) more) (mergeK (putK ks q.1 q.2) ms)
    exact mergeD_rep t h1
theorem pairs_rep {H : Hp} : ∀ {ds : List DV} {vs : List V} {kvs : List (Key × DV)}, RepL K H ds vs → omap pairD ds = some kvs → ∃ (ps : List Addr) (ks : List (Key × V)), vs = ps.map V.ref ∧ Paired (fun p kv => SqT K H p [kV kv.1, kv.2]) ps ks ∧ RepP K H kvs ks
  | [], vs, kvs, r, h => by
    cases h
    exact ⟨[], [], repL_nil.mp r, .nil, .nil⟩
  | d :: ds, vs, kvs, r, h => by
    obtain ⟨v, w, rfl, r1, r2⟩ := repL_cons.mp r
    unfold omap at h
    split at h
    · rename_i kv kvs' e1 e2
      cases h
      obtain ⟨ps, ks, rfl, h1, h2⟩ := pairs_rep r2 e2
      unfold pairD at e1
      split at e1
      · rename_i k v'
        obtain ⟨q, hq, e⟩ := Option.map_eq_some_iff.mp e1
        subst e
        obtain ⟨a, us, rfl, s, r3⟩ := rep_tup.mp r1
        obtain ⟨x, y, rfl, z1, z2⟩ := repL_two.mp r3
        have e5 := keyD_rep hq z1
        subst e5
        exact ⟨a :: ps, (q, y) :: ks, rfl, .cons s h1, .cons ⟨rfl, z2⟩ h2⟩
      · cases e1
    · cases h
def dDict : DRC := fun xs G P => match xs with
  | [.xt ds] => ∃ kvs, omap pairD ds = some kvs ∧ ∀ p, G p = none → P (.ref p) (updD G p (.dK (mergeD [] kvs)))
  | [.ref a] => match G a with
    | some (.lst ds) => ∃ kvs, omap pairD ds = some kvs ∧ ∀ p, G p = none → P (.ref p) (updD G p (.dK (mergeD [] kvs)))
    | some (.dK kvs) => ∀ p, G p = none → P (.ref p) (updD G p (.dK kvs))
    | _ => False
  | _ => False
abbrev rDictAll (K : PySem.W.Frag) : List V → Hp → VK → Prop := fun xs H Q => (∃ (a : Addr) (o : Obj) (ps : List Addr) (kvs : List (Key × V)), xs = [.ref a] ∧ H a = some (.frz o (.tup (ps.map V.ref))) ∧ o.dict = none ∧ Paired (fun p kv => SqT K H p [kV kv.1, kv.2]) ps kvs ∧
    ∀ p, H p = none → Q (.ref p) (upd H p (.dK (mergeK [] kvs)))) ∨ ((∃ (a : Addr) (ps : List Addr) (kvs : List (Key × V)), xs = [.ref a] ∧ SqL K H a (ps.map V.ref) ∧ Paired (fun p kv => SqT K H p [kV kv.1, kv.2]) ps kvs ∧
    ∀ p, H p = none → Q (.ref p) (upd H p (.dK (mergeK [] kvs)))) ∨ ∃ (a : Addr) (kvs : List (Key × V)), xs = [.ref a] ∧ Rd H a (.dK kvs) ∧ ∀ p, H p = none → Q (.ref p) (upd H p (.dK kvs)))
theorem cr_dictAll (hc : X.calm = true) : CallR X (.type "dict") (rDictAll X.K) := (call_dictX hc).or ((call_dictP hc).or call_dictD)
theorem dc_dict : DCal K (rDictAll K) dDict := fun xs G P vs H Q zs rl p k => by
  unfold dDict at p
  split at p
  · obtain ⟨kvs, hk, p⟩ := p
    obtain ⟨v, rfl, z⟩ := repL_one.mp zs
    obtain ⟨a, us, rfl, ⟨o, ho, hd⟩, r⟩ := rep_xt.mp z
    obtain ⟨ps, ks, rfl, h1, h2⟩ := pairs_rep r hk
    refine .inl ⟨a, o, ps, ks, rfl, ho, hd, h1, fun l hl => ?_⟩
    have ⟨r2, f2⟩ := rl.new (p := l) (u := .dK (mergeK [] ks)) (o := .dK (mergeD [] kvs)) hl ⟨_, upd_same, (mergeD_rep h2 .nil).mono (keeps_new hl)⟩
    exact k _ _ _ _ (rep_ref.mpr rfl) r2 f2 (p l (rl.fresh hl))
  · rename_i a
    obtain ⟨v, rfl, z⟩ := repL_one.mp zs
    rw [rep_ref.mp z]
    split at p
    · rename_i ds g
      obtain ⟨kvs, hk, p⟩ := p
      obtain ⟨us, hv, r⟩ := rl _ _ g
      obtain ⟨ps, ks, rfl, h1, h2⟩ := pairs_rep r hk
      refine .inr (.inl ⟨a, ps, ks, rfl, SqL.of hv, h1, fun l hl => ?_⟩)
      have ⟨r2, f2⟩ := rl.new (p := l) (u := .dK (mergeK [] ks)) (o := .dK (mergeD [] kvs)) hl ⟨_, upd_same, (mergeD_rep h2 .nil).mono (keeps_new hl)⟩
      exact k _ _ _ _ (rep_ref.mpr rfl) r2 f2 (p l (rl.fresh hl))
    · rename_i kvs g
      obtain ⟨ks, hv, r⟩ := rl _ _ g
      refine .inr (.inr ⟨a, ks, rfl, .inl hv, fun l hl => ?_⟩)
      have ⟨r2, f2⟩ := rl.new (p := l) (u := .dK ks) (o := .dK kvs) hl ⟨_, upd_same, r.mono (keeps_new hl)⟩
      exact k _ _ _ _ (rep_ref.mpr rfl) r2 f2 (p l (rl.fresh hl))
    · exact p.elim
  · exact p.elim
/-! displays of dicts -/
def dNewK : DTE := fun _ G P => ∀ p, G p = none → P (.ref p) (updD G p (.dK []))
theorem lift_newK : ∀ σ H Q, liftE K ξ dNewK σ H Q → tDNewK σ H Q := fun σ H Q ⟨τ, G, P, rs, rl, p, k⟩ l hl => by
  have ⟨r2, f2⟩ := rl.1.new (p := l) (u := .dK []) (o := .dK []) hl ⟨_, upd_same, .nil⟩
  exact k _ _ _ _ (rep_ref.mpr rfl) (rl.to r2 f2) f2 (p l (rl.1.fresh hl))
abbrev DTP := DSt → DH → (List (DV × DV) → DH → Prop) → Prop
def dPairs : List (DTE × DTE) → DTP
  | [], _, G, P => P [] G
  | (tk, tv) :: r, τ, G, P => tk τ G fun x G1 => tv τ G1 fun y G2 => dPairs r τ G2 fun ps G3 => P ((x, y) :: ps) G3
def kvD : DV × DV → Option (Key × DV) := fun p => (keyD p.1).map fun k => (k, p.2)
def dDisp (ts : List (DTE × DTE)) : DTE := fun τ G P => ∀ p, G p = none → dPairs ts τ (updD G p (.dK [])) fun ps G2 => G2 p = some (.dK []) ∧ ∃ kvs, omap kvD ps = some kvs ∧ kvs.length ≤ 15 ∧ P (.ref p) (updD G2 p (.dK (mergeD [] kvs)))
theorem pairs_lift : ∀ (ts : List (DTE × DTE)) (τ : DSt) (G : DH) (P : List (DV × DV) → DH → Prop) (σ : L2.St) (H : Hp) (Q : List (V × V) → Hp → Prop), RelS K H τ σ → RelX K ξ G H → dPairs ts τ G P →
    (∀ ps G' qs H', Paired (fun (a : DV × DV) (b : V × V) => Rep K H' a.1 b.1 ∧ Rep K H' a.2 b.2) ps qs → RelX K ξ G' H' → Frame G H G' H' → P ps G' → Q qs H') → tPairs (ts.map fun t => (liftE K ξ t.1, liftE K ξ t.2)) σ H Q
  | [], τ, G, P, σ, H, Q, rs, rl, p, k => k [] G [] H .nil rl (Frame.refl _ _) p
  | (tk, tv) :: r, τ, G, P, σ, H, Q, rs, rl, p, k => ⟨τ, G, _, rs, rl, p, fun x G1 v H1 z r1 f1 p1 => ⟨τ, G1, _, rs.mono (f1.keeps rl.1), r1, p1, fun y G2 u H2 z2 r2 f2 p2 =>
      pairs_lift r τ G2 _ σ H2 _ ((rs.mono (f1.keeps rl.1)).mono (f2.keeps r1.1)) r2 p2 fun ps G3 qs H3 h r3 f3 p3 =>
        k ((x, y) :: ps) G3 ((v, u) :: qs) H3 (.cons ⟨(z.mono (f2.keeps r1.1)).mono (f3.keeps r2.1), z2.mono (f3.keeps r2.1)⟩ h) r3 (f1.trans (f2.trans f3)) p3⟩⟩
theorem kvs_rep {H : Hp} : ∀ {ps : List (DV × DV)} {qs : List (V × V)} {kvs : List (Key × DV)}, Paired (fun (a : DV × DV) (b : V × V) => Rep K H a.1 b.1 ∧ Rep K H a.2 b.2) ps qs → omap kvD ps = some kvs → ∃ ks : List (Key × V), qs = ks.map (fun kv => (kV kv.1, kv.2)) ∧ ks.length = kvs.length ∧ RepP K H kvs ks
  | [], _, kvs, .nil, h => by cases h; exact ⟨[], rfl, rfl, .nil⟩
  | p :: ps, q :: qs, kvs, .cons ⟨z1, z2⟩ t, h => by
    unfold omap at h
    split at h
    · rename_i kv kvs' e1 e2
      cases h
      obtain ⟨ks, rfl, hl, h2⟩ := kvs_rep t e2
      unfold kvD at e1
      obtain ⟨k, hk, e⟩ := Option.map_eq_some_iff.mp e1
      subst e
      have e5 := keyD_rep hk z1
      refine ⟨(k, q.2) :: ks, ?_, by simp [hl], .cons ⟨rfl, z2⟩ h2⟩
      rw [List.map_cons, ← e5]
    · cases h
theorem lift_disp (ts : List (DTE × DTE)) : ∀ σ H Q, liftE K ξ (dDisp ts) σ H Q → tDisp (ts.map fun t => (liftE K ξ t.1, liftE K ξ t.2)) σ H Q := fun σ H Q ⟨τ, G, P, rs, rl, p, k⟩ l hl => by
  have ⟨r2, f2⟩ := rl.1.new (p := l) (u := .dK []) (o := .dK []) hl ⟨_, upd_same, .nil⟩
  refine pairs_lift ts τ _ _ σ _ _ (rs.mono (f2.keeps rl.1)) (rl.to r2 f2) (p l (rl.1.fresh hl)) fun ps G3 qs H3 h r3 f3 ⟨hD, kvs, hk, h15, p3⟩ => ?_
  obtain ⟨ks, rfl, hlen, h2⟩ := kvs_rep h hk
  obtain ⟨us, hv, ru⟩ := r3.1 _ _ hD
  cases ru
  have kw := r3.1.keepsW (u := .dK (mergeK [] ks)) hD
  have ⟨r4, f4⟩ := r3.1.write (u := .dK (mergeK [] ks)) (o' := .dK (mergeD [] kvs)) hD ⟨_, upd_same, (mergeD_rep h2 .nil).mono kw⟩
  exact ⟨hv, ks, rfl, by rw [hlen]; exact h15, k _ _ _ _ (rep_ref.mpr rfl) (r3.to r4 f4) (f2.trans (f3.trans f4)) p3⟩
theorem pps_of {pos : Pos} : ∀ {ks vs : List Expr} {tks tvs : List DTE}, Paired (fun t e => DE X ξ e t) tks ks → Paired (fun t e => DE X ξ e t) tvs vs → ks.length = vs.length → PPs X pos (ks.map some) vs ((tks.zip tvs).map fun t => (liftE X.K ξ t.1, liftE X.K ξ t.2))
  | [], [], _, _, .nil, .nil, _ => pps_nil
  | k :: ks, v :: vs, _, _, .cons h1 t1, .cons h2 t2, hl => pps_cons h1 h2 (pps_of t1 t2 (by simpa using hl))
  | [], _ :: _, _, _, _, _, hl => by cases hl
  | _ :: _, [], _, _, _, _, hl => by cases hl
/-! o[i], name = (x, y) -/
def dTset (to ti : DTE) (n : Nat) (ta : DTA) : DTS := fun E τ G => ta τ G fun ds G1 => ∃ x y, ds = [x, y] ∧ to τ G1 fun o G2 => ti τ G2 fun i G3 => dSet o i x G3 fun G4 => E.nx (τ.set n (some y)) G4
theorem lift_tset (to ti : DTE) (n : Nat) (ta : DTA) : ∀ D σ H, liftS K ξ (dTset to ti n ta) D σ H → tAsg (tTup (liftA K ξ ta)) (gTup K 2 (gCons (gSub (liftE K ξ to) (liftE K ξ ti) rSetAll) (gCons (gName n) gNil))) D σ H :=
  fun D σ H ⟨τ, G, E, rs, rl, p, er⟩ => ⟨τ, G, _, rs, rl, p, fun ds G1 vs H1 z r1 f1 ⟨x, y, e, p1⟩ => by
    subst e
    obtain ⟨v, u, rfl, z1, z2⟩ := repL_two.mp z
    refine ⟨by show 2 ≤ sizeLine; decide, fun T hT => ?_⟩
    have ⟨r2, f2⟩ := r1.1.aside (u := .tup [v, u]) hT
    have r2' := r1.to r2 f2
    have k2 := f2.keeps r1.1
    refine ⟨T, [v, u], rfl, SqT.of upd_same, rfl, v, [u], rfl, τ, G1, _, (rs.mono (f1.keeps rl.1)).mono k2, r2', p1, fun o G2 ov H2 zo r3 f3 p2 => ⟨τ, G2, _, ((rs.mono (f1.keeps rl.1)).mono k2).mono (f3.keeps r2), r3, p2, fun i G3 iv H3 zi r4 f4 p3 => ?_⟩⟩
    have k4 := f4.keeps r3.1
    have k3 := f3.keeps r2
    refine dset_run (zo.mono k4) zi (((z1.mono k2).mono k3).mono k4) r4.1 p3 fun G4 H4 r5 f5 p4 => ⟨u, [], rfl, rfl, ?_⟩
    have k5 := f5.keeps r4.1
    exact er.nx _ G4 _ H4 ((((((rs.mono (f1.keeps rl.1)).mono k2).mono k3).mono k4).mono k5).set n ((((z2.mono k2).mono k3).mono k4).mono k5)) (r4.to r5 f5) (f1.trans (f2.trans (f3.trans (f4.trans f5)))) p4⟩
end
section
variable {X : Cx} {K : PySem.W.Frag} {ξ : XP}
/-! ### lambdas -/
def dLam (L : LF.LamT) : DTE := fun _ G P => P (.fv L) G
theorem lift_lam {L : LF.LamT} : ∀ σ H Q, liftE K ξ (dLam L) σ H Q → LF.tMkLam (LamTab K) L σ H Q := fun σ H Q ⟨τ, G, P, rs, rl, p, k⟩ => ⟨fun P q h => rl.1.tab P q h, fun f c' H1 eN nn T1 f0 f1 c1 => by
  have kk : Keeps H H1 := ⟨fun a xs h => eN _ _ h (fun _ z => by cases z), fun a o u h => eN _ _ h (fun _ z => by cases z), fun a u h => eN _ _ h (fun _ z => by cases z)⟩
  have fr : Frame G H G H1 := fun a o h g n => ⟨eN a o h (fun ps z => by rw [z] at n; exact n), g⟩
  have rr : Rel K G H1 := ⟨fun a o g => (rl.1.rep a o g).mono kk (by rcases rl.1.un g with ⟨_, q⟩ | ⟨_, q⟩ | ⟨_, _, _, q⟩ <;> rw [q, eN _ _ q (fun _ z => by cases z)]), T1⟩
  exact k (.fv L) G (.ref f) H1 (rep_fv.mpr ⟨f, c', rfl, f1, c1⟩) (rl.to rr fr) fr p⟩
abbrev LamL : Type := List (LF.LamT × Nat × Nat)
def dCallF (ls : LamL) (C : Nat → DSp) (EX : DXK) (i : Nat) (t : DTA) : DTE := fun τ G P => ∃ L f n, τ[i]? = some (some (.fv L)) ∧ (L, f, n) ∈ ls ∧ t τ G fun ds G1 => ds.length = n ∧ C f ds G1 P EX
theorem lift_callF {ls : LamL} {C : Nat → DSp} {i : Nat} (t : DTA) : ∀ σ H Q, liftE K ξ (dCallF ls C ξ.EX i t) σ H Q → LF.tCallF i (fun L sp => ∃ f n, (L, f, n) ∈ ls ∧ sp = spD K n (C f)) ξ.Ex (liftA K ξ t) σ H Q :=
  fun σ H Q ⟨τ, G, P, rs, rl, ⟨L, f, n, h1, h2, p⟩, k⟩ => by
    obtain ⟨v, q, z⟩ := rs.get i _ h1
    obtain ⟨a, c, rfl, e1, e2⟩ := rep_fv.mp z
    exact ⟨a, c, L, _, q, ⟨f, n, h2, rfl⟩, e1, τ, G, _, rs, rl, p, fun ds G1 vs H1 z1 r1 f1 ⟨hl, p1⟩ => ⟨(f1.keeps rl.1).lamO e1, (f1.keeps rl.1).codeO e2, ds, G1, P, ξ.EX, z1, r1.1, hl, p1, fun d G' v H' z2 r2 f2 p2 => k d G' v H' z2 (r1.to r2 f2) (f1.trans f2) p2, r1.2⟩⟩
end
end DL
end
section
set_option Elab.async false
set_option linter.all false
set_option maxRecDepth 100000
set_option autoImplicit false
namespace DL
open PySem PySem.Spec PyProof.Rows L2
/-! ### how arguments are bound -/
theorem zip_lookup : ∀ {ps : List Str} {us : List Value}, ps.Nodup → us.length = ps.length → ps.filterMap (fun n => ((ps.zip us).lookup n).map (n, ·)) = ps.zip us
  | [], [], _, _ => rfl
  | p :: ps, u :: us, h, hl => by
    obtain ⟨h1, h2⟩ := List.nodup_cons.mp h
    have ih := zip_lookup (ps := ps) (us := us) h2 (by simpa using hl)
    rw [List.zip_cons_cons, List.filterMap_cons]
    simp only [List.lookup_cons, beq_self_eq_true, Option.map_some]
    congr 1
    rw [← ih]
    have : ∀ (l : List Str), (∀ x ∈ l, x ∈ ps) → l.filterMap (fun n => (match n == p with | true => some u | false => List.lookup n (ps.zip us)).map (n, ·)) = l.filterMap (fun n => ((ps.zip us).lookup n).map (n, ·)) := fun l => by
      induction l with
      | nil => intro _; rfl
      | cons x l ihl =>
        intro hx
        have hne : (x == p) = false := by
          have hm := hx x List.mem_cons_self
          simpa using fun (e : x = p) => h1 (by rw [← e]; exact hm)
        rw [List.filterMap_cons, List.filterMap_cons, hne, ihl fun y hy => hx y (List.mem_cons_of_mem _ hy)]
    rw [ih]
    exact (this ps fun _ h => h).trans ih
  | [], _ :: _, _, hl => by cases hl
  | _ :: _, [], _, hl => by cases hl
theorem zip_some {ps : List Str} {us : List Value} (hl : us.length = ps.length) : ∀ n ∈ ps, ((ps.zip us).lookup n).isSome = true := by
  intro n hn
  induction ps generalizing us with
  | nil => cases hn
  | cons p ps ih =>
    cases us with
    | nil => cases hl
    | cons u us =>
      rw [List.zip_cons_cons, List.lookup_cons]
      cases e : (n == p) with
      | true => rfl
      | false =>
        rcases List.mem_cons.mp hn with q | q
        · rw [q, beq_self_eq_true] at e; cases e
        · exact ih (by simpa using hl) q
def plainP (p : Arguments) (ps : List Str) : Bool := p.posonlyargs.isEmpty && (decide (p.args.map (·.arg) = ps) && (p.vararg.isNone && (p.kwonlyargs.isEmpty && (p.kwarg.isNone && decide ps.Nodup))))
theorem bind_plain {fd : FuncData} {ps : List Str} {us : List Value} (h : plainP fd.params ps = true) (hd : fd.defaults = .none) (hl : us.length = ps.length) : bindArgs fd ⟨us, []⟩ = pure (ps.zip us) := by
  unfold plainP at h
  simp only [Bool.and_eq_true, List.isEmpty_iff, decide_eq_true_eq, Option.isNone_iff_eq_none] at h
  obtain ⟨h1, h2, h3, h4, h5, h6⟩ := h
  have hm : ps.filter (fun n => ((ps.zip us).lookup n).isNone) = [] := by
    rw [List.filter_eq_nil_iff]
    intro n hn
    have := zip_some hl n hn
    cases q : (ps.zip us).lookup n with
    | none => rw [q] at this; cases this
    | some v => simp
  unfold bindArgs
  simp only [h1, h2, h3, h4, h5, hd, List.map_nil, List.nil_append, List.append_nil]
  have hs : seqItems? (Value.none) = pure none := rfl
  have pb : ∀ {α β : Type} (a : α) (f : α → Sem β), (pure a >>= f) = f a := fun _ _ => rfl
  have hgt : decide (us.length > ps.length) = false := decide_eq_false (by omega)
  simp only [hs, List.forIn_nil, pb, Option.getD_none, List.drop_nil, List.length_nil, Nat.sub_zero, List.take_length, List.drop_length, List.zip_nil_right, List.zip_nil_left, hm, hgt, List.isEmpty_nil, Bool.not_true, Bool.false_and, Bool.false_eq_true, if_false, zip_lookup h6 hl]
theorem lookup_app {α : Type} (n : Str) : ∀ (l m : List (Str × α)), (l ++ m).lookup n = (l.lookup n).or (m.lookup n)
  | [], m => by simp
  | (k, v) :: l, m => by
    rw [List.cons_append, List.lookup_cons, List.lookup_cons]
    cases n == k with
    | true => rfl
    | false => exact lookup_app n l m
theorem zip_none {α : Type} {n : Str} : ∀ {ps : List Str} {us : List α}, n ∉ ps → (ps.zip us).lookup n = none
  | [], _, _ => by simp
  | _ :: _, [], _ => by simp
  | p :: ps, u :: us, h => by
    rw [List.zip_cons_cons, List.lookup_cons]
    have h1 : (n == p) = false := by
      cases e : (n == p) with
      | false => rfl
      | true => exact absurd (eq_of_beq e ▸ List.mem_cons_self) h
    rw [h1]
    exact zip_none fun q => h (List.mem_cons_of_mem _ q)
theorem zip_someA {α : Type} {n : Str} : ∀ {ps : List Str} {us : List α}, us.length = ps.length → n ∈ ps → ∃ v, (ps.zip us).lookup n = some v
  | [], _, _, h => by cases h
  | _ :: _, [], hl, _ => by cases hl
  | p :: ps, u :: us, hl, h => by
    rw [List.zip_cons_cons, List.lookup_cons]
    cases e : (n == p) with
    | true => exact ⟨u, rfl⟩
    | false =>
      rcases List.mem_cons.mp h with q | q
      · rw [q, beq_self_eq_true] at e; cases e
      · exact zip_someA (by simpa using hl) q
/-- the keywords' values in the parameters' order -/
def kwR {α : Type} (rest ks : List Str) (ws : List α) : List α := rest.filterMap fun n => (ks.zip ws).lookup n
theorem kwR_len {α : Type} {ks : List Str} {ws : List α} (hl : ws.length = ks.length) : ∀ {rest : List Str}, (∀ n ∈ rest, n ∈ ks) → (kwR rest ks ws).length = rest.length
  | [], _ => rfl
  | n :: rest, h => by
    unfold kwR
    obtain ⟨v, e⟩ := zip_someA hl (h n List.mem_cons_self)
    rw [List.filterMap_cons, e]
    have := kwR_len hl (rest := rest) fun m hm => h m (List.mem_cons_of_mem _ hm)
    unfold kwR at this
    simp [this]
theorem kw_binds {ks : List Str} {ws : List Value} (hl : ws.length = ks.length) : ∀ {rest : List Str}, (∀ n ∈ rest, n ∈ ks) → rest.filterMap (fun n => ((ks.zip ws).lookup n).map (n, ·)) = rest.zip (kwR rest ks ws)
  | [], _ => rfl
  | n :: rest, h => by
    unfold kwR
    obtain ⟨v, e⟩ := zip_someA hl (h n List.mem_cons_self)
    have ih := kw_binds hl (rest := rest) fun m hm => h m (List.mem_cons_of_mem _ hm)
    unfold kwR at ih
    rw [List.filterMap_cons, List.filterMap_cons, e]
    simp [ih]
theorem List.filterMap_congr' {α β : Type} {f g : α → Option β} : ∀ {l : List α}, (∀ x ∈ l, f x = g x) → l.filterMap f = l.filterMap g
  | [], _ => rfl
  | x :: l, h => by
    rw [List.filterMap_cons, List.filterMap_cons, h x List.mem_cons_self, List.filterMap_congr' fun y hy => h y (List.mem_cons_of_mem _ hy)]
theorem for_kw (f : Str × Value → (List (Str × Value) × List (Str × Value)) → Sem (ForInStep (List (Str × Value) × List (Str × Value)))) (N : List Str) (hf : ∀ k v sl ex, k ∈ N → sl.lookup k = none → f (k, v) (sl, ex) = pure (.yield (sl ++ [(k, v)], ex))) :
    ∀ (l sl : List (Str × Value)), (l.map (·.1)).Nodup → (∀ k ∈ l.map (·.1), k ∈ N ∧ sl.lookup k = none) → forIn l (sl, ([] : List (Str × Value))) f = pure (sl ++ l, [])
  | [], sl, _, _ => by rw [List.append_nil]; rfl
  | (k, v) :: l, sl, hn, h => by
    have h0 := h k (by simp)
    rw [List.map_cons] at hn
    obtain ⟨n1, n2⟩ := List.nodup_cons.mp hn
    rw [List.forIn_cons, hf k v sl [] h0.1 h0.2]
    show forIn l (sl ++ [(k, v)], ([] : List (Str × Value))) f = _
    rw [for_kw f N hf l (sl ++ [(k, v)]) n2 (fun m hm => ⟨(h m (by rw [List.map_cons]; exact List.mem_cons_of_mem _ hm)).1, by
      rw [lookup_app, (h m (by rw [List.map_cons]; exact List.mem_cons_of_mem _ hm)).2, List.lookup_cons]
      have : (m == k) = false := by
        cases e : (m == k) with
        | false => rfl
        | true => exact absurd (eq_of_beq e ▸ hm) n1
      rw [this]; rfl⟩), List.append_assoc]
    rfl
theorem bind_kw {fd : FuncData} {ps ks : List Str} {us ws : List Value} (h : plainP fd.params ps = true) (hd : fd.defaults = .none) (hl : us.length ≤ ps.length) (hw : ws.length = ks.length) (hk : ks.Nodup) (h1 : ∀ k ∈ ks, k ∈ ps.drop us.length) (h2 : ∀ n ∈ ps.drop us.length, n ∈ ks) :
    bindArgs fd ⟨us, ks.zip ws⟩ = pure (ps.zip (us ++ kwR (ps.drop us.length) ks ws)) := by
  unfold plainP at h
  simp only [Bool.and_eq_true, List.isEmpty_iff, decide_eq_true_eq, Option.isNone_iff_eq_none] at h
  obtain ⟨g1, g2, g3, g4, g5, g6⟩ := h
  have pb : ∀ {α β : Type} (a : α) (f : α → Sem β), (pure a >>= f) = f a := fun _ _ => rfl
  have hz : ps.zip us = (ps.take us.length).zip us := by
    have e1 : ∀ (l : List Str) (m : List Value), l.zip m = (l.take m.length).zip m := fun l => by
      induction l with
      | nil => intro m; simp
      | cons x l ih =>
        intro m
        cases m with
        | nil => simp
        | cons y m => rw [List.length_cons, List.take_succ_cons, List.zip_cons_cons, List.zip_cons_cons, ← ih m]
    exact e1 ps us
  have hdis : ∀ n ∈ ps.drop us.length, n ∉ ps.take us.length := fun n hn ht => by
    have := g6
    rw [← List.take_append_drop us.length ps] at this
    exact (List.nodup_append.mp this).2.2 n ht n hn rfl
  have hnone : ∀ n ∈ ps.drop us.length, (ps.zip us).lookup n = none := fun n hn => by
    rw [hz]
    exact zip_none (hdis n hn)
  have hmap : (ks.zip ws).map (·.1) = ks := by
    rw [List.map_fst_zip]
    omega
  have hsome : ∀ n ∈ ps, ((ps.zip us ++ ks.zip ws).lookup n).isSome = true := fun n hn => by
    rw [lookup_app]
    rw [← List.take_append_drop us.length ps] at hn
    rcases List.mem_append.mp hn with q | q
    · obtain ⟨v, e⟩ := zip_someA (us := us) (by simp; omega) q
      rw [hz, e]; rfl
    · rw [hnone n q]
      obtain ⟨v, e⟩ := zip_someA hw (h2 n q)
      rw [e]; rfl
  have hm : ps.filter (fun n => ((ps.zip us ++ ks.zip ws).lookup n).isNone) = [] := by
    rw [List.filter_eq_nil_iff]
    intro n hn
    have := hsome n hn
    cases q : (ps.zip us ++ ks.zip ws).lookup n with
    | none => rw [q] at this; cases this
    | some v => simp
  have hb : ps.filterMap (fun n => ((ps.zip us ++ ks.zip ws).lookup n).map (n, ·)) = ps.zip (us ++ kwR (ps.drop us.length) ks ws) := by
    have e1 : ps.zip (us ++ kwR (ps.drop us.length) ks ws) = (ps.take us.length).zip us ++ (ps.drop us.length).zip (kwR (ps.drop us.length) ks ws) := by
      conv => lhs; rw [← List.take_append_drop us.length ps]
      rw [List.zip_append (by simp; omega)]
      simp
    rw [e1]
    conv => lhs; rw [← List.take_append_drop us.length ps]
    rw [List.filterMap_append]
    congr 1
    · have h6 : (ps.take us.length).Nodup := g6.sublist (List.take_sublist _ _)
      rw [← zip_lookup (ps := ps.take us.length) (us := us) h6 (by simp; omega)]
      apply List.filterMap_congr'
      intro n hn
      obtain ⟨v, e⟩ := zip_someA (us := us) (by simp; omega) hn
      rw [List.take_append_drop, lookup_app, hz, e]; rfl
    · rw [← kw_binds hw h2]
      apply List.filterMap_congr'
      intro n hn
      rw [List.take_append_drop, lookup_app, hnone n hn]; rfl
  have hs : seqItems? (Value.none) = pure none := rfl
  have hgt : decide (us.length > ps.length) = false := decide_eq_false (by omega)
  unfold bindArgs
  simp only [g1, g2, g3, g4, g5, hd, List.map_nil, List.nil_append, List.append_nil]
  rw [for_kw _ (ps.drop us.length) (fun k v sl ex hk hn => by
    have : ps.contains k = true := List.contains_iff_mem.mpr (List.mem_of_mem_drop hk)
    simp only [this, Bool.true_or, if_true, hn, Option.isSome_none, Bool.false_eq_true, if_false]) (ks.zip ws) (ps.zip us) (by rw [hmap]; exact hk) (fun k hk' => by
      rw [hmap] at hk'
      exact ⟨h1 k hk', hnone k (h1 k hk')⟩)]
  simp only [hs, List.forIn_nil, pb, Option.getD_none, List.drop_nil, List.length_nil, Nat.sub_zero, List.take_length, List.drop_length, List.zip_nil_right, List.zip_nil_left, hm, hgt, List.isEmpty_nil, Bool.not_true, Bool.false_and, Bool.false_eq_true, if_false, hb]

theorem zip_ix {α : Type} : ∀ {ks : List Str} {ws : List α} {j : Nat} {k : Str}, ks.Nodup → ks[j]? = some k → ws.length = ks.length → (ks.zip ws).lookup k = ws[j]?
  | [], _, _, _, _, h, _ => by simp at h
  | _ :: _, [], _, _, _, _, hl => by cases hl
  | p :: ks, w :: ws, 0, k, hn, h, hl => by
    have e : p = k := by simpa using h
    subst e
    simp
  | p :: ks, w :: ws, j + 1, k, hn, h, hl => by
    obtain ⟨h1, h2⟩ := List.nodup_cons.mp hn
    have hk : ks[j]? = some k := by simpa using h
    have hne : (k == p) = false := by
      cases e : (k == p) with
      | false => rfl
      | true => exact absurd (eq_of_beq e ▸ List.mem_of_getElem? hk) h1
    rw [List.zip_cons_cons, List.lookup_cons, hne]
    have := zip_ix (ws := ws) h2 hk (by simpa using hl)
    simpa using this
theorem kwR_pm {α : Type} {ks : List Str} {ws : List α} (hn : ks.Nodup) (hl : ws.length = ks.length) : ∀ {pm : List Nat}, (∀ j ∈ pm, j < ks.length) → kwR (pm.filterMap fun j => ks[j]?) ks ws = pm.filterMap fun j => ws[j]?
  | [], _ => rfl
  | j :: pm, h => by
    have hj := h j List.mem_cons_self
    have ih := kwR_pm hn hl (pm := pm) fun i hi => h i (List.mem_cons_of_mem _ hi)
    have e : ks[j]? = some ks[j] := List.getElem?_eq_getElem hj
    have e2 : ws[j]? = some (ws[j]'(by omega)) := List.getElem?_eq_getElem (by omega)
    unfold kwR at ih ⊢
    rw [List.filterMap_cons, List.filterMap_cons, e, e2]
    dsimp only
    rw [List.filterMap_cons, zip_ix hn e hl, e2]
    dsimp only
    rw [ih]
end DL
end
section
set_option Elab.async false
set_option linter.all false
set_option maxRecDepth 100000
set_option autoImplicit false
/-! An own exception class over Exception whose __init__ stores its argument: made, raised. -/
namespace XE
open PySem PySem.Spec PySem.W PySem.Calls PyProof.Rows L2
abbrev exT : List Value := [.type "Exception", .type "BaseException", .type "object"]
section
variable {prog : Program} {w : World} {A : Around} {R : Result → Shared → Prop} {hp : Heap} {g : Array GenState} {d : Drawn} {t : Nat} {os : OsState}
/-- the first field of an exception: its dict is made -/
theorem first_field {K : PySem.W.Frag} {C x t1 : Addr} {name : Str} {tk : Tok} {v : Value} (X : K.In hp) (hx : hp.get? x = some (HandSPX.excO C t1)) (hov : excOver K C exT = true) (hdi : hasDictIn K C = true) (ht : takerIn K C name = some none)
    (hq : ∀ h' tk', (∀ b o, b ≠ x → hp.get? b = some o → h'.get? b = some o) → h'.get? x = some { cls := .ref C, dict := some hp.objs.size, data := .fields #[.ref t1, .none, .none, .none, .bool false, .none] } →
      h'.Ns1 hp.objs.size (fun y => if y = name then some v else none) → R (.ok (.ret .none)) ⟨h', g, d, tk', os⟩) :
    codeAny (model prog w) A (.call (.builtin "object.__setattr__") ⟨[.ref x, .str name tk, v], []⟩) R ⟨hp, g, d, t, os⟩ := by
  have lt : x ≠ hp.objs.size := Nat.ne_of_lt (Heap.lt_size hx)
  refine osa_openX (od := none) PySem.F.store_Exception X ⟨hx, rfl, rfl, trivial⟩ hov ht fun b => ?_
  obtain ⟨cd, hc, hd'⟩ := any_some hdi
  dsimp only
  unfold Builtin.ObjectAttr.storeInOwnDict Builtin.ObjectAttr.ownDictForStores
  have nomod : (Value.ref C == Value.type "module") = false := rfl
  rw [nomod]
  repeat (first | with_reducible refine instanceDict_exc (c2 := .none) hx (looks_clsIn X hc) hd' ?_ | with_reducible refine HandSPX.store_in_new ?_ ?_ | wp_step)
  · dsimp only
    have at0 : (hp.push (dictOf [] 0)).get? hp.objs.size = some (dictOf [] 0) := Heap.get?_push_size _ rfl
    exact ⟨_, #[], _, by rw [Heap.get?_update_ne _ _ _ _ (Ne.symm lt)]; exact at0, rfl, fun z hz => absurd hz (by simp), fun _ => rfl⟩
  · dsimp only
    intro h1 k1 n1 sb
    have ax : (hp.push (dictOf [] 0)).get? x = some (HandSPX.excO C t1) := Heap.get?_push_of_some _ hx
    refine hq h1 k1 (fun b o hb ho => ?_) ?_ n1
    · have hs : b ≠ hp.objs.size := Nat.ne_of_lt (Heap.lt_size ho)
      rw [sb.2 b hs, Heap.get?_update_ne _ _ _ _ hb]
      exact Heap.get?_push_of_some _ ho
    · rw [sb.2 x lt, Heap.get?_update_self _ ax rfl]
end
/-- what the written part says of such a class -/
structure XCl (K : PySem.W.Frag) (C : Addr) : Prop where
  ini : excInitIn K C exT "Exception.__new__" = true
  ov : excOver K C exT = true
  hd : hasDictIn K C = true
  sa : findIn K (.ref C) "__setattr__" = some (some (.builtin "object.__setattr__"))
  exC : subIn K (.ref C) (.type "BaseException") = some true
  tyC : typeIn K (.ref C) = some (.type "type")
  kC : keepIn K (.ref C) = true
section
variable {X : Cx} {pins : List (Addr × Obj)} {σ : L2.St} {H : Hp} {s : Shared} {a C : Addr} {f : Str} {y : V} {u : Value} {Q : Unit → Shared → Prop} {E : Value → Shared → Prop} {A : Around}
theorem takes_none {K : PySem.W.Frag} (h : findIn K (.ref C) f = some none) : takerIn K C f = some none := by unfold takerIn; rw [h]; rfl
/-- self.f = y on an exception that is being made -/
theorem set_new (T : XCl X.K C) (I : Inv X pins σ H s) (e : H a = some (exo a C none)) (hno : findIn X.K (.ref C) f = some none) (ry : RelV y u)
    (h : ∀ dx s', H dx = none → dx ≠ a → Inv X pins σ (upd (upd H dx (exd dx [(f, y)])) a (exo a C (some dx))) s' → Q () s') : wpAny (model X.prog X.w) A (setAttr (.ref a) f u) Q E s := by
  obtain ⟨t1, ho⟩ := exo_at I.hok e
  obtain ⟨hp, g, d, t, os⟩ := s
  refine set_plain I.kIn (ox := HandSPX.excO C t1) (od := none) ⟨ho, rfl, rfl, trivial⟩ T.sa ?_
  refine first_field I.kIn ho T.ov T.hd (takes_none hno) fun h' tk' kp hx hn => ?_
  have free : H hp.objs.size = none := I.hok.fresh (Nat.le_refl _)
  have old : ∀ {b : Addr} {o : Obj}, hp.get? b = some o → b ≠ hp.objs.size := fun q => Nat.ne_of_lt (Heap.lt_size q)
  have other : ∀ {b : Addr}, H b = none → b ≠ a := fun n z => by rw [z, e] at n; cases n
  have da : hp.objs.size ≠ a := fun z => other free z
  -- the two places that are told anew
  have up : ∀ {b : Addr}, b ≠ a → b ≠ hp.objs.size → upd (upd H hp.objs.size (exd hp.objs.size [(f, y)])) a (exo a C (some hp.objs.size)) b = H b := fun h1 h2 => by rw [upd_ne h1, upd_ne h2]
  have un : Un X.fs [] H (upd (upd H hp.objs.size (exd hp.objs.size [(f, y)])) a (exo a C (some hp.objs.size))) hp h' := by
    constructor
    · exact fun b o q n _ _ => kp b o (other n) q
    · exact fun b o q n _ _ => ⟨_, kp b o (other n) q⟩
    · exact fun b o q n _ => by rw [up (other n) (old q)]; exact n
    · intro b o q _
      rcases Decidable.em (b = a) with z | z
      · exact ⟨_, z ▸ hx⟩
      · exact ⟨o, kp b o z q⟩
    · exact fun b xs q => by rw [up (at_ne e q exo_tup) (ne_of_none q free)]; exact q
    · exact fun b o v q => by rw [up (at_ne e q exo_frz) (ne_of_none q free)]; exact q
    · exact fun b ps q => ⟨#[], by rw [up (at_ne e q exo_tbl) (ne_of_none q free), q]; simp⟩
  refine h hp.objs.size _ free da (I.un (t' := tk') un fun b o q => ?_)
  rcases Decidable.em (b = a) with z | z
  · subst z
    rw [upd_same] at q
    cases q
    exact exo_ok hx
  rcases Decidable.em (b = hp.objs.size) with z2 | z2
  · subst z2
    rw [upd_ne z, upd_same] at q
    cases q
    exact exd_ok hn (relO_put (fs := []) ry fun _ => True.intro)
  rw [up z z2] at q
  refine (I.hok b o q).stay (fun c v hc r => kp c v ?_ r) (fun c hc => ?_) fun c xs hc => ?_
  · rcases hc with hc | hc
    · exact hc ▸ z
    · exact at_ne e hc exo_own
  · rw [up (at_ne e hc exo_own) (ne_of_none hc free)]; exact hc
  · rw [up (at_ne e hc exo_tup) (ne_of_none hc free)]; exact hc
end
/-- self.f = e within such an __init__ -/
def tSetX (K : PySem.W.Frag) (f : Str) (to te : TE) : TS := fun D σ H => te σ H fun y H1 => to σ H1 fun x H2 => ∃ a C : Addr, x = .ref a ∧ XCl K C ∧ findIn K (.ref C) f = some none ∧ H2 a = some (exo a C none) ∧
  ∀ dx, H2 dx = none → dx ≠ a → D.nx σ (upd (upd H2 dx (exd dx [(f, y)])) a (exo a C (some dx)))
theorem ps_setX {X : Cx} {o e : Expr} {to te : TE} {f : Str} {p' pos : Pos} (ho : PE X o to) (he : PE X e te) (hs : swapsWith e (some (.Attribute o f p')) pos.line X.env = pure false) : PS X (.Assign [.Attribute o f p'] e pos) (tSetX X.K f to te) :=
  ⟨fun pins s σ H D I h => plainObj_wpAny_Assign_Attribute (thn (he.run pins s σ H _ I h) fun v s1 ⟨y, H1, I1, r1, q1⟩ => thn (ho.run pins s1 σ H1 _ I1 q1) fun u s2 ⟨x, H2, I2, r2, a, C, ex, T, hno, ea, q⟩ => by
    subst ex
    obtain rfl : u = Value.ref a := r2
    exact set_new T I2 ea hno r1 fun dx s' n ne J => ⟨σ, _, J, q dx n ne⟩) hs⟩
/-- what such an __init__ does -/
def spI (C : Addr) (f : Str) : Sp := fun vs H Q _ => ∃ a v, vs = [V.ref a, v] ∧ H a = some (exo a C none) ∧ ∀ dx, H dx = none → dx ≠ a → Q .non (upd (upd H dx (exd dx [(f, v)])) a (exo a C (some dx)))
/-- the shape of such an __init__ -/
def initBody (sn pn f : Str) : List Stmt → Bool
  | [.Assign [.Attribute (.Name s1 _) f1 _] (.Name p1 _) _] => s1 == sn && p1 == pn && f1 == f
  | _ => false
theorem init_ok {P : Program} {w : World} {K : PySem.W.Frag} {mg : Str → Option Value} {base : Heap} {fI C : Addr} {fd : FuncData} {nm qual sn pn f : Str} {params : Arguments} {body : List Stmt} {scope : Scope} (F : FunD K nm qual params body scope [] [] fI fd)
    (S : FnScope [sn, pn] [sn, pn] scope) (hb : initBody sn pn f body = true) (T : XCl K C) (hno : findIn K (.ref C) f = some none) (h1 : (sn == ("__debug__" : Str)) = false ∧ (sn == ("__classdict__" : Str)) = false) (h2 : (pn == ("__debug__" : Str)) = false ∧ (pn == ("__classdict__" : Str)) = false) (hv : Vis scope sn ∧ Vis scope pn) :
    FnOk P w K mg base (L2.CX P w) 1 fI fd [sn, pn] (spI C f) := by
  unfold initBody at hb
  split at hb
  · rename_i s1 q1 f1 q2 p1 q3 q4
    simp only [Bool.and_eq_true, beq_iff_eq] at hb
    obtain ⟨⟨rfl, rfl⟩, rfl⟩ := hb
    refine F.ok S (fun vs H Q E ⟨a, v, e, _⟩ => by rw [e]; rfl) fun cdv A outer s H vs Q E hr ⟨a, v, e, ea, q⟩ => ?_
    subst e
    refine ⟨_, pss_cons (ps_setX (pe_var (i := 0) rfl hv.1 h1.1 h1.2) (pe_var (i := 1) rfl hv.2 h2.1 h2.2) ?_) pss_nil, ?_⟩
    · rfl
    · exact ⟨v, rfl, .ref a, rfl, a, C, rfl, T, hno, ea, q⟩
  · cases hb
theorem del_back {H : Hp} {a d : Addr} {o o' u : HO} (ha : H a = none) (hd : H d = none) (n : d ≠ a) : upd (del (upd (upd (upd H a o) d o') a o) a) d u = upd H d u := by
  funext b
  rcases Decidable.em (b = d) with z | z
  · rw [z, upd_same, upd_same]
  · rw [upd_ne z, upd_ne z]
    rcases Decidable.em (b = a) with y | y
    · rw [y, del_same, ha]
    · rw [del_ne y, upd_ne y, upd_ne z, upd_ne y]
theorem upd_over {H : Hp} {a d : Addr} {o o2 o' : HO} (n : d ≠ a) : upd (upd (upd H a o) d o') a o2 = upd (upd H d o') a o2 := by
  funext b
  rcases Decidable.em (b = a) with y | y
  · rw [y, upd_same, upd_same]
  · rw [upd_ne y, upd_ne y]
    rcases Decidable.em (b = d) with z | z
    · rw [z, upd_same, upd_same]
    · rw [upd_ne z, upd_ne z, upd_ne y]
/-- C(e), its own __init__ storing e as the field f -/
def tMkX (C : Addr) (f : Str) (ta : TA) : L2.St → Hp → XK → Prop := fun σ H Q => ta σ H fun vs H1 => ∃ v, vs = [v] ∧ ∀ d, H1 d = none → Q (.ref C) (some d) (upd H1 d (.xd [(f, v)]))
theorem pmk_x {X : Cx} {C fI : Addr} {k : Nat} {fd : FuncData} {ps : List Str} {x f : Str} {e : Expr} {ta : TA} {p pos : Pos} (T : XCl X.K C) (iC : findIn X.K (.ref C) "__init__" = some (some (.ref fI))) (tI : typeIn X.K (.ref fI) = some (.type "function"))
    (F1 : FnOk X.prog X.w X.K X.mg X.base (L2.CX X.prog X.w) k fI fd ps (spI C f)) (hr : Room (k + 1) X.A) (hb : Binds X.K fd ps []) (hx : Passes (L2.CX X.prog X.w) X (fun _ _ _ => False)) (hg : Gl X x) (hm : X.mg x = some (.ref C)) (ha : PA X [e] ta)
    (hdb : (x == ("__debug__" : Str)) = false) (hs : starEach [e] X.env = (false, eval e X.env) :: starEach [] X.env) : PMk X (.Call (.Name x p) [e] [] pos) (tMkX C f ta) := by
  intro pins s σ H Q I h
  obtain ⟨nm, N', qn, bs, bm, hdct, sn, sub, ab, col, dd, k0, k1, k2, k3, k5, hC, hT⟩ := excInit_of I.kIn T.ini
  refine wpAny_Call_Name_kw (ld_glob I hg hm ?_ hdb)
  refine callWith_K (h₀ := X.base) I.ok.mod.kin T.kC (thn (ha.run pos pins s σ H _ I h) fun us s1 ⟨vs, H1, I1, r1, v, ev, q1⟩ => ⟨I1.kIn, ?_⟩) hs (by rfl)
  subst ev
  obtain ⟨u, rfl, ru⟩ : ∃ u, us = [u] ∧ L2.RelV v u := by
    cases r1 with
    | cons ru rn => cases rn; exact ⟨_, rfl, ru⟩
  show wpAny _ _ (call (.ref C) [u]) _ _ _
  obtain ⟨hp, g, dr, tk, os⟩ := s1
  have hC1 := (I1.kIn).keeps fun _ _ z => z
  obtain ⟨nm, N', qn, bs, bm, hdct, sn, sub, ab, col, dd, k0, k1, k2, k3, k5, hC, hT⟩ := excInit_of I1.kIn T.ini
  have grow : hp.objs.size ≤ hp.objs.size + 1 := Nat.le_succ _
  have ha1 : H1 (hp.objs.size + 1) = none := I1.hok.fresh grow
  have stays : ∀ b o, hp.get? b = some o → ((hp.push (kdv_tup [u])).push (HandSPX.excO C hp.objs.size)).get? b = some o := fun b o z => Heap.get?_push_of_some _ (Heap.get?_push_of_some _ z)
  have made : ((hp.push (kdv_tup [u])).push (HandSPX.excO C hp.objs.size)).get? (hp.objs.size + 1) = some (HandSPX.excO C hp.objs.size) := by heap_get
  have I2 := I1.laid (t' := tk) (a := hp.objs.size + 1) (o := exo (hp.objs.size + 1) C none) (h' := (hp.push (kdv_tup [u])).push (HandSPX.excO C hp.objs.size)) stays grow (exo_ok made)
  have hsp : spI C f [V.ref (hp.objs.size + 1), v] (upd H1 (hp.objs.size + 1) (exo (hp.objs.size + 1) C none)) (fun w H2 => w = .non ∧ ∃ d, H1 d = none ∧ d ≠ hp.objs.size + 1 ∧ H2 = upd (upd H1 d (exd d [(f, v)])) (hp.objs.size + 1) (exo (hp.objs.size + 1) C (some d))) (fun _ _ _ => False) :=
    ⟨_, v, rfl, upd_same, fun dx n ne => ⟨rfl, dx, by rw [upd_ne ne] at n; exact n, ne, upd_over ne⟩⟩
  have hl := F1.len _ _ _ _ hsp
  refine wpAny_call (HandSPX.call_own PySem.F.excBase_Exception hT hC (looks_findIn I1.kIn iC) (fun self => bind_fn I1.kIn self tI) (by show 1 ≤ sizeLine; decide)
    (codeAny_mono (F1.run _ X.stack _ _ ⟨[Value.ref (hp.objs.size + 1), u], []⟩ [Value.ref (hp.objs.size + 1), u] [V.ref (hp.objs.size + 1), v] _ (fun _ _ _ => False) (hr.make C [u] []) (I2.env0.make C [u] []) ?_ (.cons rfl (.cons ru .nil)) hsp) fun r s' z => ?_))
  · have := hb _ [Value.ref (hp.objs.size + 1), u] I2.kIn (by rw [List.append_nil]; exact hl)
    rw [List.append_nil] at this
    exact this
  · cases r with
    | error er => exact hx pins σ _ _ er s' I2 z
    | ok fl =>
      cases fl with
      | ret w =>
        obtain ⟨w', H2, o2, b2, un2, hk2, rw', ew, d, hd, nd, e2⟩ := z
        subst ew e2
        obtain ⟨h2, g2, d2, t2, os2⟩ := s'
        refine ⟨rw', mk_end (raises_own T.exC T.tyC) I1 grow stays un2 hk2 o2 b2 upd_same (by rw [upd_ne nd, upd_same]) hd ?_⟩
        have := q1 d hd
        have eH : upd (del (upd (upd H1 d (exd d [(f, v)])) (hp.objs.size + 1) (exo (hp.objs.size + 1) C (some d))) (hp.objs.size + 1)) d (.xd [(f, v)]) = upd H1 d (.xd [(f, v)]) := by
          funext b
          rcases Decidable.em (b = d) with z | z
          · rw [z, upd_same, upd_same]
          rw [upd_ne z, upd_ne z]
          rcases Decidable.em (b = hp.objs.size + 1) with y | y
          · rw [y, del_same, ha1]
          · rw [del_ne y, upd_ne y, upd_ne z]
        rw [eH]
        exact this
      | next => exact z.elim
      | brk => exact z.elim
      | cont => exact z.elim
end XE
end
section
set_option Elab.async false
set_option linter.all false
set_option maxRecDepth 100000
set_option maxHeartbeats 2000000
set_option autoImplicit false
/-! An own exception over Exception made with a keyword. -/
namespace PySem
namespace XKW
open PySem.W HandSPX
open Builtin Builtin.ObjectAttr
section
variable {M : Model} {A : Around} {E : Value → Shared → Prop} {h : Heap} {g : Array GenState} {d : Drawn} {t : Nat} {os : OsState}
variable {nm q : Str} {C N : Addr} {bs bm bmB : List Value} {hdct : Bool} {sn : List Str} {sub : List Value} {ab : Bool} {col : Option Bool} {dd : Option Addr} {k0 k1 k2 k3 k5 : Option Value} {B newId initId : String}
theorem ckw_new (F : ExcBaseFacts B newId initId bmB) (hT : ∀ X : String, bm.contains (.type X) = bmB.contains (.type X)) {y : Str} {u : Value} {Q : Unit → Shared → Prop}
    (hC : h.get? C = some (excClassObj nm q C N bs bm hdct sn sub ab col dd k0 k1 k2 k3 k5 newId)) (hq : Q () ⟨h, g, d, t, os⟩) : wpAny M A (checkBuiltinCall newId ⟨[.ref C], [(y, u)]⟩) Q E ⟨h, g, d, t, os⟩ := by
  have hcont : (Value.ref C :: bm).contains (.type B) = true := by rw [List.contains_cons, hT, F.hasB, Bool.or_true]
  have hstar := F.noStar
  simp only [checkBuiltinCall, F.newKind, F.newSplit, F.newRow]
  repeat (first | refine wpAny_loadPart_at hC ?_ | (refine wpAny_isSubtype_exc hC ?_; rw [hcont]) | refine wpAny_staticBase_exc hC ?_ | refine wpAny_madeBy_exc hC ?_ | simp only [bne_self_eq_false, Bool.false_eq_true, if_false] | wp_step)
  exact hq
theorem ckw_call {y : Str} {u : Value} {Q : Unit → Shared → Prop} (hC : h.get? C = some (excClassObj nm q C N bs bm hdct sn sub ab col dd k0 k1 k2 k3 k5 newId))
    (hq : Q () ⟨h, g, d, t, os⟩) : wpAny M A (checkBuiltinCall "type.__call__" ⟨[.ref C], [(y, u)]⟩) Q E ⟨h, g, d, t, os⟩ := by
  have f3 := tc_sub
  have hT : (⟨h, g, d, t, os⟩ : Shared).TypeIs (.ref C) "type" := ⟨_, hC, rfl⟩
  simp only [checkBuiltinCall, tc_kind, tc_split]
  repeat (any_goals (first | assumption | with_reducible refine wpAny_loadPart_at hC ?_ | with_reducible refine wpAny_onRaise ?_ | with_reducible refine wpAny_map ?_ | wp_step))
end
section
variable {prog : Program} {w : World} {A : Around} {E : Value → Shared → Prop} {R : Result → Shared → Prop} {h : Heap} {g : Array GenState} {d : Drawn} {t : Nat} {os : OsState}
variable {nm q : Str} {C N : Addr} {bs bm bmB : List Value} {hdct : Bool} {sn : List Str} {sub : List Value} {ab : Bool} {col : Option Bool} {dd : Option Addr} {k0 k1 k2 k3 k5 : Option Value} {B newId initId : String}
theorem nkw (F : ExcBaseFacts B newId initId bmB) (hT : ∀ X : String, bm.contains (.type X) = bmB.contains (.type X)) {y : Str} {u : Value}
    (hC : h.get? C = some (excClassObj nm q C N bs bm hdct sn sub ab col dd k0 k1 k2 k3 k5 newId))
    (hq : R (.ok (.ret (.ref (h.objs.size + 1)))) ⟨(h.push (kdv_tup [])).push (HandSPX.excO C h.objs.size), g, d, t, os⟩) :
    codeAny (model prog w) A (.builtin newId ⟨[.ref C], [(y, u)]⟩) R ⟨h, g, d, t, os⟩ := by
  have hends := F.ends
  have hrest : ([] : List Value).length ≤ sizeLine := Nat.zero_le _
  have hcB : (Value.ref C :: bm).contains (.type B) = true := by rw [List.contains_cons, hT, F.hasB, Bool.or_true]
  have hcA : (Value.ref C :: bm).contains (.type "AttributeError") = false := by rw [List.contains_cons, hT, F.noAttr]; rfl
  have hcN : (Value.ref C :: bm).contains (.type "NameError") = false := by rw [List.contains_cons, hT, F.noName]; rfl
  refine codeAny_builtinAt F.entry ?_
  unfold Builtin.«BaseException.__new__»
  refine wpAt_bind ?_
  show wpAt _ _ _ (stack >>= _) _ _ _
  refine wpAt_bind (wpAt_stack fun p below => wpAt_of_wpAny ?_)
  wp_walk
  refine wpAt_of_wpAny ?_
  rw [F.owner]
  repeat (first | with_reducible refine wpAny_madeHere_exc F.canon hC ?_ | with_reducible refine wpAny_loadPart_at hC ?_ | (with_reducible refine wpAny_isSubtype_exc hC ?_; first | rw [hcB] | rw [hcA] | rw [hcN]) | wp_step)
  show R _ _
  rw [Heap.size_push]
  exact hq
theorem tkw (F : ExcBaseFacts B newId initId bmB) (hT : ∀ X : String, bm.contains (.type X) = bmB.contains (.type X)) {y : Str} {u : Value} {fI : Addr} {Q : Fin → Shared → Prop}
    (hC : h.get? C = some (excClassObj nm q C N bs bm hdct sn sub ab col dd k0 k1 k2 k3 k5 newId))
    (hi : W.Looks (model prog w) h (typeLookup (.ref C) "__init__") (some (.ref fI))) (hb : ∀ self, W.Looks (model prog w) h (bindSpecial (.ref fI) self) (.ref fI, [self]))
    (hq : codeAny (model prog w) A (.call (.ref fI) ⟨[.ref (h.objs.size + 1)], [(y, u)]⟩)
      (fun r s' => match r with | .ok (.ret v) => v = .none ∧ Q (.done (.ret (.ref (h.objs.size + 1)))) s' | .ok _ => False | .error e => E e s')
      ⟨(h.push (W.kdv_tup [])).push (HandSPX.excO C h.objs.size), g, d, t, os⟩) :
    wpAny (model prog w) A (Builtin.«type.__call__» ⟨[.ref C], [(y, u)]⟩) Q E ⟨h, g, d, t, os⟩ := by
  repeat (first | with_reducible refine wpAny_loadPart_at hC ?_ | with_reducible refine wpAny_madeBy_exc hC ?_ | wp_step)
  refine codeAny_call_builtin_code (Code.quiet_builtin _ F.quiet) (ckw_new F hT hC ?_)
  refine nkw F hT hC ?_
  show wpAny _ _ _ _ _ _
  have k : ∀ b o, h.get? b = some o → ((h.push (W.kdv_tup [])).push (HandSPX.excO C h.objs.size)).get? b = some o := fun b o e => Heap.get?_push_of_some _ (Heap.get?_push_of_some _ e)
  have hC₁ := k _ _ hC
  have hget : ((h.push (W.kdv_tup [])).push (HandSPX.excO C h.objs.size)).get? (h.objs.size + 1) = some (HandSPX.excO C h.objs.size) := by heap_get
  have hcC : (Value.ref C :: bm).contains (.ref C) = true := by simp
  have i1 := hi.keeps k
  have b1 := (hb (.ref (h.objs.size + 1))).keeps k
  unfold isInstance
  repeat (first | with_reducible refine wpAny_loadPart_at hget ?_ | (with_reducible refine wpAny_isSubtype_exc hC₁ ?_; rw [hcC]) | wp_step)
  show wpAny _ _ (typeLookup (.ref C) _) _ _ _
  refine i1.at ?_
  refine wpAny_holding (wpAny_bind (b1.at ?_))
  refine wpAny_bind (wpAny_call (codeAny_mono hq fun r s' z => ?_))
  rcases r with e | (v | _ | _ | _) <;> first | exact z | exact z.elim | skip
  obtain ⟨rfl, z⟩ := z
  first
    | exact wpAny_pure (wpAny_pure z)
    | (wp_walk; exact z)
theorem call_kw (F : ExcBaseFacts B newId initId bmB) (hT : ∀ X : String, bm.contains (.type X) = bmB.contains (.type X)) {y : Str} {u : Value} {fI : Addr}
    (hC : h.get? C = some (excClassObj nm q C N bs bm hdct sn sub ab col dd k0 k1 k2 k3 k5 newId))
    (hi : W.Looks (model prog w) h (typeLookup (.ref C) "__init__") (some (.ref fI))) (hb : ∀ self, W.Looks (model prog w) h (bindSpecial (.ref fI) self) (.ref fI, [self]))
    (hq : codeAny (model prog w) (A.under (.builtin "type.__call__" ⟨[.ref C], [(y, u)]⟩)) (.call (.ref fI) ⟨[.ref (h.objs.size + 1)], [(y, u)]⟩) (W.InitBack (h.objs.size + 1) R)
      ⟨(h.push (W.kdv_tup [])).push (HandSPX.excO C h.objs.size), g, d, t, os⟩) :
    codeAny (model prog w) A (.call (.ref C) ⟨[], [(y, u)]⟩) R ⟨h, g, d, t, os⟩ := by
  have f1 := tc_lookup
  have f2 := tc_bind (.ref C)
  have hTy : (⟨h, g, d, t, os⟩ : Shared).TypeIs (.ref C) "type" := ⟨_, hC, rfl⟩
  refine codeAny_of_tree ?_
  show wpAny _ _ (callAny (.ref C) _) _ _ _
  repeat (any_goals (first | assumption | with_reducible refine wpAny_loadPart_at hC ?_ | wp_step))
  refine ⟨rfl, ?_⟩
  exact codeAny_call_builtin_at (Code.quiet_builtin _ (by decide +kernel)) entry_typeCall (ckw_call hC (tkw F hT hC hi hb hq))
end
end XKW
end PySem
end
section
set_option Elab.async false
set_option linter.all false
set_option maxRecDepth 100000
set_option maxHeartbeats 2000000
set_option autoImplicit false
/-! Own exceptions over Exception as values: made, asked, read. -/
namespace XE
open PySem PySem.Spec PySem.W PySem.Calls PyProof.Rows L2
section
variable {X : Cx} {C fI : Addr} {k : Nat} {fd : FuncData} {ps : List Str} {x f y : Str} {e : Expr} {ta : TA} {p pos : Pos}
/-- C(e) as a value -/
def tMkV (C : Addr) (f : Str) (ta : TA) : TE := fun σ H Q => ta σ H fun vs H1 => ∃ v, vs = [v] ∧ ∀ a d, H1 a = none → H1 d = none → d ≠ a → Q (.ref a) (upd (upd H1 d (exd d [(f, v)])) a (exo a C (some d)))
/-- what a new one is: the end of both ways to make one -/
theorem made_end {pins : List (Addr × Obj)} {σ : L2.St} {H1 : Hp} {hp : Heap} {g : Array GenState} {dr : Drawn} {tk : Nat} {os : OsState} {us : List Value} {v : V} {Q : VK} (T : XCl X.K C)
    (hx : Passes (L2.CX X.prog X.w) X (fun _ _ _ => False)) (I1 : L2.Inv X pins σ H1 ⟨hp, g, dr, tk, os⟩)
    (q : ∀ a d, H1 a = none → H1 d = none → d ≠ a → Q (.ref a) (upd (upd H1 d (exd d [(f, v)])) a (exo a C (some d)))) {r : Result} {s' : Shared}
    (I2 : L2.Inv X pins σ (upd H1 (hp.objs.size + 1) (exo (hp.objs.size + 1) C none)) ⟨(hp.push (kdv_tup us)).push (HandSPX.excO C hp.objs.size), g, dr, tk, os⟩)
    (z : L2.CR (L2.CX X.prog X.w) X.stack X.prog X.w (upd H1 (hp.objs.size + 1) (exo (hp.objs.size + 1) C none)) ⟨(hp.push (kdv_tup us)).push (HandSPX.excO C hp.objs.size), g, dr, tk, os⟩
      (fun w H2 => w = .non ∧ ∃ d, H1 d = none ∧ d ≠ hp.objs.size + 1 ∧ H2 = upd (upd H1 d (exd d [(f, v)])) (hp.objs.size + 1) (exo (hp.objs.size + 1) C (some d))) (fun _ _ _ => False) r s') :
    match r with | .ok (.ret w) => w = .none ∧ EP X pins σ Q (.ref (hp.objs.size + 1)) s' | .ok _ => False | .error er => X.xe er s' := by
  cases r with
  | error er => exact hx pins σ _ _ er s' I2 z
  | ok fl =>
    cases fl with
    | ret w =>
      obtain ⟨w', H2, J, rw', ew, d, hd, nd, e2⟩ := I2.after z
      subst ew e2
      exact ⟨rw', .ref (hp.objs.size + 1), _, J, rfl, q _ d (I1.hok.fresh (Nat.le_succ _)) hd nd⟩
    | next => exact z.elim
    | brk => exact z.elim
    | cont => exact z.elim
theorem pe_mkV (T : XCl X.K C) (iC : findIn X.K (.ref C) "__init__" = some (some (.ref fI))) (tI : typeIn X.K (.ref fI) = some (.type "function"))
    (F1 : FnOk X.prog X.w X.K X.mg X.base (L2.CX X.prog X.w) k fI fd ps (spI C f)) (hr : Room (k + 1) X.A) (hb : Binds X.K fd ps []) (hx : Passes (L2.CX X.prog X.w) X (fun _ _ _ => False)) (hg : Gl X x) (hm : X.mg x = some (.ref C)) (ha : PA X [e] ta)
    (hdb : (x == ("__debug__" : Str)) = false) (hs : starEach [e] X.env = (false, eval e X.env) :: starEach [] X.env) : PE X (.Call (.Name x p) [e] [] pos) (tMkV C f ta) := by
  refine ⟨fun pins s σ H Q I h => ?_⟩
  refine wpAny_Call_Name_kw (ld_glob I hg hm ?_ hdb)
  refine callWith_K (h₀ := X.base) I.ok.mod.kin T.kC (thn (ha.run pos pins s σ H _ I h) fun us s1 ⟨vs, H1, I1, r1, v, ev, q1⟩ => ⟨I1.kIn, ?_⟩) hs (by rfl)
  subst ev
  obtain ⟨u, rfl, ru⟩ : ∃ u, us = [u] ∧ L2.RelV v u := by
    cases r1 with
    | cons ru rn => cases rn; exact ⟨_, rfl, ru⟩
  show wpAny _ _ (call (.ref C) [u]) _ _ _
  obtain ⟨hp, g, dr, tk, os⟩ := s1
  obtain ⟨nm, N', qn, bs, bm, hdct, sn, sub, ab, col, dd, k0, k1, k2, k3, k5, hC, hT⟩ := excInit_of I1.kIn T.ini
  have grow : hp.objs.size ≤ hp.objs.size + 1 := Nat.le_succ _
  have made : ((hp.push (kdv_tup [u])).push (HandSPX.excO C hp.objs.size)).get? (hp.objs.size + 1) = some (HandSPX.excO C hp.objs.size) := by heap_get
  have I2 := I1.laid (t' := tk) (a := hp.objs.size + 1) (o := exo (hp.objs.size + 1) C none) (h' := (hp.push (kdv_tup [u])).push (HandSPX.excO C hp.objs.size)) (fun b o z => Heap.get?_push_of_some _ (Heap.get?_push_of_some _ z)) grow (exo_ok made)
  have hsp : spI C f [V.ref (hp.objs.size + 1), v] (upd H1 (hp.objs.size + 1) (exo (hp.objs.size + 1) C none)) (fun w H2 => w = .non ∧ ∃ d, H1 d = none ∧ d ≠ hp.objs.size + 1 ∧ H2 = upd (upd H1 d (exd d [(f, v)])) (hp.objs.size + 1) (exo (hp.objs.size + 1) C (some d))) (fun _ _ _ => False) :=
    ⟨_, v, rfl, upd_same, fun dx n ne => ⟨rfl, dx, by rw [upd_ne ne] at n; exact n, ne, upd_over ne⟩⟩
  have hl := F1.len _ _ _ _ hsp
  refine wpAny_call (HandSPX.call_own PySem.F.excBase_Exception hT hC (looks_findIn I1.kIn iC) (fun self => bind_fn I1.kIn self tI) (by show 1 ≤ sizeLine; decide)
    (codeAny_mono (F1.run _ X.stack _ _ ⟨[Value.ref (hp.objs.size + 1), u], []⟩ [Value.ref (hp.objs.size + 1), u] [V.ref (hp.objs.size + 1), v] _ (fun _ _ _ => False) (hr.make C [u] []) (I2.env0.make C [u] []) ?_ (.cons rfl (.cons ru .nil)) hsp) fun r s' z => ?_))
  · have := hb _ [Value.ref (hp.objs.size + 1), u] I2.kIn (by rw [List.append_nil]; exact hl)
    rw [List.append_nil] at this
    exact this
  · have := made_end (Q := Q) T hx I1 q1 I2 z
    cases r with
    | error er => exact this
    | ok fl => cases fl <;> exact this
/-- C(f = e) as a value -/
theorem pe_mkVK {kw : Keyword} (T : XCl X.K C) (iC : findIn X.K (.ref C) "__init__" = some (some (.ref fI))) (tI : typeIn X.K (.ref fI) = some (.type "function"))
    (F1 : FnOk X.prog X.w X.K X.mg X.base (L2.CX X.prog X.w) k fI fd ps (spI C f)) (hr : Room (k + 1) X.A) (hb : ∀ (s : Shared) (u v : Value), BindsTo s fd ⟨[u], [(y, v)]⟩ (ps.zip [u, v])) (hx : Passes (L2.CX X.prog X.w) X (fun _ _ _ => False)) (hg : Gl X x) (hm : X.mg x = some (.ref C)) (ha : PK X [kw] ta)
    (hdb : (x == ("__debug__" : Str)) = false) (hall : (backToKw pos (keywordEach [kw] X.env)).all (·.1.isSome) = true) (hks : (backToKw pos (keywordEach [kw] X.env)).filterMap (·.1) = [y]) (hpl : ((backTo pos (starEach [] X.env)).any (·.1) || (backToKw pos (keywordEach [kw] X.env)).any (·.1.isNone)) = false) :
    PE X (.Call (.Name x p) [] [kw] pos) (tMkV C f ta) := by
  refine ⟨fun pins s σ H Q I h => ?_⟩
  refine wpAny_Call_Name_kw (ld_glob I hg hm ?_ hdb)
  refine PySem.W.callWith_KW0 (h₀ := X.base) I.ok.mod.kin T.kC hall ?_ hpl
  refine thn (ha.run pos pins s σ H _ I h) fun us s1 ⟨vs, H1, I1, r1, v, ev, q1⟩ => ⟨I1.kIn, ?_⟩
  rw [hks]
  subst ev
  obtain ⟨u, rfl, ru⟩ : ∃ u, us = [u] ∧ L2.RelV v u := by
    cases r1 with
    | cons ru rn => cases rn; exact ⟨_, rfl, ru⟩
  show wpAny _ _ (call (.ref C) [] [(y, u)]) _ _ _
  obtain ⟨hp, g, dr, tk, os⟩ := s1
  obtain ⟨nm, N', qn, bs, bm, hdct, sn, sub, ab, col, dd, k0, k1, k2, k3, k5, hC, hT⟩ := excInit_of I1.kIn T.ini
  have grow : hp.objs.size ≤ hp.objs.size + 1 := Nat.le_succ _
  have made : ((hp.push (kdv_tup [])).push (HandSPX.excO C hp.objs.size)).get? (hp.objs.size + 1) = some (HandSPX.excO C hp.objs.size) := by heap_get
  have I2 := I1.laid (t' := tk) (a := hp.objs.size + 1) (o := exo (hp.objs.size + 1) C none) (h' := (hp.push (kdv_tup [])).push (HandSPX.excO C hp.objs.size)) (fun b o z => Heap.get?_push_of_some _ (Heap.get?_push_of_some _ z)) grow (exo_ok made)
  have hsp : spI C f [V.ref (hp.objs.size + 1), v] (upd H1 (hp.objs.size + 1) (exo (hp.objs.size + 1) C none)) (fun w H2 => w = .non ∧ ∃ d, H1 d = none ∧ d ≠ hp.objs.size + 1 ∧ H2 = upd (upd H1 d (exd d [(f, v)])) (hp.objs.size + 1) (exo (hp.objs.size + 1) C (some d))) (fun _ _ _ => False) :=
    ⟨_, v, rfl, upd_same, fun dx n ne => ⟨rfl, dx, by rw [upd_ne ne] at n; exact n, ne, upd_over ne⟩⟩
  refine wpAny_call (PySem.XKW.call_kw PySem.F.excBase_Exception hT hC (looks_findIn I1.kIn iC) (fun self => bind_fn I1.kIn self tI)
    (codeAny_mono (F1.run _ X.stack _ _ ⟨[Value.ref (hp.objs.size + 1)], [(y, u)]⟩ [Value.ref (hp.objs.size + 1), u] [V.ref (hp.objs.size + 1), v] _ (fun _ _ _ => False) (hr.make C [] [(y, u)]) (I2.env0.make C [] [(y, u)]) (hb _ _ _) (.cons rfl (.cons ru .nil)) hsp) fun r s' z => ?_))
  have := made_end (Q := Q) T hx I1 q1 I2 z
  cases r with
  | error er => exact this
  | ok fl => cases fl <;> exact this
/-- C(), without an own __init__ -/
theorem pe_mkB {bmB : List Value} {B newId initId : String} (F : ExcBaseFacts B newId initId bmB) (q : excIn X.K C bmB newId = true) (gC : X.mg x = some (.ref C)) (kC : keepIn X.K (.ref C) = true) (hg : Gl X x) (hdb : (x == ("__debug__" : Str)) = false) :
    PE X (.Call (.Name x p) [] [] pos) (fun σ H Q => ∀ a, H a = none → Q (.ref a) (upd H a (exo a C none))) := by
  refine ⟨fun pins s σ H Q I h => ?_⟩
  refine wpAny_Call_Name_kw (ld_glob I hg gC ?_ hdb)
  refine PySem.W.callWith_K0 I.kIn kC ?_
  obtain ⟨bm, N, nm, qn, bs, hdct, sn, sub, ab, col, dd, k0, k1, k2, k3, k5, mN, hC, hN, hni, T⟩ := exc_obj I.kIn q
  refine wpAny_call_exc_subT F T hC hN hni (fun h' a hm => ?_) (by exact Nat.zero_le _)
  have hn : H a = none := I.hok.gone hm.new
  obtain ⟨t, ht, _, _⟩ := hm.there
  exact ⟨.ref a, upd H a (exo a C none), I.laidN hm.keeps hm.new hn (exo_ok ht), rfl, h a hn⟩
/-- an exception of the class at C stands at a -/
def XAt (H : Hp) (a C : Addr) : Prop := H a = some (exo a C none) ∨ ∃ d fs, H a = some (exo a C (some d)) ∧ H d = some (exd d fs)
theorem XAt.inst {pins : List (Addr × Obj)} {σ : L2.St} {H : Hp} {s : Shared} {a : Addr} (I : L2.Inv X pins σ H s) (z : XAt H a C) : ∃ ox od, InstAt s.heap a ox C od := by
  rcases z with z | ⟨d, fs, z, zd⟩
  · obtain ⟨t1, ho⟩ := exo_at I.hok z
    exact ⟨_, none, ho, rfl, rfl, trivial⟩
  · obtain ⟨t1, ho⟩ := exo_at I.hok z
    obtain ⟨mA, hns, _⟩ := exd_at I.hok zd
    obtain ⟨od, hd, _⟩ := lookIn_ns hns
    exact ⟨_, some od, ho, rfl, rfl, hd⟩
theorem excKit {K : PySem.W.Frag} {a : Addr} {ox : Obj} {od : Option Obj} (E : ExcC K C) : KitX K (.ref a) (.ref C) (fun h => InstAt h a ox C od) := by
  obtain ⟨cd, hc, _⟩ := any_some E.hd
  exact kitx_exc (by rw [hc]; rfl) E.hg E.hk E.hs E.ha E.hn E.ht E.hm
/-- isinstance(x, c), x such a value -/
def rIsX (K : PySem.W.Frag) : List V → Hp → VK → Prop := fun xs H Q => ∃ (a C : Addr) (c : V) (u : Value) (b : Bool), xs = [.ref a, c] ∧ ClsV c u ∧ ExcC K C ∧ XAt H a C ∧ kitOne K (.ref C) u = some b ∧ Q (.bl b) H
theorem call_isX : CallR X (.builtin "isinstance") (rIsX X.K) := by
  intro pins s σ H xs us Q I r h
  obtain ⟨a, C, c, u, b, rfl, k, E, ex, e, q⟩ := h
  obtain ⟨u1, u2, rfl, r1, r2⟩ := vals2 r
  have e2 := k.eq r2
  subst e2
  cases (show u1 = Value.ref a from r1)
  obtain ⟨ox, od, J⟩ := ex.inst I
  exact kia_one (excKit E) I.kIn J e (fun z => nomatch z) fun tk => ⟨.bl b, H, I.tok tk, rfl, q⟩
def rIsXT (K : PySem.W.Frag) : List V → Hp → VK → Prop := fun xs H Q => ∃ (a C tp : Addr) (cs : List V) (us : List Value) (b : Bool), xs = [.ref a, .ref tp] ∧ H tp = some (.tup cs) ∧ Paired ClsV cs us ∧ ExcC K C ∧ XAt H a C ∧ kitAny K (.ref C) us = some b ∧ Q (.bl b) H
theorem call_isXT : CallR X (.builtin "isinstance") (rIsXT X.K) := by
  intro pins s σ H xs us Q I r h
  obtain ⟨a, C, tp, cs, ws, b, rfl, hT, k, E, ex, e, q⟩ := h
  obtain ⟨u1, u2, rfl, r1, r2⟩ := vals2 r
  cases (show u1 = Value.ref a from r1)
  cases (show u2 = Value.ref tp from r2)
  obtain ⟨ox, od, J⟩ := ex.inst I
  obtain ⟨_, its, rv, o, h1, h2, n, h3⟩ := (show ObjOk X.prog X.w H s.heap tp (.tup cs) from I.hok tp _ hT)
  have e3 := ClsV.all k rv
  subst e3
  obtain ⟨oc, od', dt, sl⟩ := o
  simp only at h2 h3
  subst h2 h3
  exact kia_tup (excKit E) I.kIn J h1 e (fun z => nomatch z) fun tk => ⟨.bl b, H, I.tok tk, rfl, q⟩
/-- e.f of such a value -/
def tXv (K : PySem.W.Frag) (f : Str) (te : TE) : TE := fun σ H Q => te σ H fun x H1 => ∃ (a C d : Addr) (fs : List (Str × V)) (v : V), x = .ref a ∧ XfC K C ∧ findIn K (.ref C) f = some none ∧ H1 a = some (exo a C (some d)) ∧ H1 d = some (exd d fs) ∧ fs.lookup f = some v ∧ Q v H1
theorem pe_xv {te : TE} {n : Str} (he : PE X e te) (hb : attributeBase e n X.env (eval e X.env) = eval e X.env) : PE X (.Attribute e n pos) (tXv X.K n te) := by
  refine ⟨fun pins s σ H Q I h => ?_⟩
  refine attr_of hb (thn (he.run pins s σ H _ I h) fun u s1 hh => ?_)
  obtain ⟨x, H1, I1, rx, a, C, d, fs, v, ex, T, hno, ea, ed, l, q⟩ := hh
  subst ex
  obtain rfl : u = Value.ref a := rx
  obtain ⟨t1, ho⟩ := exo_at I1.hok ea
  obtain ⟨mA, hns, hr⟩ := exd_at I1.hok ed
  obtain ⟨od, hod, hl⟩ := lookIn_ns hns
  obtain ⟨u, hu, ru⟩ := RelO.some_of (v := v) (o := mA n) (by rw [← l]; exact hr n)
  have J : InstAt s1.heap a _ C (some od) := ⟨ho, rfl, rfl, hod⟩
  exact HandSPX.exc_get I1.kIn J T.ga T.gg T.exC (findObj_own T.hdC hno rfl (by rw [hl, hu])) (handed_of ru) ⟨v, H1, I1.tok _, ru, q⟩
end
end XE
end
section
set_option Elab.async false
set_option linter.all false
set_option maxRecDepth 100000
set_option maxHeartbeats 2000000
/-! Defs that are run while no repr is under way: the rules of calls, of a def's body and of the end, with that known. -/
namespace L2
open PySem PySem.Spec PyProof.Rows
structure FnOkG (P : Program) (w : World) (K : PySem.W.Frag) (mg : Str → Option Value) (base : Heap) (CX : CXT) (k : Nat) (f : Addr) (fd : FuncData) (ps : List Str) (sp : Sp) : Prop where
  len : ∀ vs H Q E, sp vs H Q E → vs.length = ps.length
  run : ∀ (A : Around) (outer : List Env) (s : Shared) (H : Hp) (args : Args) (us : List Value) (vs : List V) (Q : VK) (E : XK), A.guards = some [] → Room k A → Env0 P w K mg base A outer s H → BindsTo s fd args (ps.zip us) → Vals vs us → sp vs H Q E →
    codeAny (model P w) A (.call (.ref f) args) (CR CX outer P w H s Q E) s
theorem FnOkG.of {P : Program} {w : World} {K : PySem.W.Frag} {mg : Str → Option Value} {base : Heap} {CX : CXT} {k : Nat} {f : Addr} {fd : FuncData} {ps : List Str} {sp : Sp} (F : FnOk P w K mg base CX k f fd ps sp) : FnOkG P w K mg base CX k f fd ps sp :=
  ⟨F.len, fun A outer s H args us vs Q E _ => F.run A outer s H args us vs Q E⟩
theorem g_deeper {A : Around} {env : Env} (h : A.guards = some []) : (A.deeper env).guards = some [] := h
theorem g_make {A : Around} {C : Addr} {us : List Value} {kw : List (Str × Value)} (h : A.guards = some []) : (A.under (.builtin "type.__call__" ⟨.ref C :: us, kw⟩)).guards = some [] := by
  first | exact h | simpa [Around.under, Code.guards, Code.isGuard, pushGuards] using h
section
variable {X : Cx} {CX : CXT} {k : Nat} {f C : Addr} {fd : FuncData} {ps : List Str} {sp : Sp} {dvs : List V} {ds : List Value} {E : XK} {x m : Str} {p pos apos : Pos} {e o : Expr} {es : List Expr} {ta : TE} {t : TA}
/-- the callee runs -/
theorem run_fnG {pins : List (Addr × Obj)} {σ : St} {H : Hp} {s : Shared} {Q : VK} {us : List Value} {vs : List V} (gd : X.A.guards = some []) (F : FnOkG X.prog X.w X.K X.mg X.base CX k f fd ps sp) (hr : Room k X.A) (hb : Binds X.K fd ps ds) (hd : Vals dvs ds) (hx : Passes CX X E)
    (I : Inv X pins σ H s) (r : Vals vs us) (h : sp (vs ++ dvs) H Q E) : wpAny (model X.prog X.w) X.A (call (.ref f) us) (EP X pins σ Q) X.xe s := by
  have r2 : Vals (vs ++ dvs) (us ++ ds) := r.append hd
  have hl : (us ++ ds).length = ps.length := by rw [← r2.length]; exact F.len _ _ _ _ h
  refine wpAny_call (codeAny_mono (F.run X.A X.stack s H ⟨us, []⟩ (us ++ ds) (vs ++ dvs) Q E gd hr I.env0 (hb s us I.kIn hl) r2 h) fun r s' hq => ?_)
  cases r with
  | error e => exact hx pins σ H s e s' I hq
  | ok fl =>
    cases fl with
    | ret u => exact I.after hq
    | next => exact False.elim hq
    | brk => exact False.elim hq
    | cont => exact False.elim hq

theorem pe_callG (gd : X.A.guards = some []) (F : FnOkG X.prog X.w X.K X.mg X.base CX k f fd ps sp) (hr : Room k X.A) (hg : Gl X x) (hm : X.mg x = some (.ref f)) (hk : PySem.W.keepIn X.K (.ref f) = true) (hb : Binds X.K fd ps ds) (hd : Vals dvs ds) (hx : Passes CX X E)
    (ha : PA X (e :: es) t) (hdb : (x == ("__debug__" : Str)) = false := by decide) (he : starEach (e :: es) X.env = (false, eval e X.env) :: starEach es X.env := by rfl) (hpl : (backTo pos (starEach es X.env)).any (·.1) = false := by rfl) :
    PE X (.Call (.Name x p) (e :: es) [] pos) (tCall sp dvs E t) := by
  refine ⟨fun pins s σ H Q I h => ?_⟩
  refine wpAny_Call_Name_kw (ld_glob I hg hm ?_ hdb)
  refine PySem.W.callWith_K (h₀ := X.base) I.ok.mod.kin hk (thn (ha.run pos pins s σ H _ I h) fun us s1 ⟨vs, H1, I1, r, q⟩ => ⟨I1.kIn, ?_⟩) he hpl
  exact run_fnG gd F hr hb hd hx I1 r q
theorem pe_call0G (gd : X.A.guards = some []) (F : FnOkG X.prog X.w X.K X.mg X.base CX k f fd ps sp) (hr : Room k X.A) (hg : Gl X x) (hm : X.mg x = some (.ref f)) (hk : PySem.W.keepIn X.K (.ref f) = true) (hb : Binds X.K fd ps ds) (hd : Vals dvs ds) (hx : Passes CX X E)
    (hdb : (x == ("__debug__" : Str)) = false := by decide) : PE X (.Call (.Name x p) [] [] pos) (tCall sp dvs E tNil) := by
  refine ⟨fun pins s σ H Q I h => ?_⟩
  refine wpAny_Call_Name_kw (ld_glob I hg hm ?_ hdb)
  exact PySem.W.callWith_K0 I.kIn hk (run_fnG (us := []) gd F hr hb hd hx I .nil h)

/-- o.m(e, ..) -/
theorem pe_methG {pl : Sem Bool} (he : PE X o ta) (c : Cls X.K C) (hm : Meth X.K C m f) (gd : X.A.guards = some []) (F : FnOkG X.prog X.w X.K X.mg X.base CX k f fd ps sp) (hr : Room k X.A) (hb : Binds X.K fd ps ds) (hd : Vals dvs ds) (hx : Passes CX X E) (ha : PA X (e :: es) t)
    (hst : starEach (e :: es) X.env = (false, eval e X.env) :: starEach es X.env := by rfl) (hpl : (backTo pos (starEach es X.env)).any (·.1) = false := by rfl)
    (ht : eval (.Call (.Attribute o m apos) (e :: es) [] pos) X.env = (do
      let ov ← eval o X.env
      standAt apos.atName
      let (f, first) ← holding [ov] (getMethod ov m pl)
      callWith pos f first (backTo pos (starEach (e :: es) X.env)) (backToKw pos (keywordEach [] X.env))) := by rfl) :
    PE X (.Call (.Attribute o m apos) (e :: es) [] pos) (tMeth C m sp dvs E ta t) := by
  refine ⟨fun pins s σ H Q I h => ?_⟩
  refine PySem.W.methodCall_KW (pl := pl) (thn (he.run pins s σ H _ I h) fun u s1 ⟨x, H1, I1, rx, a, dx, fs, ex, ea, l, q⟩ => ?_) ht
  subst ex
  obtain rfl : u = Value.ref a := rx
  refine getmeth_ok I1 ea c hm l ?_
  refine PySem.W.callWith_K (first := [.ref a]) (h₀ := X.base) I.ok.mod.kin hm.kp (thn (ha.run pos pins s1 σ H1 _ I1 q) fun us s2 ⟨vs, H2, I2, r, q2⟩ => ⟨I2.kIn, ?_⟩) hst hpl
  exact run_fnG (us := .ref a :: us) (vs := .ref a :: vs) gd F hr hb hd hx I2 (.cons rfl r) q2
/-- o.m() -/
theorem pe_meth0G {pl : Sem Bool} (he : PE X o ta) (c : Cls X.K C) (hm : Meth X.K C m f) (gd : X.A.guards = some []) (F : FnOkG X.prog X.w X.K X.mg X.base CX k f fd ps sp) (hr : Room k X.A) (hb : Binds X.K fd ps ds) (hd : Vals dvs ds) (hx : Passes CX X E)
    (ht : eval (.Call (.Attribute o m apos) [] [] pos) X.env = (do
      let ov ← eval o X.env
      standAt apos.atName
      let (f, first) ← holding [ov] (getMethod ov m pl)
      callWith pos f first (backTo pos (starEach [] X.env)) (backToKw pos (keywordEach [] X.env))) := by rfl) :
    PE X (.Call (.Attribute o m apos) [] [] pos) (tMeth C m sp dvs E ta tNil) := by
  refine ⟨fun pins s σ H Q I h => ?_⟩
  refine PySem.W.methodCall_KW (pl := pl) (thn (he.run pins s σ H _ I h) fun u s1 ⟨x, H1, I1, rx, a, dx, fs, ex, ea, l, q⟩ => ?_) ht
  subst ex
  obtain rfl : u = Value.ref a := rx
  refine getmeth_ok I1 ea c hm l ?_
  exact PySem.W.callWith_K0 (first := [.ref a]) I1.kIn hm.kp (run_fnG (us := [.ref a]) (vs := [.ref a]) gd F hr hb hd hx I1 (.cons rfl .nil) q)

theorem run_makeG {pins : List (Addr × Obj)} {σ : St} {H : Hp} {s : Shared} {Q : VK} {us : List Value} {vs : List V} (M : Mk X.K C f) (gd : X.A.guards = some []) (F : FnOkG X.prog X.w X.K X.mg X.base CX k f fd ps sp) (hr : Room (k + 1) X.A) (hb : Binds X.K fd ps ds) (hd : Vals dvs ds)
    (hx : Passes CX X E) (I : Inv X pins σ H s) (r : Vals vs us)
    (h : ∀ x dx, H x = none → H dx = none → dx ≠ x → sp (.ref x :: (vs ++ dvs)) (upd (upd H dx (.own x)) x (.ins C dx [])) (fun v H2 => v = .non ∧ Q (.ref x) H2) E) :
    wpAny (model X.prog X.w) X.A (call (.ref C) us) (EP X pins σ Q) X.xe s := by
  have hq := h (s.heap.objs.size + 1) s.heap.objs.size (I.hok.fresh (Nat.le_succ _)) (I.hok.fresh (Nat.le_refl _)) (Nat.ne_of_lt (Nat.lt_succ_self _))
  have I2 := Inv.made (C := C) I
  have r2 : Vals (V.ref (s.heap.objs.size + 1) :: (vs ++ dvs)) (Value.ref (s.heap.objs.size + 1) :: (us ++ ds)) := .cons rfl (r.append hd)
  have hl : (Value.ref (s.heap.objs.size + 1) :: us ++ ds).length = ps.length := by
    have e := r2.length
    rw [F.len _ _ _ _ hq] at e
    exact e.symm
  refine wpAny_call (make_map (f := f) I.kIn M.makes M.init (beq_iff_eq.mp M.fn) (codeAny_mono (F.run _ X.stack _ _ ⟨Value.ref (s.heap.objs.size + 1) :: us, []⟩ (Value.ref (s.heap.objs.size + 1) :: (us ++ ds)) _ _ E (g_make gd) (hr.make C us [])
    (I2.env0.make C us []) (hb _ (Value.ref (s.heap.objs.size + 1) :: us) I2.kIn hl) r2 hq) fun r s' hq' => ?_))
  cases r with
  | error e => exact hx pins σ _ _ e s' I2 hq'
  | ok fl =>
    cases fl with
    | ret u =>
      obtain ⟨v, H', I3, rv, ev, q3⟩ := I2.after hq'
      subst ev
      exact ⟨rv, ⟨V.ref (s.heap.objs.size + 1), H', I3, rfl, q3⟩⟩
    | next => exact False.elim hq'
    | brk => exact False.elim hq'
    | cont => exact False.elim hq'
theorem pe_makeG (M : Mk X.K C f) (gd : X.A.guards = some []) (F : FnOkG X.prog X.w X.K X.mg X.base CX k f fd ps sp) (hr : Room (k + 1) X.A) (hg : Gl X x) (hm : X.mg x = some (.ref C)) (hb : Binds X.K fd ps ds) (hd : Vals dvs ds) (hx : Passes CX X E)
    (ha : PA X (e :: es) t) (hdb : (x == ("__debug__" : Str)) = false := by decide) (he : starEach (e :: es) X.env = (false, eval e X.env) :: starEach es X.env := by rfl) (hpl : (backTo pos (starEach es X.env)).any (·.1) = false := by rfl) :
    PE X (.Call (.Name x p) (e :: es) [] pos) (tMake C sp dvs E t) := by
  refine ⟨fun pins s σ H Q I h => ?_⟩
  refine wpAny_Call_Name_kw (ld_glob I hg hm ?_ hdb)
  refine PySem.W.callWith_K (h₀ := X.base) I.ok.mod.kin M.kp (thn (ha.run pos pins s σ H _ I h) fun us s1 ⟨vs, H1, I1, r, q⟩ => ⟨I1.kIn, ?_⟩) he hpl
  exact run_makeG M gd F hr hb hd hx I1 r q
theorem pe_make0G (M : Mk X.K C f) (gd : X.A.guards = some []) (F : FnOkG X.prog X.w X.K X.mg X.base CX k f fd ps sp) (hr : Room (k + 1) X.A) (hg : Gl X x) (hm : X.mg x = some (.ref C)) (hb : Binds X.K fd ps ds) (hd : Vals dvs ds) (hx : Passes CX X E)
    (hdb : (x == ("__debug__" : Str)) = false := by decide) : PE X (.Call (.Name x p) [] [] pos) (tMake C sp dvs E tNil) := by
  refine ⟨fun pins s σ H Q I h => ?_⟩
  refine wpAny_Call_Name_kw (ld_glob I hg hm ?_ hdb)
  exact PySem.W.callWith_K0 I.kIn M.kp (run_makeG (us := []) M gd F hr hb hd hx I .nil h)
end
section
variable {X : Cx} {CX : CXT} {k : Nat} {f : Addr} {fd : FuncData} {ps ks : List Str} {sp : Sp} {E : XK} {x : Str} {p pos : Pos} {e : Expr} {es : List Expr} {kws : List Keyword} {t tk : TA} {pm : List Nat} {m : Nat}
theorem run_fnKNG {pins : List (Addr × Obj)} {σ : St} {H : Hp} {s : Shared} {Q : VK} {us ws : List Value} {vs zs : List V} (gd : X.A.guards = some []) (F : FnOkG X.prog X.w X.K X.mg X.base CX k f fd ps sp) (hr : Room k X.A) (hb : ∀ (s : Shared) (us ws : List Value), us.length = m → ws.length = ks.length → BindsTo s fd ⟨us, ks.zip ws⟩ (ps.zip (pmV pm us ws))) (hx : Passes CX X E)
    (I : Inv X pins σ H s) (r : Vals vs us) (rz : Vals zs ws) (l1 : vs.length = m) (l2 : zs.length = ks.length) (h : sp (pmV pm vs zs) H Q E) : wpAny (model X.prog X.w) X.A (call (.ref f) us (ks.zip ws)) (EP X pins σ Q) X.xe s := by
  have r2 := r.pm rz pm
  refine wpAny_call (codeAny_mono (F.run X.A X.stack s H ⟨us, ks.zip ws⟩ (pmV pm us ws) (pmV pm vs zs) Q E gd hr I.env0 (hb s us ws (by rw [← r.length]; exact l1) (by rw [← rz.length]; exact l2)) r2 h) fun r s' hq => ?_)
  cases r with
  | error e => exact hx pins σ H s e s' I hq
  | ok fl =>
    cases fl with
    | ret u => exact I.after hq
    | next => exact False.elim hq
    | brk => exact False.elim hq
    | cont => exact False.elim hq
theorem pe_callKNG (gd : X.A.guards = some []) (F : FnOkG X.prog X.w X.K X.mg X.base CX k f fd ps sp) (hr : Room k X.A) (hg : Gl X x) (hm : X.mg x = some (.ref f)) (hk : PySem.W.keepIn X.K (.ref f) = true) (hb : ∀ (s : Shared) (us ws : List Value), us.length = m → ws.length = ks.length → BindsTo s fd ⟨us, ks.zip ws⟩ (ps.zip (pmV pm us ws))) (hx : Passes CX X E)
    (ha : PA X (e :: es) t) (hkw : PK X kws tk) (hall : (backToKw pos (keywordEach kws X.env)).all (·.1.isSome) = true) (hks : (backToKw pos (keywordEach kws X.env)).filterMap (·.1) = ks)
    (hdb : (x == ("__debug__" : Str)) = false) (he : starEach (e :: es) X.env = (false, eval e X.env) :: starEach es X.env)
    (hpl : ((backTo pos (starEach (e :: es) X.env)).any (·.1) || (backToKw pos (keywordEach kws X.env)).any (·.1.isNone)) = false) :
    PE X (.Call (.Name x p) (e :: es) kws pos) (tCallKN m ks.length pm sp E t tk) := by
  refine ⟨fun pins s σ H Q I h => ?_⟩
  refine wpAny_Call_Name_kw (ld_glob I hg hm ?_ hdb)
  refine PySem.W.callWith_KW (h₀ := X.base) I.ok.mod.kin hk hall (thn (ha.run pos pins s σ H _ I h) fun us s1 ⟨vs, H1, I1, r, q⟩ => ?_) hpl he
  refine thn (hkw.run pos pins s1 σ H1 _ I1 q) fun ws s2 ⟨zs, H2, I2, rz, l1, l2, q2⟩ => ⟨I2.kIn, ?_⟩
  rw [hks]
  exact run_fnKNG gd F hr hb hx I2 r rz l1 l2 q2
theorem pe_callKN0G (gd : X.A.guards = some []) (F : FnOkG X.prog X.w X.K X.mg X.base CX k f fd ps sp) (hr : Room k X.A) (hg : Gl X x) (hm : X.mg x = some (.ref f)) (hk : PySem.W.keepIn X.K (.ref f) = true) (hb : ∀ (s : Shared) (us ws : List Value), us.length = m → ws.length = ks.length → BindsTo s fd ⟨us, ks.zip ws⟩ (ps.zip (pmV pm us ws))) (hx : Passes CX X E)
    (hkw : PK X kws tk) (hall : (backToKw pos (keywordEach kws X.env)).all (·.1.isSome) = true) (hks : (backToKw pos (keywordEach kws X.env)).filterMap (·.1) = ks)
    (hdb : (x == ("__debug__" : Str)) = false) (hpl : ((backTo pos (starEach [] X.env)).any (·.1) || (backToKw pos (keywordEach kws X.env)).any (·.1.isNone)) = false) :
    PE X (.Call (.Name x p) [] kws pos) (tCallKN m ks.length pm sp E tNil tk) := by
  refine ⟨fun pins s σ H Q I h => ?_⟩
  refine wpAny_Call_Name_kw (ld_glob I hg hm ?_ hdb)
  refine PySem.W.callWith_KW0 (h₀ := X.base) I.ok.mod.kin hk hall ?_ hpl
  refine thn (hkw.run pos pins s σ H _ I h) fun ws s2 ⟨zs, H2, I2, rz, l1, l2, q2⟩ => ⟨I2.kIn, ?_⟩
  rw [hks]
  exact run_fnKNG (us := []) (vs := []) gd F hr hb hx I2 .nil rz l1 l2 q2
end
/-- THE RULE: a def (or a method) of the text, by its body. The body's reading t is chosen for each entry; it is run at the parameters' values -/
theorem fn_ofG {CX : CXT} {P : Program} {w : World} {K : PySem.W.Frag} {mg : Str → Option Value} {base : Heap} {k : Nat} {f : Addr} {name qual : Str} {params : Arguments} {body : List Stmt} {scope : Scope} {dV kV doc pm cdv ct oc : Value} {an od : Option Addr}
    {osl : Array (Option Value)} {N ps : List Str} {sp : Sp} (lk : K.lookup f = some ⟨oc, od, .func (PySem.W.fnOf name qual params body scope dV kV doc pm an cdv ct), osl⟩) (hcd : PySem.W.codeIn K cdv qual = true) (S : FnScope N ps scope)
    (len : ∀ vs H Q E, sp vs H Q E → vs.length = ps.length)
    (hbody : ∀ (A : Around) (outer : List Env) (s : Shared) (H : Hp) (vs : List V) (Q : VK) (E : XK), A.guards = some [] → Room k (A.deeper (envOfC qual scope s.heap.objs.size f cdv)) → sp vs H Q E →
      ∃ t, PSs (cxOf CX P w K mg base N qual scope f cdv A outer s H E) body t ∧ t { nx := fun _ H' => Q .non H', rt := Q } (L2.start N vs) H) :
    FnOkG P w K mg base CX (k + 1) f (PySem.W.fnOf name qual params body scope dV kV doc pm an cdv ct) ps sp := by
  refine ⟨len, fun A outer s H args us vs Q E gd hr e0 hb r hsp => ?_⟩
  have hl := len _ _ _ _ hsp
  have KX : K.In s.heap := e0.mod.kin.keeps fun b o e => (e0.bs b o e).1
  have lim : s.heap.NoLimit := e0.mod.nolimit.keeps fun b o e => (e0.bs b o e).1
  have hkind : ∀ y ∈ ps.zip us, scope.names.lookup y.1 = some .local ∨ (scope.names.lookup y.1 = some .cell ∧ ((cellsFrom (s.heap.objs.size + 1) scope.names []).lookup y.1).isSome = true) := fun ⟨n, v⟩ hy => by
    rcases S.par n (List.of_mem_zip hy).1 with q | q
    · exact .inl q
    · exact .inr ⟨q, PySem.W.cellsFrom_some _ _ _ (.inl q)⟩
  refine codeAny_call_function hr.depth (KX _ _ lk) rfl S.co S.gen rfl (PySem.W.codeRec_of KX hcd) (hb _ _ _ _ ?_)
  refine wpAny_newFunctionEnv_cells S.kind hkind fun env he s1 x => ?_
  subst he
  refine ⟨lim.keeps x.toInCall.keep, codeAny_func ?_⟩
  obtain ⟨t, ht, hq⟩ := hbody A outer s H vs Q E gd (hr.deeper _) hsp
  have I : Inv (cxOf CX P w K mg base N qual scope f cdv A outer s H E) [] (L2.start N vs) H s1 := inv_start S hr.hd e0 hl r x
  refine wpAny_mono (ht.run [] s1 (L2.start N vs) H _ I hq) (fun fl s' hs => ?_) fun e s' hs => hs
  have fin : ∀ {σ' : St} {H' : Hp} {v : V} {u : Value}, Inv (cxOf CX P w K mg base N qual scope f cdv A outer s H E) [] σ' H' s' → RelV v u → Q v H' → CE outer P w H s Q u s' :=
    fun {σ' H' v u} J rv q => ⟨v, H', J.os, J.bare, J.base, J.hok, rv, q⟩
  cases fl with
  | ret u =>
    obtain ⟨v, σ', H', J, rv, q⟩ := hs
    exact fin J rv q
  | next =>
    obtain ⟨σ', H', J, q⟩ := hs
    exact fin (v := V.non) (u := Value.none) J rfl q
  | brk =>
    obtain ⟨_, _, _, q⟩ := hs
    exact False.elim q
  | cont =>
    obtain ⟨_, _, _, q⟩ := hs
    exact False.elim q
open LamX in
/-- law_call with tables: cs, the code objects and their tables -/
theorem law_callTsG {P : Program} {w : World} {K : PySem.W.Frag} {mg mb : Str → Option Value} {CX : CXT} {k : Nat} {fa a : Addr} {cs : List (Addr × Addr)} {fd : FuncData} {x : Str} {sp : Sp} {s₁ : Shared} {vs : List Value} {ns : List Int}
    (KX : K.In s₁.heap) (hns : s₁.heap.Ns mainGlobals mg) (hb : s₁.heap.Ns builtinsNs mb) (hbb : ∀ x : Str, x ≠ "__name__" → mb x = bootBuiltins x) (hlim : s₁.heap.NoLimit) (hg : s₁.gens = #[])
    (hT : ∀ p ∈ cs, s₁.heap.get? p.2 = some { cls := .none, data := .fields #[] }) (nT : ∀ p ∈ cs, K.lookup p.2 = none) (C : ∀ p ∈ cs, PySem.W.CodeHd s₁.heap p.1 p.2)
    (hbm : ∃ (bm : Addr) (ob : Obj), mg "__builtins__" = some (.ref bm) ∧ bm ≠ builtinsNs ∧ s₁.heap.get? bm = some ob ∧ ob.cls = .type "module" ∧ ob.dict = some builtinsNs ∧ ob.data = .plain)
    (ha : s₁.heap.get? a = some { cls := .type "list", data := .seq vs.toArray }) (hi : IntsAre vs ns) (hl : ns.length ≤ sizeLine) (hr : Room k callerA)
    (F : ∀ base : Heap, K.In base → base.Ns mainGlobals mg → (∀ p ∈ cs, TabB base mg p.1 p.2) → FnOkG P w K mg base CX k fa fd [x] sp) (hbind : ∀ (s : Shared) (u : Value), BindsTo s fd ⟨[u], []⟩ [(x, u)])
    (hsp : ∀ H : Hp, (∀ p ∈ cs, H p.2 = some (.tbl #[])) → SqL K H a (ns.map V.int) → sp [.ref a] H (fun v _ => v = .bl true) fun _ _ _ => False)
    (hCX : ∀ H e s', CX [] H s₁ (fun _ _ _ => False) e s' → False) :
    codeAny (model P w) callerA (.call (.ref fa) ⟨[.ref a], []⟩) (fun r s' => r = .ok (.ret (.bool true)) ∧ OldK s₁.heap s'.heap ∧ s'.os = s₁.os ∧ AllBare s'.gens) s₁ := by
  have rv := vals_ints hi
  have lenV := hi.length
  have isT : ∀ b : Addr, b ∈ cs.map (·.2) → s₁.heap.get? b = some { cls := .none, data := .fields #[] } := fun b hb => by
    obtain ⟨p, hp, e⟩ := List.mem_map.mp hb
    rw [← e]
    exact hT p hp
  have aT : a ∉ cs.map (·.2) := fun z => by
    have q := isT a z
    rw [ha] at q
    have z' : Data.seq vs.toArray _ = Data.fields #[] := congrArg Obj.data (Option.some.inj q)
    cases z'
  have memT : ∀ p ∈ cs, p.2 ∈ cs.map (·.2) := fun p hp => List.mem_map.mpr ⟨p, hp, rfl⟩
  -- from an abstract heap in which nothing but the script and the tables may be tracked
  have core : ∀ H : Hp, (∀ p ∈ cs, H p.2 = some (.tbl #[])) → (∀ b, H b = none ∨ b ∈ cs.map (·.2) ∨ ∃ o xs, H b = some (.frz o (.lst xs))) → SqL K H a (ns.map V.int) → HOk P w H s₁.heap → (∀ b, H b ≠ none → b = a ∨ b ∈ cs.map (·.2)) → (H a ≠ none → K.lookup a = none) →
      codeAny (model P w) callerA (.call (.ref fa) ⟨[.ref a], []⟩) (fun r s' => r = .ok (.ret (.bool true)) ∧ OldK s₁.heap s'.heap ∧ s'.os = s₁.os ∧ AllBare s'.gens) s₁ := by
    intro H hH hO hS hok hA hK
    have base_of : ∀ {b : Addr} {o : Obj}, s₁.heap.get? b = some o → H b = none → (hidT s₁.heap H).get? b = some o := fun e n => hidT_get e n
    have noD : ∀ {b : Addr} {o : Obj}, s₁.heap.get? b = some o → (∀ vs n, o.data ≠ .seq vs n) → o.data ≠ .fields #[] → H b = none := fun {b o} e h1 h2 => by
      cases q : H b with
      | none => rfl
      | some u =>
        rcases hA b (by rw [q]; simp) with e' | e'
        · rw [e', ha] at e
          cases e
          exact (h1 _ _ rfl).elim
        · rw [isT b e'] at e
          cases e
          exact (h2 rfl).elim
    have noA : ∀ {b : Addr} {o : Obj} {es : Array DictEntry} {ep : Nat}, s₁.heap.get? b = some o → o.data = .dict es ep → H b = none := fun {b o es ep} e d => by
      refine noD e (fun vs n z => ?_) fun z => ?_
      · rw [d] at z
        cases z
      · rw [d] at z
        cases z
    have nsK : ∀ {b : Addr} {m : Str → Option Value}, s₁.heap.Ns b m → (hidT s₁.heap H).Ns b m := fun {b m} ⟨o, es, ep, e, d, r⟩ => ⟨o, es, ep, base_of e (noA e d), d, r⟩
    have hKb : K.In (hidT s₁.heap H) := fun b o e => base_of (KX b o e) (by
      cases q : H b with
      | none => rfl
      | some u =>
        rcases hA b (by rw [q]; simp) with e' | e'
        · rw [e'] at e q
          rw [hK (by rw [q]; simp)] at e
          cases e
        · obtain ⟨p, hp, ep⟩ := List.mem_map.mp e'
          rw [← ep, nT p hp] at e
          cases e)
    have hM : L2.Mod K mg (hidT s₁.heap H) := ⟨hKb, nsK hns, ⟨mb, nsK hb, hbb⟩, let ⟨mc, h1, h2⟩ := hlim; ⟨mc, nsK h1, h2⟩⟩
    have TB : ∀ p ∈ cs, TabB (hidT s₁.heap H) mg p.1 p.2 := fun p hp => by
      have hTp := hT p hp
      refine ⟨?_, ?_, fun z => ?_⟩
      · obtain ⟨o, us, file, tf, flags, tg, inF, text, tt, e1, r1, r2, r3, r4, r5, r6, r7, r8, hne⟩ := C p hp
        refine ⟨o, us, file, tf, flags, tg, inF, text, tt, base_of e1 (noD e1 (fun vs n z => ?_) fun z => ?_), r1, r2, r3, r4, r5, r6, r7, r8, hne⟩
        · rw [r2] at z
          cases z
        · rw [r2] at z
          cases z
          simp at r3
      · obtain ⟨bm, ob, b1, b2, b3, b4, b5, b6⟩ := hbm
        have nG : bm ≠ mainGlobals := fun q => by
          obtain ⟨o, es, ep, e, hd, _⟩ := hns
          rw [q, e] at b3
          cases b3
          rw [hd] at b6
          cases b6
        have nP : bm ≠ p.2 := fun q => by
          rw [q, hTp] at b3
          cases b3
          cases b6
        refine ⟨bm, ob, b1, b2, nG, nP, base_of b3 (noD b3 (fun vs n z => ?_) fun z => ?_), b4, b5, b6⟩
        · rw [b6] at z
          cases z
        · rw [b6] at z
          cases z
      · obtain ⟨o, es, ep, e, hd, _⟩ := hns
        rw [z, hTp] at e
        cases e
        cases hd
    have e0 : Env0 P w K mg (hidT s₁.heap H) callerA [] s₁ H := ⟨rfl, hM, fun b o e => of_hidT e, Nat.le_of_eq (hidT_size _ _), trivial, fun b hb => absurd (show b ∈ ([] : List Addr) from hb) (by simp), hok, .of_eq hg⟩
    refine codeAny_mono ((F _ hKb (nsK hns) TB).run callerA [] s₁ H ⟨[.ref a], []⟩ [.ref a] [.ref a] _ _ rfl hr e0 (hbind s₁ (.ref a)) (.cons rfl .nil) (hsp H hH hS)) fun r s' h => ?_
    cases r with
    | error e => exact (hCX H e s' h).elim
    | ok fl =>
      cases fl with
      | next => exact False.elim h
      | brk => exact False.elim h
      | cont => exact False.elim h
      | ret u =>
        obtain ⟨v, H', os, bare, un, hok', r', q⟩ := h
        have q' : v = .bl true := q
        subst q'
        obtain rfl : u = Value.bool true := r'
        have key : ∀ b o, b ∉ cs.map (·.2) → s₁.heap.get? b = some o → s'.heap.get? b = some o := fun b o nb e => by
          cases q : H b with
          | none => exact un.keep b o e q (by intro z; exact absurd (show b ∈ ([] : List Addr) from z) (by simp)) (by simp)
          | some u =>
            rcases hO b with z | z | ⟨ob, xs, z⟩
            · rw [q] at z; cases z
            · exact absurd z nb
            · have z2 := un.frzs b ob _ z
              obtain ⟨e1, _⟩ := hok b _ z
              obtain ⟨e2, _⟩ := hok' b _ z2
              rw [e] at e1; cases e1
              exact e2
        have grown : ∀ p ∈ cs, ∃ more : Array Value, s'.heap.get? p.2 = some { cls := .none, data := .fields more } := fun p hp => by
          obtain ⟨more, z⟩ := un.tbls p.2 #[] (hH p hp)
          exact ⟨_, hok' p.2 _ z⟩
        refine ⟨rfl, ⟨fun b o e => ?_, fun b o e => ?_⟩, os, bare⟩
        · by_cases hb : b ∈ cs.map (·.2)
          · obtain ⟨p, hp, ep⟩ := List.mem_map.mp hb
            obtain ⟨more, hm⟩ := grown p hp
            rw [← ep] at e ⊢
            rw [hT p hp] at e
            cases e
            exact .inr (.inl ⟨((C p hp).tab (hT p hp)).isCodeTable, rfl, #[], more, rfl, by rw [Array.empty_append]; exact hm⟩)
          · exact .inl (key b o hb e)
        · by_cases hb : b ∈ cs.map (·.2)
          · obtain ⟨p, hp, ep⟩ := List.mem_map.mp hb
            obtain ⟨more, hm⟩ := grown p hp
            rw [← ep]
            exact ⟨_, hm⟩
          · exact ⟨o, key b o hb e⟩
  cases hk : K.lookup a with
  | some o =>
    have e := KX a o hk
    rw [ha] at e
    cases e
    refine core (fun b => if b ∈ cs.map (·.2) then some (.tbl #[]) else none) (fun p hp => if_pos (memT p hp)) (fun b => ?_) (.inr ⟨_, vs.toArray, _, hk, rfl, rfl, rfl, by rw [List.size_toArray, lenV]; exact hl, by simpa using rv⟩) (fun b u z => ?_) (fun b z => ?_) fun z => absurd (show (if a ∈ cs.map (·.2) then some (HO.tbl #[]) else none) = none from if_neg aT) z
    · by_cases hb : b ∈ cs.map (·.2)
      · exact .inr (.inl hb)
      · exact .inl (if_neg hb)
    · by_cases hb : b ∈ cs.map (·.2)
      · have z' := (if_pos hb).symm.trans z
        cases z'
        exact isT b hb
      · have z' := (if_neg hb).symm.trans z
        cases z'
    · by_cases hb : b ∈ cs.map (·.2)
      · exact .inr hb
      · exact absurd (if_neg hb) z
  | none =>
    refine core (fun b => if b = a then some (.frz { cls := .type "list", data := .seq vs.toArray } (.lst (ns.map V.int))) else if b ∈ cs.map (·.2) then some (.tbl #[]) else none) (fun p hp => (if_neg (show ¬ p.2 = a from fun z => aT (by rw [← z]; exact memT p hp))).trans (if_pos (memT p hp))) (fun b => ?_)
      (.inl (.inr ⟨{ cls := .type "list", data := .seq vs.toArray }, if_pos rfl⟩)) (fun b u z => ?_) (fun b z => ?_) fun _ => hk
    · by_cases hb : b = a
      · exact .inr (.inr ⟨_, _, if_pos hb⟩)
      · by_cases hb2 : b ∈ cs.map (·.2)
        · exact .inr (.inl hb2)
        · exact .inl ((if_neg hb).trans (if_neg hb2))
    · by_cases hb : b = a
      · have z' := (if_pos hb).symm.trans z
        cases z'
        rw [hb]
        exact ⟨ha, by rw [List.length_map]; exact hl, vs, _, rv, ha⟩
      · have z1 := (if_neg hb).symm.trans z
        by_cases hb2 : b ∈ cs.map (·.2)
        · have z' := (if_pos hb2).symm.trans z1
          cases z'
          exact isT b hb2
        · have z' := (if_neg hb2).symm.trans z1
          cases z'
    · by_cases hb : b = a
      · exact .inl hb
      · by_cases hb2 : b ∈ cs.map (·.2)
        · exact .inr hb2
        · exact absurd ((if_neg hb).trans (if_neg hb2)) z
open LamX in
/-- what is known of the law's promise at the head's heap h -/
def LawAtG (l : PySem.W.OpenLaw) (w : World) (K : PySem.W.Frag) (CX : CXT) (k n : Nat) (x : Str) (mg : Str → Option Value) (fa : Addr) (h : Heap) : Prop :=
  ∃ (fd : FuncData) (cs : List (Addr × Addr)) (sp : Sp), (∀ p ∈ cs, h.get? p.2 = some { cls := .none, data := .fields #[] }) ∧ (∀ p ∈ cs, K.lookup p.2 = none) ∧ (∀ p ∈ cs, PySem.W.CodeHd h p.1 p.2) ∧ (∀ (s : Shared) (u : Value), BindsTo s fd ⟨[u], []⟩ [(x, u)]) ∧
    (∀ (H : Hp) (a : Addr) (ns : List Int), ns.length ≤ n → (∀ z ∈ ns, Builtin.Int.intBits z ≤ 1048576) → (∀ p ∈ cs, H p.2 = some (.tbl #[])) → SqL K H a (ns.map V.int) → sp [.ref a] H (fun v _ => v = .bl true) fun _ _ _ => False) ∧
    ∀ base : Heap, K.In base → base.Ns mainGlobals mg → (∀ p ∈ cs, TabB base mg p.1 p.2) → FnOkG l.prog w K mg base CX k fa fd [x] sp
open LamX in
theorem walk_ofTsEG {l : PySem.W.OpenLaw} {n k : Nat} {q : Program} {loose : List Str} {XP : (Str → Option Value) → Heap → Prop} {YP : World → Heap → Prop} {d : DefRec} {CX : World → CXT} {x : Str}
    (hn : l.most = some n) (hn2 : n ≤ sizeLine) (hdf : d.params.defaults = []) (hr : Room k callerA)
    (F : ∀ (w : World) (mg : Str → Option Value) (fa : Addr) (h : Heap), YP w h → h.Ns mainGlobals mg → mg d.name = some (.ref fa) → ∃ K : PySem.W.Frag, K.In h ∧ LawAtG l w K (CX w) k n x mg fa h)
    (hCX : ∀ (w : World) (H : Hp) (s : Shared) (e : Value) (s' : Shared), CX w [] H s (fun _ _ _ => False) e s' → False) :
    PySem.W.WalkO q loose XP YP l.row.toRowW d [] (fun f vs => PySem.call f vs) := by
  refine Att.attach_callB hn hdf fun w s₀ s₁ mg mb fa o pm cd doc a vs ns G Y ho hd hcd hmg hobj hints hlen hbits hg => ?_
  obtain ⟨K, KX, fd, cs, sp, hT, nT, C, hb, hsp, hF⟩ := F w mg fa _ Y G.T.g hmg
  exact law_callTsG KX G.T.g G.T.b G.T.builtins G.T.nolimit hg hT nT C G.T.bmain hobj hints (Nat.le_trans hlen hn2) hr hF hb (fun H hH hS => hsp H a ns hlen hbits hH hS) fun H e s' => hCX w H s₁ e s'
end L2
end
section
set_option Elab.async false
set_option linter.all false
set_option maxRecDepth 100000
set_option autoImplicit false
/-! Exceptions as data: made, read, asked; list(range(n)). -/
namespace DL
open PySem PySem.Spec PyProof.Rows L2 XE
section
variable {X : Cx} {ξ : XP} {K : PySem.W.Frag}
/-- C(e), C(f = e) -/
def dMkV (c f : String) (t : DTA) : DTE := fun τ G P => t τ G fun ds G1 => ∃ v, ds = [v] ∧ P (.xo c f v) G1
theorem lift_mkV {c f : String} (t : DTA) : ∀ σ H Q, liftE K ξ (dMkV c f t) σ H Q → tMkV (He.ga K c) (Str.ofString f) (liftA K ξ t) σ H Q :=
  fun σ H Q ⟨τ, G, P, rs, rl, p, k⟩ => ⟨τ, G, _, rs, rl, p, fun ds G1 vs H1 z r1 f1 ⟨dv, e, p1⟩ => by
    subst e
    obtain ⟨v, rfl, zv⟩ := repL_one.mp z
    refine ⟨v, rfl, fun a d ha hd ne => ?_⟩
    have ⟨r2, f2⟩ := r1.1.aside (u := exd d [(Str.ofString f, v)]) hd
    have ha2 : upd H1 d (exd d [(Str.ofString f, v)]) a = none := by rw [upd_ne (fun z => ne z.symm)]; exact ha
    have ⟨r3, f3⟩ := r2.aside (u := exo a (He.ga K c) (some d)) ha2
    have fr := f2.trans f3
    exact k _ _ _ _ (rep_xo.mpr ⟨a, d, v, rfl, upd_same, by rw [upd_ne ne]; exact upd_same, zv.mono (fr.keeps r1.1)⟩) (r1.to r3 fr) (f1.trans fr) p1⟩
/-- C() -/
def dMkB (c : String) : DTE := fun _ G P => P (.xb c) G
theorem lift_mkB {c : String} : ∀ σ H Q, liftE K ξ (dMkB c) σ H Q → ∀ a, H a = none → Q (.ref a) (upd H a (exo a (He.ga K c) none)) :=
  fun σ H Q ⟨τ, G, P, rs, rl, p, k⟩ a ha => by
    have ⟨r2, f2⟩ := rl.1.aside (u := exo a (He.ga K c) none) ha
    exact k _ _ _ _ (rep_xb.mpr ⟨a, rfl, upd_same⟩) (rl.to r2 f2) f2 p
/-- e.f -/
def dXfld (cs : List (String × String)) (f : String) (te : DTE) : DTE := fun τ G P => te τ G fun x G1 => ∃ c v, x = .xo c f v ∧ (c, f) ∈ cs ∧ P v G1
theorem lift_xfld {cs : List (String × String)} {f : String} (te : DTE) (h : ∀ c, (c, f) ∈ cs → XfC K (He.ga K c) ∧ PySem.W.findIn K (.ref (He.ga K c)) (Str.ofString f) = some none) :
    ∀ σ H Q, liftE K ξ (dXfld cs f te) σ H Q → tXv K (Str.ofString f) (liftE K ξ te) σ H Q :=
  fun σ H Q ⟨τ, G, P, rs, rl, p, k⟩ => ⟨τ, G, _, rs, rl, p, fun x G1 v H1 z r1 f1 ⟨c, dv, e, hm, p1⟩ => by
    subst e
    obtain ⟨a, d, w, rfl, h1, h2, zw⟩ := rep_xo.mp z
    obtain ⟨g1, g2⟩ := h c hm
    exact ⟨a, _, d, _, w, rfl, g1, g2, h1, h2, by rw [List.lookup_cons, beq_self_eq_true], k _ _ _ _ zw r1 f1 p1⟩⟩
/-! isinstance -/
def xcls : DV → Option String
  | .xo c _ _ => some c
  | .xb c => some c
  | _ => none
def xisa (sub : List (String × String)) (c : String) : TN → Bool
  | .o d => c == d || sub.contains (c, d)
  | .b n => n == "Exception"
theorem xcls_at {G : DH} {H : Hp} {d : DV} {v : V} {c : String} (h : xcls d = some c) (z : Rep K H d v) : ∃ a, v = .ref a ∧ XAt H a (He.ga K c) := by
  cases d with
  | xo c' f x =>
    cases h
    obtain ⟨a, d, w, rfl, h1, h2, _⟩ := rep_xo.mp z
    exact ⟨a, rfl, .inr ⟨d, _, h1, h2⟩⟩
  | xb c' =>
    cases h
    obtain ⟨a, rfl, h1⟩ := rep_xb.mp z
    exact ⟨a, rfl, .inl h1⟩
  | _ => cases h
def dXisi (cl : List String) (sub : List (String × String)) (ts : List TN) (te : DTE) : DTE := fun τ G P => te τ G fun x G1 => ∃ c, xcls x = some c ∧ c ∈ cl ∧ P (.bl (ts.any (xisa sub c))) G1
theorem lift_xisi {cl : List String} {sub : List (String × String)} {t : TN} {cv : V} (te : DTE) (h : ∀ c ∈ cl, ExcC K (He.ga K c)) (hT : ∀ c ∈ cl, PySem.W.kitOne K (.ref (He.ga K c)) (t.v K) = some (xisa sub c t)) (hcv : ClsV cv (t.v K)) :
    ∀ σ H Q, liftE K ξ (dXisi cl sub [t] te) σ H Q → liftE K ξ te σ H fun x H1 => rIsX K [x, cv] H1 Q :=
  fun σ H Q ⟨τ, G, P, rs, rl, p, k⟩ => ⟨τ, G, _, rs, rl, p, fun x G1 v H1 z r1 f1 ⟨c, hc, hm, p1⟩ => by
    obtain ⟨a, rfl, hx⟩ := xcls_at (G := G1) hc z
    refine ⟨a, _, cv, _, _, rfl, hcv, h c hm, hx, hT c hm, k _ G1 _ H1 (rep_bl.mpr ?_) r1 f1 p1⟩
    rw [List.any_cons, List.any_nil, Bool.or_false]⟩
theorem kitAny_all {f : TN → Bool} {t : Value} : ∀ {ts : List TN}, (∀ x ∈ ts, PySem.W.kitOne K t (x.v K) = some (f x)) → PySem.W.kitAny K t (ts.map fun x => x.v K) = some (ts.any f)
  | [], _ => rfl
  | x :: ts, h => by
    rw [List.map_cons, List.any_cons]
    exact kitAny_cons (h x (List.mem_cons_self ..)) (fun e => by rw [e, Bool.false_or]; exact kitAny_all fun y hy => h y (List.mem_cons_of_mem _ hy)) (fun e => by rw [e]; rfl)
/-- the tuple of the classes stands -/
theorem lift_xisiT {cl : List String} {sub : List (String × String)} {ts : List TN} {cvs : List V} (te : DTE) (hl : ts.length ≤ sizeLine) (h : ∀ c ∈ cl, ExcC K (He.ga K c)) (hT : ∀ c ∈ cl, ∀ t ∈ ts, PySem.W.kitOne K (.ref (He.ga K c)) (t.v K) = some (xisa sub c t)) (hcv : Paired ClsV cvs (ts.map fun x => x.v K)) :
    ∀ σ H Q, liftE K ξ (dXisi cl sub ts te) σ H Q → liftE K ξ te σ H fun x H1 => cvs.length ≤ sizeLine ∧ ∀ p, H1 p = none → rIsXT K [x, .ref p] (upd H1 p (.tup cvs)) Q :=
  fun σ H Q ⟨τ, G, P, rs, rl, p, k⟩ => ⟨τ, G, _, rs, rl, p, fun x G1 v H1 z r1 f1 ⟨c, hc, hm, p1⟩ => by
    refine ⟨by have := hcv.length; rw [List.length_map] at this; omega, fun q hq => ?_⟩
    have ⟨r2, f2⟩ := r1.1.aside (u := .tup cvs) hq
    obtain ⟨a, rfl, hx⟩ := xcls_at (G := G1) hc (z.mono (f2.keeps r1.1))
    exact ⟨a, _, q, cvs, _, _, rfl, upd_same, hcv, h c hm, hx, kitAny_all (hT c hm), k _ G1 _ _ (rep_bl.mpr rfl) (r1.to r2 f2) (f1.trans f2) p1⟩⟩
/-! list(range(e)) -/
def dLrng (te : DTE) : DTE := fun τ G P => te τ G fun x G1 => ∃ n : Nat, x = .int n ∧ n ≤ 2 ^ 20 ∧ ∀ p, G1 p = none → P (.ref p) (updD G1 p (.lst ((List.range n).map fun i => .int (i : Nat))))
theorem lift_lrng (te : DTE) : ∀ σ H Q, liftE K ξ (dLrng te) σ H Q → tLstRg (tRg1 (liftE K ξ te)) σ H Q :=
  fun σ H Q ⟨τ, G, P, rs, rl, p, k⟩ => ⟨τ, G, _, rs, rl, p, fun x G1 v H1 z r1 f1 ⟨n, e, hn, p1⟩ => by
    subst e
    refine ⟨n, rep_int.mp z, RgOk.of_le (by omega) (by omega) (by omega) (by omega), fun q hq => ?_⟩
    have e : rgV 0 (n : Int) = ((List.range n).map fun i : Nat => ((i : Nat) : Int)).map V.int := by
      unfold rgV
      rw [List.map_map]
      have : (((n : Int) - 0).toNat) = n := by omega
      rw [this]
      apply List.map_congr_left
      intro i _
      simp
    have e2 : ((List.range n).map fun i => DV.int (i : Nat)) = ((List.range n).map fun i : Nat => ((i : Nat) : Int)).map DV.int := by
      rw [List.map_map]; rfl
    rw [e]
    have ⟨r2, f2⟩ := r1.1.new (p := q) (u := .lst (((List.range n).map fun i : Nat => ((i : Nat) : Int)).map V.int)) (o := .lst ((List.range n).map fun i => .int (i : Nat))) hq ⟨_, upd_same, by rw [e2]; exact RepL.ints.mpr rfl⟩
    exact k _ _ _ _ (rep_ref.mpr rfl) (r1.to r2 f2) (f1.trans f2) (p1 q (r1.1.fresh hq))⟩
end
end DL
end
section
set_option Elab.async false
set_option linter.all false
set_option maxRecDepth 100000
set_option autoImplicit false
namespace DL
open PySem PySem.Spec PyProof.Rows L2
/-! ### a test by a condition -/
def dIteT (t ta tb : DTT) : DTT := fun τ G K => t τ G fun c G1 => if c = true then ta τ G1 K else tb τ G1 K
theorem dt_ite {X : Cx} {ξ : XP} {c a b : Expr} {tA ta tb : DTT} {pos : Pos} (hc : DT X ξ c tA) (ha : DT X ξ a ta) (hb : DT X ξ b tb) : DT X ξ (.IfExp c a b pos) (dIteT tA ta tb) := ⟨fun pins s σ H Q I q => by
  rw [arm_isTrue_IfExp]
  obtain ⟨τ, G, P, rs, rl, p, k⟩ := q
  have h := lift_ifT (α := Unit) (A' := fun H1 => liftT X.K ξ ta σ H1 Q) (B' := fun H1 => liftT X.K ξ tb σ H1 Q) tA rs rl p
    (fun G1 H1 r1 f1 p1 => ⟨τ, G1, P, rs.mono (f1.keeps rl.1), r1, p1, fun d G2 H2 r2 f2 p2 => k d G2 H2 r2 (f1.trans f2) p2⟩)
    (fun G1 H1 r1 f1 p1 => ⟨τ, G1, P, rs.mono (f1.keeps rl.1), r1, p1, fun d G2 H2 r2 f2 p2 => k d G2 H2 r2 (f1.trans f2) p2⟩)
  refine wpAny_bind (wpAny_mono (hc.run pins s σ H _ I h) (fun d s1 ⟨H1, I1, q1⟩ => ?_) fun _ _ x => x)
  cases d with
  | true => exact ha.run pins s1 σ H1 Q I1 q1
  | false => exact hb.run pins s1 σ H1 Q I1 q1⟩
/-! ### the language -/
inductive BO | add | sub | mul | fdiv | mod | pow
inductive CO | eq | ne | lt | le | gt | ge | is | nis | inn | nin
inductive BF | len | int | str | max | min | list | tuple | all | any | sorted | dict | repr
inductive BM | append | extend | pop | get
inductive IK | seq | rng1 | rng2 | zip | enum
inductive DX where
  | v (i : Nat) | int (i : Int) | bl (b : Bool) | non | str (s : String) | g (i : Nat)
  | bin (o : BO) (a b : DX) | neg (a : DX) | cmp (o : CO) (a b : DX) | chain (o o' : CO) (a b c : DX)
  | not (a : DX) | and (xs : List DX) | or (xs : List DX) | ite (c a b : DX)
  | ix (a b : DX) | sl0 (a : DX) | slL (a lo : DX) | slH (a hi : DX) | slLH (a lo hi : DX) | rev (a : DX)
  | tup (xs : List DX) | lst (xs : List DX) | dct (ks vs : List DX)
  | call (x : String) (f n : Nat) (xs : List DX) | bf (b : BF) (xs : List DX) | bm (b : BM) (o : DX) (xs : List DX)
  | own (c m : String) (f n : Nat) (o : DX) (xs : List DX) | mk (x c : String) (f n : Nat) (xs : List DX)
  | isi (x : String) (c : TN) (a : DX) | fld (f : String) (a : DX)
  | lc (vs : List Nat) (tg : Tg) (ik : IK) (it : List DX) (cs : List DX) (e : DX)
  | dc (vs : List Nat) (tg : Tg) (ik : IK) (it : List DX) (cs : List DX) (k e : DX)
  | xtup (xs : List DX) | fg (a : DX) | callK (x : String) (f n m : Nat) (pm : List Nat) (ps ks : List String) (xs kxs : List DX) | kget (x : String) (e : DX) | lzip (xs : List DX) | lam (i : Nat) | callV (i : Nat) (xs : List DX)
  | mkx (x c f : String) (i : Nat) (kw : Bool) (a : DX) | mkb (x c : String) | xfld (f : String) (a : DX) | xisi (tp : Bool) (ns : List (String × TN)) (a : DX) | lrng (a : DX)
  | never
inductive DY where
  | asg (tg : Tg) (e : DX) | par2 (i j : Nat) (a b : DX) | par3 (i j l : Nat) (a b c : DX) | set (o i e : DX) | tset (o i : DX) (n : Nat) (a b : DX) | fset (o : DX) (f : String) (e : DX)
  | expr (e : DX) | ret (e : DX) | retN | ifs (c : DX) (a b : List DY) | for_ (tg : Tg) (ik : IK) (it : List DX) (body : List DY) | whl (c : DX) (body : List DY)
  | pass | brk | cont | doc | never
/-! ### the module's names -/
structure GT where
  free : List String := []
  vals : List (String × DV) := []
  fns : List (String × Nat × Nat) := []
  mks : List (String × String × Nat × Nat) := []
  mets : List (String × String × Nat × Nat) := []
  flds : List (String × String) := []
  clss : List (String × TN) := []
  tys : List TN := []
  sub : List (String × String) := []
  kds : List (String × List (String × DV)) := []
  kfns : List (String × Nat × List String) := []
  lams : LamL := []
  xks : List (String × String × String × Nat) := []
  xbs : List (String × String) := []
  xcl : List String := []
  xns : List (String × TN) := []
  xsub : List (String × String) := []
  xfs : List (String × String) := []
def GT.clsOf (T : GT) (f : String) : List String := (T.flds.filter fun p => p.2 == f).map (·.1)
/-! ### what it computes -/
def boR : BO → DR2
  | .add => dAdd | .sub => dSub | .mul => dMul | .fdiv => dFdiv | .mod => dMod | .pow => dPow
def coR : CO → DR2
  | .eq => dEq | .ne => dNe | .lt => dLt | .le => dLe | .gt => dGt | .ge => dGe | .is => dIs false | .nis => dIs true | .inn => dIn false | .nin => dIn true
def dNeg : DR1 := fun x G P => ∃ i, x = .int i ∧ P (.int (-i)) G
def bfD : BF → DRC
  | .len => dLen | .int => dInt | .str => dStrI | .max => dMax2 | .min => dMin2 | .list => dListOf | .tuple => dTupOf | .all => dAll | .any => dAny | .sorted => dSorted | .dict => dDict | .repr => dRepr
def bmT : BM → String
  | .append | .extend | .pop => "list" | .get => "dict"
def bmD : BM → DRM
  | .append => dAppend | .extend => dExtend | .pop => dPop | .get => dGet
def dFalseE : DTE := fun _ _ _ => False
def dFalseT : DTT := fun _ _ _ => False
def dIter : IK → List DTE → DTA → DTI
  | .seq, [e], _ => dSeqI e
  | .seq, _, _ => fun _ _ _ => False
  | .rng1, _, t => dRng1 t
  | .rng2, _, t => dRng2 t
  | .zip, _, t => dZip t
  | .enum, _, t => dEnum t
/-- a new list, by data -/
def dRev (te : DTE) : DTE := fun τ G P => te τ G fun x G1 => match x with
  | .tup xs => P (.tup xs.reverse) G1
  | x => ∃ xs, (∀ ys, x ≠ .tup ys) ∧ seqD G1 x = some xs ∧ ∀ p, G1 p = none → P (.ref p) (updD G1 p (.lst xs.reverse))
def dCallKN (m l n : Nat) (pm : List Nat) (S : DSp) (EX : DXK) (t tk : DTA) : DTE := fun τ G P => t τ G fun ds G1 => tk τ G1 fun zs G2 => ds.length = m ∧ zs.length = l ∧ (pmV pm ds zs).length = n ∧ S (pmV pm ds zs) G2 P EX
def kdAt (kvs : List (String × DV)) (z : Str) : Option DV := (kvs.find? fun p => decide (Str.ofString p.1 = z)).map (·.2)
def dKget (kvs : Option (List (String × DV))) (te : DTE) : DTE := fun τ G P => te τ G fun y G1 => ∃ z l, y = .str z ∧ kvs = some l ∧ P ((kdAt l z).getD .non) G1
def EX0 : DXK := fun _ _ _ => False
mutual
def den (T : GT) (C : Nat → DSp) : DXK → DX → DTE
  | _, .v i => dVar i
  | _, .int i => dC (.int i)
  | _, .bl b => dC (.bl b)
  | _, .non => dC .non
  | _, .str s => dC (.str (Str.ofString s))
  | _, .g i => match T.vals[i]? with
    | some p => dC p.2
    | none => dFalseE
  | E, .bin o a b => dOp (boR o) (den T C E a) (den T C E b)
  | E, .neg a => dOp1 dNeg (den T C E a)
  | E, .cmp o a b => dOp (coR o) (den T C E a) (den T C E b)
  | E, .chain o o' a b c => dChain (coR o) (coR o') (den T C E a) (den T C E b) (den T C E c)
  | E, .not a => dNotV (den T C E a)
  | E, .and xs => denAnd T C E xs
  | E, .or xs => denOr T C E xs
  | E, .ite c a b => dIte (denT T C E c) (den T C E a) (den T C E b)
  | E, .ix a b => dOp dIx (den T C E a) (den T C E b)
  | E, .sl0 a => dSl (den T C E a) dNoPart dNoPart
  | E, .slL a lo => dSl (den T C E a) (dPart (den T C E lo)) dNoPart
  | E, .slH a hi => dSl (den T C E a) dNoPart (dPart (den T C E hi))
  | E, .slLH a lo hi => dSl (den T C E a) (dPart (den T C E lo)) (dPart (den T C E hi))
  | E, .rev a => dRev (den T C E a)
  | E, .tup xs => dTup (denA T C E xs)
  | E, .lst xs => dLst (denA T C E xs)
  | E, .dct ks vs => match ks with
    | [] => dNewK
    | _ :: _ => dDisp ((denL T C E ks).zip (denL T C E vs))
  | E, .xtup xs => dXTup (denA T C E xs)
  | E, .fg a => dFg (den T C E a)
  | E, .callK _ f n m pm _ ks xs kxs => dCallKN m ks.length n pm (C f) E (denA T C E xs) (denA T C E kxs)
  | E, .lzip xs => dLzip (denA T C E xs)
  | _, .lam i => match T.lams[i]? with
    | some p => dLam p.1
    | none => dFalseE
  | E, .callV i xs => dCallF T.lams C E i (denA T C E xs)
  | E, .kget x e => dKget (T.kds.lookup x) (den T C E e)
  | E, .call _ f n xs => dCall n (C f) E (denA T C E xs)
  | E, .bf b xs => dCB (bfD b) (denA T C E xs)
  | E, .bm b o xs => dBM (bmT b) (bmD b) (den T C E o) (denA T C E xs)
  | E, .own c m f n o xs => dOwn c m n (C f) E (den T C E o) (denA T C E xs)
  | E, .mk _ c f n xs => dMk c n (C f) E (denA T C E xs)
  | E, .isi _ c a => dIsi T.tys T.sub c (den T C E a)
  | E, .fld f a => dFld (T.clsOf f) f (den T C E a)
  | E, .lc vs tg ik it cs e => dLc (dIter ik (denL T C E it) (denA T C E it)) tg (denC T C EX0 cs) (den T C EX0 e) vs
  | E, .dc vs tg ik it cs k e => dDc (dIter ik (denL T C E it) (denA T C E it)) tg (denC T C EX0 cs) (den T C EX0 k) (den T C EX0 e) vs
  | E, .mkx _ c f _ _ a => dMkV c f (dCons (den T C E a) dNil)
  | _, .mkb _ c => dMkB c
  | E, .xfld f a => dXfld T.xfs f (den T C E a)
  | E, .xisi _ ns a => dXisi T.xcl T.xsub (ns.map (·.2)) (den T C E a)
  | E, .lrng a => dLrng (den T C E a)
  | _, .never => dFalseE
def denA (T : GT) (C : Nat → DSp) : DXK → List DX → DTA
  | _, [] => dNil
  | E, x :: xs => dCons (den T C E x) (denA T C E xs)
def denL (T : GT) (C : Nat → DSp) : DXK → List DX → List DTE
  | _, [] => []
  | E, x :: xs => den T C E x :: denL T C E xs
def denAnd (T : GT) (C : Nat → DSp) : DXK → List DX → DTE
  | _, [] => dFalseE
  | E, x :: xs => match xs with
    | [] => den T C E x
    | _ :: _ => dAndV (den T C E x) (denAnd T C E xs)
def denOr (T : GT) (C : Nat → DSp) : DXK → List DX → DTE
  | _, [] => dFalseE
  | E, x :: xs => match xs with
    | [] => den T C E x
    | _ :: _ => dOrV (den T C E x) (denOr T C E xs)
def denT (T : GT) (C : Nat → DSp) : DXK → DX → DTT
  | E, .not a => dNotT (denT T C E a)
  | E, .and xs => denAndT T C E xs
  | E, .or xs => denOrT T C E xs
  | E, .cmp o a b => dTest (dOp (coR o) (den T C E a) (den T C E b))
  | E, .chain o o' a b c => dTest (dChain (coR o) (coR o') (den T C E a) (den T C E b) (den T C E c))
  | E, .ite c a b => dIteT (denT T C E c) (denT T C E a) (denT T C E b)
  | _, .never => dFalseT
  | _, .v i => dTest (dVar i)
  | _, .bl b => dTest (dC (.bl b))
  | E, .call _ f n xs => dTest (dCall n (C f) E (denA T C E xs))
  | E, .callK _ f n m pm _ ks xs kxs => dTest (dCallKN m ks.length n pm (C f) E (denA T C E xs) (denA T C E kxs))
  | E, .own c m f n o xs => dTest (dOwn c m n (C f) E (den T C E o) (denA T C E xs))
  | E, .bf b xs => dTest (dCB (bfD b) (denA T C E xs))
  | E, .isi _ c a => dTest (dIsi T.tys T.sub c (den T C E a))
  | E, .fld f a => dTest (dFld (T.clsOf f) f (den T C E a))
  | E, .xisi _ ns a => dTest (dXisi T.xcl T.xsub (ns.map (·.2)) (den T C E a))
  | E, .ix a b => dTest (dOp dIx (den T C E a) (den T C E b))
  | E, .callV i xs => dTest (dCallF T.lams C E i (denA T C E xs))
  | _, _ => dFalseT
def denAndT (T : GT) (C : Nat → DSp) : DXK → List DX → DTT
  | _, [] => dFalseT
  | E, x :: xs => match xs with
    | [] => denT T C E x
    | _ :: _ => dAndT (denT T C E x) (denAndT T C E xs)
def denOrT (T : GT) (C : Nat → DSp) : DXK → List DX → DTT
  | _, [] => dFalseT
  | E, x :: xs => match xs with
    | [] => denT T C E x
    | _ :: _ => dOrT (denT T C E x) (denOrT T C E xs)
def denC (T : GT) (C : Nat → DSp) : DXK → List DX → DTT
  | _, [] => dYes
  | E, x :: xs => match xs with
    | [] => denT T C E x
    | _ :: _ => dFalseT
end
mutual
def denS (T : GT) (C : Nat → DSp) (E : DXK) : DY → DTS
  | .asg tg e => dAsg tg (den T C E e)
  | .par2 i j a b => dPar i j (denA T C E [a, b])
  | .par3 i j l a b c => fun D τ G => denA T C E [a, b, c] τ G fun ds G1 => ∃ x y z, ds = [x, y, z] ∧ D.nx (((τ.set i (some x)).set j (some y)).set l (some z)) G1
  | .set o i e => dSetS (den T C E o) (den T C E i) (den T C E e)
  | .tset o i n a b => dTset (den T C E o) (den T C E i) n (denA T C E [a, b])
  | .fset o f e => dFldS (T.clsOf f) f (den T C E o) (den T C E e)
  | .expr e => dDrop (den T C E e)
  | .ret e => dRet (den T C E e)
  | .retN => dRetN
  | .ifs c a b => dIf (denT T C E c) (denSs T C E a) (denSs T C E b)
  | .for_ tg ik it body => dFor (dIter ik (denL T C E it) (denA T C E it)) tg (denSs T C E body)
  | .whl c body => dWhile (denT T C E c) (denSs T C E body)
  | .pass => dNext
  | .brk => dBreak
  | .cont => dCont
  | .doc => dNext
  | .never => dNever
def denSs (T : GT) (C : Nat → DSp) (E : DXK) : List DY → DTS
  | [] => dNext
  | s :: ss => dSeq (denS T C E s) (denSs T C E ss)
end
end DL
end
section
set_option Elab.async false
set_option linter.all false
set_option maxRecDepth 100000
set_option autoImplicit false
namespace DL
open PySem PySem.Spec PyProof.Rows L2
/-! ### the text against the language -/
structure SC where
  N : List Str
  sc : Scope
  fn : Str → Bool
  q : Str := ""
  lam : Bool := false
def SC.blk (S : SC) (scope : Scope) : SC := { N := S.N, sc := relS scope S.sc, fn := fun x => scope.names.lookup x == some .cell }
def visB (sc : Scope) (x : Str) : Bool := match sc.names.lookup x with
  | some .local | some .cell | some .free => true
  | _ => false
def glB (sc : Scope) (x : Str) : Bool := decide (sc.names.lookup x = some .globalImplicit)
def locB (S : SC) (x : Str) : Bool := match S.sc.names.lookup x with
  | some .local => true
  | some .cell => S.fn x
  | _ => false
def isN (x : Str) (s : String) : Bool := decide (x = Str.ofString s)
def noDbg (x : Str) : Bool := !(x == ("__debug__" : Str)) && !(x == ("__classdict__" : Str)) && !decide (x = ("__name__" : Str))
def boOp : BO → Operator
  | .add => .Add | .sub => .Sub | .mul => .Mult | .fdiv => .FloorDiv | .mod => .Mod | .pow => .Pow
def coOp : CO → CmpOp
  | .eq => .Eq | .ne => .NotEq | .lt => .Lt | .le => .LtE | .gt => .Gt | .ge => .GtE | .is => .Is | .nis => .IsNot | .inn => .In | .nin => .NotIn
def bfN : BF → String
  | .len => "len" | .int => "int" | .str => "str" | .max => "max" | .min => "min" | .list => "list" | .tuple => "tuple" | .all => "all" | .any => "any" | .sorted => "sorted" | .dict => "dict" | .repr => "repr"
def bmN : BM → String
  | .append => "append" | .extend => "extend" | .pop => "pop" | .get => "get"
/-- a name of the module -/
def gN (S : SC) (y : Str) (x : String) : Bool := isN y x && (glB S.sc y && noDbg y)
mutual
def chkTg (S : SC) : Tg → Expr → Bool
  | .n i, .Name x _ => decide (S.N[i]? = some x) && locB S x
  | .t ts, .Tuple es _ _ => chkTgs S ts es
  | _, _ => false
def chkTgs (S : SC) : List Tg → List Expr → Bool
  | [], [] => true
  | t :: ts, e :: es => notStar e && (chkTg S t e && chkTgs S ts es)
  | _, _ => false
end
def isTup : Expr → Bool
  | .Tuple _ _ _ => true
  | _ => false
def itArgs (T : GT) (S : SC) (ik : IK) (t iter : Expr) : Option (List Expr) := match ik with
  | .seq => if notSetD iter && notStar iter then some [iter] else none
  | ik => match iter with
    | .Call (.Name y _) es [] _ => match ik with
      | .rng1 => if es.all notStar && (es.length == 1 && (gN S y "range" && T.free.contains "range")) then some es else none
      | .rng2 => if es.all notStar && (es.length == 2 && (gN S y "range" && T.free.contains "range")) then some es else none
      | .zip => if es.all notStar && (es.length == 2 && (gN S y "zip" && (T.free.contains "zip" && isTup t))) then some es else none
      | .enum => if es.all notStar && (es.length == 1 && (gN S y "enumerate" && (T.free.contains "enumerate" && isTup t))) then some es else none
      | .seq => none
    | _ => none
def ownOf (N : List Str) (vs : List Nat) : List (Str × Nat) := vs.filterMap fun i => (N[i]?).map fun n => (n, i)
def kwNames (kws : List Keyword) : List (Option Str) := kws.map (·.arg)
def kwVals (kws : List Keyword) : List Expr := kws.map (·.value)
/-- the keywords fill the parameters behind the first m -/
def kwB (m n : Nat) (pm : List Nat) (ps ks : List String) : Bool :=
  decide (m ≤ ps.length) && (decide (ps.length = n) && (decide ((ks.map Str.ofString).Nodup) && (decide ((ps.map Str.ofString).drop m = pm.filterMap fun j => (ks.map Str.ofString)[j]?) && (pm.all (fun j => decide (j < ks.length)) && ks.all fun k => decide (Str.ofString k ∈ (ps.map Str.ofString).drop m)))))
def nmsB (S : SC) : List (String × TN) → List Expr → Bool
  | [], [] => true
  | p :: ps, .Name w _ :: es => gN S w p.1 && nmsB S ps es
  | _, _ => false
mutual
def chk (T : GT) : SC → DX → Expr → Bool
  | S, .v i, e => match e with
    | .Name x _ => decide (S.N[i]? = some x) && (visB S.sc x && noDbg x)
    | _ => false
  | _, .int i, e => match e with
    | .Constant (.int j) _ _ => decide (i = j)
    | _ => false
  | _, .bl b, e => match e with
    | .Constant (.bool c) _ _ => b == c
    | _ => false
  | _, .non, e => match e with
    | .Constant .none _ _ => true
    | _ => false
  | _, .str s, e => match e with
    | .Constant (.str x) _ _ => isN x s
    | _ => false
  | S, .g i, e => match e with
    | .Name x _ => (match T.vals[i]? with
      | some p => gN S x p.1
      | none => false)
    | _ => false
  | S, .bin o a b, e => match e with
    | .BinOp l op r _ => decide (op = boOp o) && (chk T S a l && chk T S b r)
    | _ => false
  | S, .neg a, e => match e with
    | .UnaryOp .USub x _ => chk T S a x
    | _ => false
  | S, .cmp o a b, e => match e with
    | .Compare l [op] [r] _ => decide (op = coOp o) && (notSetD r && (chk T S a l && chk T S b r))
    | _ => false
  | S, .chain o o' a b c, e => match e with
    | .Compare l [op, op'] [r, r'] _ => decide (op = coOp o) && (decide (op' = coOp o') && (notSetD r' && (chk T S a l && (chk T S b r && chk T S c r'))))
    | _ => false
  | S, .not a, e => match e with
    | .UnaryOp .Not x _ => chk T S a x
    | _ => false
  | S, .and xs, e => match e with
    | .BoolOp .And es _ => chkA T S xs es
    | _ => false
  | S, .or xs, e => match e with
    | .BoolOp .Or es _ => chkA T S xs es
    | _ => false
  | S, .ite c a b, e => match e with
    | .IfExp z x y _ => chk T S c z && (chk T S a x && chk T S b y)
    | _ => false
  | S, .ix a b, e => match e with
    | .Subscript x y _ => notSlice y && (chk T S a x && chk T S b y)
    | _ => false
  | S, .sl0 a, e => match e with
    | .Subscript x (.Slice none none none _) _ => chk T S a x
    | _ => false
  | S, .slL a lo, e => match e with
    | .Subscript x (.Slice (some y) none none _) _ => chk T S a x && chk T S lo y
    | _ => false
  | S, .slH a hi, e => match e with
    | .Subscript x (.Slice none (some y) none _) _ => chk T S a x && chk T S hi y
    | _ => false
  | S, .slLH a lo hi, e => match e with
    | .Subscript x (.Slice (some y) (some z) none _) _ => chk T S a x && (chk T S lo y && chk T S hi z)
    | _ => false
  | S, .rev a, e => match e with
    | .Subscript x (.Slice none none (some (.UnaryOp .USub (.Constant (.int i) _ _) _)) _) _ => decide (i = 1) && chk T S a x
    | _ => false
  | S, .tup xs, e => match e with
    | .Tuple es _ _ => es.all notStar && chkA T S xs es
    | _ => false
  | S, .lst xs, e => match e with
    | .List es _ => es.all notStar && chkA T S xs es
    | _ => false
  | S, .dct ks vs, e => match e with
    | .Dict keys values _ => decide (keys.length ≤ 15) && (decide (keys.length = values.length) && (decide (ks.length = keys.length) && (match omap id keys with
      | some es => chkA T S ks es && chkA T S vs values
      | none => false)))
    | _ => false
  | S, .xtup xs, e => match e with
    | .Tuple es _ _ => es.all notStar && chkA T S xs es
    | _ => false
  | S, .fg a, e => chk T S a e
  | S, .callK x f n m pm ps ks xs kxs, e => match e with
    | .Call (.Name y _) es kws _ => gN S y x && (T.kfns.contains (x, f, ps) && (es.all notStar && (decide (es.length = m) && (kwB m n pm ps ks && (decide (kwNames kws = ks.map fun k => some (Str.ofString k)) && (chkA T S xs es && chkA T S kxs (kwVals kws)))))))
    | _ => false
  | S, .lzip xs, e => match e with
    | .Call (.Name y _) [.Call (.Name z _) es [] _] [] _ => gN S y "list" && (T.free.contains "list" && (gN S z "zip" && (T.free.contains "zip" && (es.all notStar && (es.length == 2 && chkA T S xs es)))))
    | _ => false
  | S, .lam i, e => match e with
    | .Lambda params body scope _ => (match T.lams[i]? with
      | some p => S.lam && (decide (p.1.q = S.q) && eqLam p.1 params body scope)
      | none => false)
    | _ => false
  | S, .callV i xs, e => match e with
    | .Call (.Name x _) es [] _ => decide (S.N[i]? = some x) && (visB S.sc x && (noDbg x && (es.all notStar && (!es.isEmpty && chkA T S xs es))))
    | _ => false
  | S, .kget x a, e => match e with
    | .Call (.Attribute (.Name y _) g ap) [u] [] p => gN S y x && (isN g "get" && ((T.kds.any fun q => q.1 == x) && (notStar u && ((ap.endLine == p.line) && chk T S a u))))
    | _ => false
  | S, .call x f n xs, e => match e with
    | .Call (.Name y _) es [] _ => gN S y x && (T.fns.contains (x, f, n) && (es.all notStar && chkA T S xs es))
    | _ => false
  | S, .bf b xs, e => match e with
    | .Call (.Name y _) es [] _ => gN S y (bfN b) && (T.free.contains (bfN b) && (es.all notStar && (!es.isEmpty && chkA T S xs es)))
    | _ => false
  | S, .bm b o xs, e => match e with
    | .Call (.Attribute x m ap) es [] p => isN m (bmN b) && (notSuper x && (es.all notStar && (decide (es.length < 30) && ((ap.endLine == p.line) && (chk T S o x && chkA T S xs es)))))
    | _ => false
  | S, .own c m f n o xs, e => match e with
    | .Call (.Attribute x y ap) es [] p => isN y m && (T.mets.contains (c, m, f, n) && (notSuper x && (es.all notStar && (decide (es.length < 30) && ((ap.endLine == p.line) && (chk T S o x && chkA T S xs es))))))
    | _ => false
  | S, .mk x c f n xs, e => match e with
    | .Call (.Name y _) es [] _ => gN S y x && (T.mks.contains (x, c, f, n) && (es.all notStar && chkA T S xs es))
    | _ => false
  | S, .isi x c a, e => match e with
    | .Call (.Name y _) [u, .Name z _] [] _ => gN S y "isinstance" && (T.free.contains "isinstance" && (gN S z x && (T.clss.contains (x, c) && (notStar u && chk T S a u))))
    | _ => false
  | S, .fld f a, e => match e with
    | .Attribute x g _ => isN g f && (notSuper x && chk T S a x)
    | _ => false
  | S, .lc vs tg ik it cs el, e => match e with
    | .ListComp elt [⟨t, iter, ifs, as⟩] scope _ => decide (as = 0) && (blkC S.N S.sc scope (ownOf S.N vs) && (decide ((ownOf S.N vs).map (·.2) = vs) && (tg.vars.all (fun i => decide (i ∈ vs)) && (chkTg (S.blk scope) tg t && (notSetD iter &&
        ((match itArgs T S ik t iter with
          | some es => chkA T S it es
          | none => false) && (chkA T (S.blk scope) cs ifs && chk T (S.blk scope) el elt)))))))
    | _ => false
  | S, .dc vs tg ik it cs k el, e => match e with
    | .DictComp ke elt [⟨t, iter, ifs, as⟩] scope _ => decide (as = 0) && (blkC S.N S.sc scope (ownOf S.N vs) && (decide ((ownOf S.N vs).map (·.2) = vs) && (tg.vars.all (fun i => decide (i ∈ vs)) && (chkTg (S.blk scope) tg t && (notSetD iter &&
        ((match itArgs T S ik t iter with
          | some es => chkA T S it es
          | none => false) && (chkA T (S.blk scope) cs ifs && (chk T (S.blk scope) k ke && chk T (S.blk scope) el elt))))))))
    | _ => false
  | S, .mkx x c f i kw a, e => match e with
    | .Call (.Name y _) es kws _ => gN S y x && (T.xks.contains (x, c, f, i) && (match kw, es, kws with
      | false, [u], [] => notStar u && chk T S a u
      | true, [], [⟨n, u, _⟩] => decide (n = some (Str.ofString f)) && chk T S a u
      | _, _, _ => false))
    | _ => false
  | S, .mkb x c, e => match e with
    | .Call (.Name y _) [] [] _ => gN S y x && T.xbs.contains (x, c)
    | _ => false
  | S, .xfld f a, e => match e with
    | .Attribute x g _ => isN g f && (notSuper x && chk T S a x)
    | _ => false
  | S, .xisi tp ns a, e => match e with
    | .Call (.Name y _) [u, z] [] _ => gN S y "isinstance" && (T.free.contains "isinstance" && (notStar u && (chk T S a u && (ns.all (fun p => T.xns.contains p) && (match tp, z with
      | true, .Tuple es _ _ => decide (ns.length ≤ 100) && nmsB S ns es
      | false, .Name w p => nmsB S ns [.Name w p]
      | _, _ => false)))))
    | _ => false
  | S, .lrng a, e => match e with
    | .Call (.Name y _) [.Call (.Name z _) [u] [] _] [] _ => gN S y "list" && (T.free.contains "list" && (gN S z "range" && (T.free.contains "range" && (notStar u && chk T S a u))))
    | _ => false
  | _, .never, _ => true
def chkA (T : GT) : SC → List DX → List Expr → Bool
  | _, [], es => es.isEmpty
  | S, x :: xs, es => match es with
    | e :: r => chk T S x e && chkA T S xs r
    | [] => false
end
end DL
end
section
set_option Elab.async false
set_option linter.all false
set_option maxRecDepth 100000
set_option autoImplicit false
namespace DL
open PySem PySem.Spec PyProof.Rows L2 XE
/-- what the written part says of the names -/
structure GF (T : GT) (C : Nat → DSp) (j : Nat) (P : Program) (w : World) (K : PySem.W.Frag) (mg : Str → Option Value) (base : Heap) : Prop where
  free : ∀ x ∈ T.free, mg (Str.ofString x) = none
  vals : ∀ (i : Nat) (p : String × DV), T.vals[i]? = some p → ∃ v u, mg (Str.ofString p.1) = some u ∧ RelV v u ∧ Rep K H0 p.2 v
  fns : ∀ x f n, (x, f, n) ∈ T.fns → ∃ a fd ps, mg (Str.ofString x) = some (.ref a) ∧ PySem.W.keepIn K (.ref a) = true ∧ Binds K fd ps [] ∧ FnOkG P w K mg base (L2.CX P w) j a fd ps (spD K n (C f))
  mks : ∀ x c f n, (x, c, f, n) ∈ T.mks → ∃ a fd ps, mg (Str.ofString x) = some (.ref (He.ga K c)) ∧ Mk K (He.ga K c) a ∧ Binds K fd ps [] ∧ FnOkG P w K mg base (L2.CX P w) j a fd ps (spD K n (C f))
  mets : ∀ c m f n, (c, m, f, n) ∈ T.mets → ∃ a fd ps, Cls K (He.ga K c) ∧ Meth K (He.ga K c) (Str.ofString m) a ∧ Binds K fd ps [] ∧ FnOkG P w K mg base (L2.CX P w) j a fd ps (spD K n (C f))
  flds : ∀ c f, (c, f) ∈ T.flds → FldOk K c f
  isi : ∀ x c, (x, c) ∈ T.clss → (match c with | .b n => mg (Str.ofString x) = none ∧ bootBuiltins (Str.ofString x) = some (.type n) | .o cc => mg (Str.ofString x) = some (.ref (He.ga K cc))) ∧
    ∀ t ∈ T.tys, (∀ o, t = .o o → ClsI K o) ∧ PySem.W.kitOne K (t.v K) (c.v K) = some (isa T.sub t c)
  kds : ∀ (x : String) (l : List (String × DV)), T.kds.lookup x = some l → ∃ a es k, mg (Str.ofString x) = some (.ref a) ∧ KDict K w a es k ∧ ∀ z : Str, ∃ r, PySem.W.nsIn K a z = some r ∧ (kdAt l z = none → r = none) ∧ ∀ d, kdAt l z = some d → ∃ u v, r = some u ∧ RelV v u ∧ Rep K H0 d v
  jj : 1 ≤ j
  sysK : ∃ o, K.lookup sysModules = some o
  xks : ∀ x c f i, (x, c, f, i) ∈ T.xks → ∃ fI fd ps, mg (Str.ofString x) = some (.ref (He.ga K c)) ∧ XE.XCl K (He.ga K c) ∧ PySem.W.findIn K (.ref (He.ga K c)) "__init__" = some (some (.ref fI)) ∧ PySem.W.typeIn K (.ref fI) = some (.type "function") ∧
    FnOk P w K mg base (L2.CX P w) 1 fI fd ps (XE.spI (He.ga K c) (Str.ofString f)) ∧ Binds K fd ps [] ∧ ∀ (s : Shared) (u v : Value), BindsTo s fd ⟨[u], [(Str.ofString f, v)]⟩ (ps.zip [u, v])
  xbs : ∀ x c, (x, c) ∈ T.xbs → mg (Str.ofString x) = some (.ref (He.ga K c)) ∧ PySem.W.excIn K (He.ga K c) XE.exT "Exception.__new__" = true ∧ PySem.W.keepIn K (.ref (He.ga K c)) = true
  xcl : ∀ c ∈ T.xcl, ExcC K (He.ga K c) ∧ ∀ p ∈ T.xns, PySem.W.kitOne K (.ref (He.ga K c)) (p.2.v K) = some (xisa T.xsub c p.2)
  xns : ∀ x c, (x, c) ∈ T.xns → (match c with | .b n => mg (Str.ofString x) = none ∧ bootBuiltins (Str.ofString x) = some (.type n) | .o cc => mg (Str.ofString x) = some (.ref (He.ga K cc)))
  xfs : ∀ c f, (c, f) ∈ T.xfs → XfC K (He.ga K c) ∧ PySem.W.findIn K (.ref (He.ga K c)) (Str.ofString f) = some none
  lams : ∀ L f n, (L, f, n) ∈ T.lams → LF.LamOk P w K mg base (L2.CX P w) j L (spD K n (C f))
  lamU : ∀ P q q', LamTab K P q → LamTab K P q' → q = q'
  kfns : ∀ (x : String) (f : Nat) (ps : List String), (x, f, ps) ∈ T.kfns → ∃ a fd, mg (Str.ofString x) = some (.ref a) ∧ PySem.W.keepIn K (.ref a) = true ∧ FnOkG P w K mg base (L2.CX P w) j a fd (ps.map Str.ofString) (spD K ps.length (C f)) ∧ plainP fd.params (ps.map Str.ofString) = true ∧ fd.defaults = .none
structure Cok (T : GT) (S : SC) (C : Nat → DSp) (j : Nat) (X : Cx) (ξ : XP) : Prop where
  sc : X.env.scope = S.sc
  N : X.N = S.N
  nd : S.N.Nodup
  calm : X.calm = true
  fn : X.fn = S.fn
  room : Room (j + 1) X.A
  gd : X.A.guards = some []
  g : GF T C j X.prog X.w X.K X.mg X.base
  pass : Passes (L2.CX X.prog X.w) X ξ.Ex
  lam : S.lam = true → ∃ c P, X.env.code = .ref c ∧ LamX.TabB X.base X.mg c P ∧ LamTab X.K P S.q ∧ X.env.qual ++ "<lambda>" = S.q
section
variable {T : GT} {S : SC} {C : Nat → DSp} {j : Nat} {X : Cx} {ξ : XP} {K : PySem.W.Frag}
theorem visB_ok {sc : Scope} {x : Str} (h : visB sc x = true) : Vis sc x := by
  unfold visB at h
  unfold Vis
  split at h <;> first | exact .inl (by assumption) | exact .inr (.inl (by assumption)) | exact .inr (.inr (by assumption)) | cases h
theorem noDbg_ok {x : Str} (h : noDbg x = true) : (x == ("__debug__" : Str)) = false ∧ (x == ("__classdict__" : Str)) = false ∧ x ≠ ("__name__" : Str) := by
  unfold noDbg at h
  simp only [Bool.and_eq_true, Bool.not_eq_true', decide_eq_false_iff_not] at h
  exact ⟨h.1.1, h.1.2, h.2⟩
theorem isN_ok {x : Str} {s : String} (h : isN x s = true) : x = Str.ofString s := of_decide_eq_true h
theorem gN_ok (c : Cok T S C j X ξ) {y : Str} {x : String} (h : gN S y x = true) : y = Str.ofString x ∧ Gl X y ∧ (y == ("__debug__" : Str)) = false ∧ y ≠ ("__name__" : Str) := by
  unfold gN at h
  simp only [Bool.and_eq_true] at h
  obtain ⟨h1, h2, h3⟩ := h
  refine ⟨isN_ok h1, ?_, (noDbg_ok h3).1, (noDbg_ok h3).2.2⟩
  show X.env.scope.names.lookup y = some .globalImplicit
  rw [c.sc]
  exact of_decide_eq_true h2
theorem and2 {a b : Bool} (h : (a && b) = true) : a = true ∧ b = true := Bool.and_eq_true_iff.mp h
theorem mem_of_c {α : Type} [BEq α] [LawfulBEq α] {x : α} {l : List α} (h : l.contains x = true) : x ∈ l := List.contains_iff_mem.mp h
/-! operators -/
theorem bo_ok (c : Cok T S C j X ξ) (o : BO) : ∃ r, OpR X (binaryOp (boOp o)) r ∧ DOp X.K r (boR o) := by
  cases o with
  | add => exact ⟨_, op_addAll, dop_add⟩
  | sub => exact ⟨_, op_sub, dop_sub⟩
  | mul => exact ⟨_, op_mulAll, dop_mul⟩
  | fdiv => exact ⟨_, op_fdivN, dop_fdiv⟩
  | mod => exact ⟨_, op_mod, dop_mod⟩
  | pow => exact ⟨_, op_pow, dop_pow⟩
theorem co_ok (c : Cok T S C j X ξ) (o : CO) : ∃ r, OpR X (compareOp (coOp o)) r ∧ DOp X.K r (coR o) := by
  have hu := c.room.units
  have hu1 : X.A.units + 1 < cLine := by omega
  cases o with
  | eq => exact ⟨_, op_eqAll hu, dop_eq⟩
  | ne => exact ⟨_, op_neAll hu, dop_ne⟩
  | lt => exact ⟨_, op_ltAll, dop_lt⟩
  | le => exact ⟨_, op_leAll, dop_le⟩
  | gt => exact ⟨_, op_gtAll, dop_gt⟩
  | ge => exact ⟨_, op_geAll, dop_ge⟩
  | is => exact ⟨_, op_isAll, dop_is⟩
  | nis => exact ⟨_, op_isnotAll, dop_is⟩
  | inn => exact ⟨_, op_inAll hu1, dop_in⟩
  | nin => exact ⟨_, op_notInAll hu1, dop_in⟩
theorem dop_neg : DOp1 K (rU fun i => .int (-i)) dNeg := fun x G P v H Q z rl ⟨i, e, p⟩ k => by
  subst e
  exact ⟨i, rep_int.mp z, k _ G _ H (rep_int.mpr rfl) rl (Frame.refl _ _) p⟩
def bfV : BF → Value
  | .len => .builtin "len" | .int => .type "int" | .str => .type "str" | .max => .builtin "max" | .min => .builtin "min" | .list => .type "list" | .tuple => .type "tuple" | .all => .builtin "all" | .any => .builtin "any" | .sorted => .builtin "sorted" | .dict => .type "dict" | .repr => .builtin "repr"
theorem bf_ok (c : Cok T S C j X ξ) (b : BF) : ∃ r, CallR X (bfV b) r ∧ DCal X.K r (bfD b) := by
  cases b with
  | len => exact ⟨_, cr_lenAll, dc_len⟩
  | int => exact ⟨_, call_int1, dc_int⟩
  | str => exact ⟨_, call_str_int, dc_str⟩
  | max => exact ⟨_, call_max2 c.calm, dc_max2⟩
  | min => exact ⟨_, call_min2 c.calm, dc_min2⟩
  | list => exact ⟨_, call_list_of, dc_listOf⟩
  | tuple => exact ⟨_, call_tuple_of, dc_tupOf⟩
  | all => exact ⟨_, cr_all c.calm, dc_all⟩
  | any => exact ⟨_, cr_any c.calm, dc_any⟩
  | sorted => exact ⟨_, cr_sortedS, dc_sorted⟩
  | dict => exact ⟨_, cr_dictAll c.calm, dc_dict⟩
  | repr => exact ⟨_, call_repr c.gd (by have := c.room.units; omega) c.g.sysK, dc_repr⟩
theorem bf_boot (b : BF) : bootBuiltins (Str.ofString (bfN b)) = some (bfV b) := by cases b <;> kernel_rfl
theorem bm_ok (c : Cok T S C j X ξ) (b : BM) : ∃ id r, PlainAttrs (bmT b) ∧ Slot (bmT b) (bmN b) id ∧ typeOf (.builtin id) = pure (.type "method_descriptor") ∧ MtR X id r ∧ DMet X.K r (bmD b) := by
  have hu := c.room.units
  cases b with
  | append => exact ⟨_, _, PySem.F.plainAttrs_list, PySem.F.slot_list_append, PySem.F.type_list_append, mt_append, dm_append⟩
  | extend => exact ⟨_, _, PySem.F.plainAttrs_list, PySem.F.slot_list_extend, PySem.F.type_list_extend, mt_extend, dm_extend⟩
  | pop => exact ⟨_, _, PySem.F.plainAttrs_list, PySem.F.slot_list_pop, PySem.F.type_list_pop, mt_pop, dm_pop⟩
  | get => exact ⟨_, _, PySem.F.plainAttrs_dict, PySem.F.slot_dict_get, PySem.F.type_dict_get, mt_get (by omega), dm_get⟩
/-! blocks -/
theorem pass0 {s : Shared} {H : Hp} {scope : Scope} {ce : Env} {fp : List Addr} : Passes (L2.CX X.prog X.w) (X.blk s H scope ce fp) xi0.Ex := fun pins σ H s e s' I ⟨a, B, H', cls, d, _, _, _, _, _, _, _, z⟩ => z.elim
theorem Cok.blk (c : Cok T S C j X ξ) (scope : Scope) (s : Shared) (H : Hp) (Ca : Addr) (cl : List (Str × Addr)) (fp : List Addr) : Cok T (S.blk scope) C j (X.blk s H scope (compEnvC scope cl Ca X.env) fp) xi0 where
  sc := by
    show relabel scope X.env = relS scope S.sc
    rw [← c.sc]
    rfl
  N := c.N
  nd := c.nd
  calm := c.calm
  fn := rfl
  room := c.room
  gd := c.gd
  g := c.g
  pass := pass0
  lam := fun h => by cases h
/-! targets -/
theorem locB_ok (c : Cok T S C j X ξ) {x : Str} (h : locB S x = true) : Loc X.env.scope x ∧ (X.fn x = true ∨ X.env.scope.names.lookup x = some .local) := by
  unfold locB at h
  rw [← c.sc, ← c.fn] at h
  split at h
  · rename_i q; exact ⟨.inl q, .inr q⟩
  · rename_i q; exact ⟨.inr q, .inl h⟩
  · cases h
theorem asgE_cons {e : Expr} {es : List Expr} {env : Env} (h : notStar e = true) : assignEach (e :: es) env = (false, assign e env) :: assignEach es env := by
  cases e <;> first | rfl | cases h
mutual
theorem sndTg (c : Cok T S C j X ξ) : ∀ (t : Tg) (e : Expr), chkTg S t e = true → PG X e (gTg X.K t)
  | .n i, e, h => by
    cases e with
    | Name x p =>
      obtain ⟨h1, h2⟩ := and2 (show (decide (S.N[i]? = some x) && locB S x) = true from h)
      obtain ⟨l, f⟩ := locB_ok c h2
      unfold gTg
      exact pg_name (by rw [c.N]; exact c.nd) (by rw [c.N]; exact of_decide_eq_true h1) l f
    | _ => cases h
  | .t ts, e, h => by
    cases e with
    | Tuple es k p =>
      have h' : chkTgs S ts es = true := h
      obtain ⟨q, hl, hf⟩ := sndTgs c ts es h'
      unfold gTg
      exact pg_tup c.calm q hl hf
    | _ => cases h
theorem sndTgs (c : Cok T S C j X ξ) : ∀ (ts : List Tg) (es : List Expr), chkTgs S ts es = true → PGs X es (gTgs X.K ts) ∧ (assignEach es X.env).length = ts.length ∧ (assignEach es X.env).findIdx? (·.1) = none
  | [], es, h => by
    cases es with
    | nil => unfold gTgs; exact ⟨pgs_nil, rfl, rfl⟩
    | cons e r => cases h
  | t :: ts, es, h => by
    cases es with
    | nil => cases h
    | cons e r =>
      obtain ⟨h1, h2⟩ := and2 (show (notStar e && (chkTg S t e && chkTgs S ts r)) = true from h)
      obtain ⟨h2, h3⟩ := and2 h2
      obtain ⟨q1, q2, q3⟩ := sndTgs c ts r h3
      have e1 := asgE_cons (es := r) (env := X.env) h1
      unfold gTgs
      refine ⟨pgs_cons (sndTg c t e h2) q1 (by rw [e1]; rfl), by rw [e1, List.length_cons, q2, List.length_cons], ?_⟩
      rw [e1, List.findIdx?_cons]
      simp [q3]
end
end
end DL
end
section
set_option Elab.async false
set_option linter.all false
set_option maxRecDepth 100000
set_option autoImplicit false
namespace DL
open PySem PySem.Spec PyProof.Rows L2 XE
section
variable {T : GT} {S : SC} {C : Nat → DSp} {j : Nat} {X : Cx} {ξ : XP} {K : PySem.W.Frag}
theorem de_never {e : Expr} : DE X ξ e dFalseE := ⟨fun _ _ _ _ _ _ ⟨_, _, _, _, _, z, _⟩ => z.elim⟩
theorem dt_never {e : Expr} : DT X ξ e dFalseT := ⟨fun _ _ _ _ _ _ ⟨_, _, _, _, _, z, _⟩ => z.elim⟩
theorem dw_never {e : Expr} : DW X ξ e dFalseT := ⟨fun _ _ _ _ _ _ _ ⟨_, _, _, _, _, z, _⟩ => z.elim⟩
theorem lift_nil : ∀ σ H Q, liftA K ξ dNil σ H Q → tNil σ H Q := fun σ H Q ⟨τ, G, P, rs, rl, p, k⟩ => k [] G [] H (repL_nil.mpr rfl) rl (Frame.refl _ _) p
theorem lift_rev (te : DTE) : ∀ σ H Q, liftE K ξ (dRev te) σ H Q → tRevA K (liftE K ξ te) σ H Q := fun σ H Q ⟨τ, G, P, rs, rl, p, k⟩ => ⟨τ, G, _, rs, rl, p, fun x G1 v H1 z r1 f1 p1 => by
  split at p1
  · rename_i xs
    obtain ⟨a, vs, rfl, q, r⟩ := rep_tup.mp z
    refine ⟨a, vs, rfl, .inr ⟨q, fun l hl => ?_⟩⟩
    have ⟨r2, f2⟩ := r1.1.aside (u := .tup vs.reverse) hl
    exact k _ _ _ _ (rep_tup.mpr ⟨l, _, rfl, SqT.of upd_same, (r.mono (f2.keeps r1.1)).reverse⟩) (r1.to r2 f2) (f1.trans f2) p1
  · obtain ⟨xs, n, h, p1⟩ := p1
    obtain ⟨a, vs, rfl, r, ⟨_, q⟩ | ⟨q, _⟩⟩ := seqD_rep r1.1 h z
    · exact absurd q (n _)
    refine ⟨a, vs, rfl, .inl ⟨q, fun l hl => ?_⟩⟩
    have ⟨r2, f2⟩ := r1.1.new (p := l) (u := .lst vs.reverse) (o := .lst xs.reverse) hl ⟨_, upd_same, (r.mono (keeps_new hl)).reverse⟩
    exact k _ _ _ _ (rep_ref.mpr rfl) (r1.to r2 f2) (f1.trans f2) (p1 l (r1.1.fresh hl))⟩
/-! keywords, module dicts -/
theorem pmV_rep {H : Hp} {ds zs : List DV} {vs us : List V} (r : RepL K H ds vs) (rz : RepL K H zs us) (pm : List Nat) : RepL K H (pmV pm ds zs) (pmV pm vs us) := by
  refine r.append ?_
  induction pm with
  | nil => exact repL_nil.mpr rfl
  | cons j pm ih =>
    rw [List.filterMap_cons, List.filterMap_cons]
    by_cases hj : j < zs.length
    · have e1 : zs[j]? = some zs[j] := List.getElem?_eq_getElem hj
      obtain ⟨v, hv, z⟩ := rz.get' e1
      rw [e1, hv]
      exact repL_cons.mpr ⟨v, _, rfl, z, ih⟩
    · rw [List.getElem?_eq_none (by omega), List.getElem?_eq_none (by rw [rz.length]; omega)]
      exact ih
theorem lift_callKN {m l n : Nat} {pm : List Nat} {S' : DSp} (t tk : DTA) : ∀ σ H Q, liftE K ξ (dCallKN m l n pm S' ξ.EX t tk) σ H Q → tCallKN m l pm (spD K n S') ξ.Ex (liftA K ξ t) (liftA K ξ tk) σ H Q :=
  fun σ H Q ⟨τ, G, P, rs, rl, p, k⟩ => ⟨τ, G, _, rs, rl, p, fun ds G1 vs H1 z r1 f1 p1 => ⟨τ, G1, _, rs.mono (f1.keeps rl.1), r1, p1, fun zs G2 us H2 z2 r2 f2 ⟨l1, l2, l3, p2⟩ =>
    ⟨by rw [z.length]; exact l1, by rw [z2.length]; exact l2, _, G2, P, ξ.EX, pmV_rep (z.mono (f2.keeps r1.1)) z2 pm, r2.1, l3, p2, fun d G' v H' z3 r3 f3 p3 => k d G' v H' z3 (r2.to r3 f3) (f1.trans (f2.trans f3)) p3, r2.2⟩⟩⟩
theorem kws_each {pos : Pos} {env : Env} : ∀ {kws : List Keyword}, (backToKw pos (keywordEach kws env)).map (·.1) = kwNames kws
  | [] => rfl
  | ⟨n, e, p⟩ :: kws => by
    show n :: (backToKw pos (keywordEach kws env)).map (·.1) = n :: kwNames kws
    rw [kws_each]
theorem kws_all {pos : Pos} {env : Env} {kws : List Keyword} {ks : List String} (h : kwNames kws = ks.map fun k => some (Str.ofString k)) : (backToKw pos (keywordEach kws env)).all (·.1.isSome) = true ∧ (backToKw pos (keywordEach kws env)).filterMap (·.1) = ks.map Str.ofString ∧ (backToKw pos (keywordEach kws env)).any (·.1.isNone) = false := by
  have e := kws_each (pos := pos) (env := env) (kws := kws)
  rw [h] at e
  refine ⟨?_, ?_, ?_⟩
  · rw [List.all_eq_true]
    intro x hx
    have : x.1 ∈ (backToKw pos (keywordEach kws env)).map (·.1) := List.mem_map_of_mem hx
    rw [e] at this
    obtain ⟨k, _, q⟩ := List.mem_map.mp this
    rw [← q]; rfl
  · have : (backToKw pos (keywordEach kws env)).filterMap (·.1) = ((backToKw pos (keywordEach kws env)).map (·.1)).filterMap id := by rw [List.filterMap_map]; rfl
    rw [this, e, List.filterMap_map]
    have : ∀ l : List String, l.filterMap (id ∘ fun k => some (Str.ofString k)) = l.map Str.ofString := fun l => by
      induction l with
      | nil => rfl
      | cons x l ih => rw [List.filterMap_cons, List.map_cons, ih]; rfl
    exact this ks
  · rw [List.any_eq_false]
    intro x hx
    have : x.1 ∈ (backToKw pos (keywordEach kws env)).map (·.1) := List.mem_map_of_mem hx
    rw [e] at this
    obtain ⟨k, _, q⟩ := List.mem_map.mp this
    rw [← q]; simp
theorem pk_of : ∀ {kws : List Keyword} {ts : List DTE}, Paired (fun t e => DE X ξ e t) ts (kwVals kws) → PK X kws (liftA X.K ξ (ts.foldr dCons dNil))
  | [], [], .nil => ⟨fun pos pins s σ H Q I ⟨τ, G, P, rs, rl, p, k⟩ => pk_nil.run pos pins s σ H Q I (k [] G [] H (repL_nil.mpr rfl) rl (Frame.refl _ _) p)⟩
  | ⟨n, e, p⟩ :: kws, t :: ts, .cons h r => by
    have ih := pk_of r
    refine ⟨fun pos pins s σ H Q I ⟨τ, G, P, rs, rl, pp, k⟩ => (pk_cons (nm := n) (kpos := p) h ih).run pos pins s σ H Q I ⟨τ, G, _, rs, rl, pp, fun x G1 v H1 z r1 f1 p1 => ⟨τ, G1, _, rs.mono (f1.keeps rl.1), r1, p1, fun xs G2 vs H2 z2 r2 f2 p2 => k (x :: xs) G2 (v :: vs) H2 (repL_cons.mpr ⟨v, vs, rfl, z.mono (f2.keeps r1.1), z2⟩) r2 (f1.trans f2) p2⟩⟩⟩
theorem denA_fold (T : GT) (C : Nat → DSp) (E : DXK) : ∀ xs : List DX, denA T C E xs = (denL T C E xs).foldr dCons dNil
  | [] => by unfold denA denL; rfl
  | x :: xs => by rw [denA, denL, List.foldr_cons, denA_fold T C E xs]
theorem de_callK (c : Cok T S C j X ξ) {y : Str} {x : String} {f n m : Nat} {pm : List Nat} {ps ks : List String} {es : List Expr} {kws : List Keyword} {t : DTA} {ts : List DTE} {p pos : Pos} (hg : gN S y x = true) (hf : (x, f, ps) ∈ T.kfns) (hs : es.all notStar = true) (hm : es.length = m) (hb : kwB m n pm ps ks = true)
    (hn : kwNames kws = ks.map fun k => some (Str.ofString k)) (ha : DA X ξ es t) (h0 : es = [] → t = dNil) (hk : Paired (fun t e => DE X ξ e t) ts (kwVals kws)) : DE X ξ (.Call (.Name y p) es kws pos) (dCallKN m ks.length n pm (C f) ξ.EX t (ts.foldr dCons dNil)) := by
  obtain ⟨e, g, d, _⟩ := gN_ok c hg
  obtain ⟨a, fd, h1, h2, h3, h4, h5⟩ := c.g.kfns x f ps hf
  subst e
  unfold kwB at hb
  simp only [Bool.and_eq_true, decide_eq_true_eq, List.all_eq_true] at hb
  obtain ⟨b1, b2, b3, b4, b5, b6⟩ := hb
  subst b2
  have hbind : ∀ (s : Shared) (us ws : List Value), us.length = m → ws.length = (ks.map Str.ofString).length → BindsTo s fd ⟨us, (ks.map Str.ofString).zip ws⟩ ((ps.map Str.ofString).zip (pmV pm us ws)) := fun s us ws l1 l2 => by
    refine BindsTo.of_eq ?_
    have key := bind_kw (fd := fd) (ps := ps.map Str.ofString) (ks := ks.map Str.ofString) (us := us) (ws := ws) h4 h5 (by rw [l1, List.length_map]; exact b1) l2 b3 (fun k hk => by
      obtain ⟨q, hq, rfl⟩ := List.mem_map.mp hk
      rw [l1]; exact b6 q hq) (fun n hn => by
      rw [l1, b4] at hn
      obtain ⟨j, _, hj⟩ := List.mem_filterMap.mp hn
      exact List.mem_of_getElem? hj)
    rw [key, l1, b4, kwR_pm b3 l2 fun j hj => by rw [List.length_map]; exact b5 j hj]
    rfl
  obtain ⟨k1, k2, k3⟩ := kws_all (pos := pos) (env := X.env) hn
  have hkw := pk_of (X := X) (ξ := ξ) hk
  have hl : (ks.map Str.ofString).length = ks.length := List.length_map ..
  cases es with
  | nil =>
    rw [h0 rfl]
    have key := pe_callKN0G (p := p) (pos := pos) (m := m) (pm := pm) c.gd h3 (c.room.mono (Nat.le_succ _)) g h1 h2 hbind c.pass hkw k1 k2 d (by rw [k3]; rfl)
    rw [hl] at key
    refine pe_weak key fun σ H Q q => ?_
    have q2 := lift_callKN dNil _ σ H Q q
    exact lift_nil σ H _ q2
  | cons e es =>
    have hs' := hs
    rw [List.all_cons, Bool.and_eq_true] at hs
    have key := pe_callKNG (p := p) (pos := pos) (m := m) (pm := pm) c.gd h3 (c.room.mono (Nat.le_succ _)) g h1 h2 hbind c.pass ha hkw k1 k2 d (star_cons hs.1) (by rw [k3, star_all hs']; rfl)
    rw [hl] at key
    exact pe_weak key (lift_callKN t _)
theorem de_kget (c : Cok T S C j X ξ) {y g : Str} {x : String} {u : Expr} {te : DTE} {p ap pos : Pos} (hg : gN S y x = true) (hgt : g = Str.ofString "get") (hf : (T.kds.any fun q => q.1 == x) = true) (hs : notStar u = true) (hp : (ap.endLine == pos.line) = true) (he : DE X ξ u te) :
    DE X ξ (.Call (.Attribute (.Name y p) g ap) [u] [] pos) (dKget (T.kds.lookup x) te) := by
  obtain ⟨e, gg, d, _⟩ := gN_ok c hg
  subst e hgt
  cases hl : T.kds.lookup x with
  | none =>
    exact ⟨fun pins s σ H Q I ⟨τ, G, P, rs, rl, pp, k⟩ => by
      exfalso
      obtain ⟨q, hq, hx⟩ := List.any_eq_true.mp hf
      have hx' := eq_of_beq hx
      have : ∀ l : List (String × List (String × DV)), q ∈ l → l.lookup x ≠ none := fun l => by
        induction l with
        | nil => intro h; cases h
        | cons a l ih =>
          intro h hn
          obtain ⟨a1, a2⟩ := a
          rw [List.lookup_cons] at hn
          rcases List.mem_cons.mp h with z | z
          · rw [← hx', z, beq_self_eq_true] at hn; cases hn
          · cases hb : (x == a1) with
            | true => rw [hb] at hn; cases hn
            | false => rw [hb] at hn; exact ih z hn
      exact this _ hq hl⟩
  | some l =>
    obtain ⟨a, es, n, h1, D, hz⟩ := c.g.kds x l hl
    have hst : ([u] : List Expr).all notStar = true := by simp [hs]
    have hfew : ((backTo pos (starEach [u] X.env)).all (fun x => !x.1) && (backToKw pos (keywordEach [] X.env)).all (fun x => x.1.isSome)
      && decide ([u].length + ([] : List Keyword).length + (if ([] : List Keyword).isEmpty then 0 else 1) < 30)) = true := by
      rw [star_none hst]
      simp [keywordEach, backToKw]
    refine pe_weak (pe_kget D (pe_glob gg h1 rfl d) he (base_of rfl) hfew hp (star_cons hs)) fun σ H Q ⟨τ, G, P, rs, rl, pp, k⟩ => ⟨τ, G, _, rs, rl, pp, fun yv G1 v H1 z r1 f1 ⟨s, l', e1, e2, p1⟩ => ?_⟩
    subst e1
    cases e2
    obtain ⟨r, n1, n2, n3⟩ := hz s
    refine ⟨s, r, rep_str.mp z, n1, fun hr => ?_, fun w hr => ?_⟩
    · have hk : kdAt l s = none := by
        cases q : kdAt l s with
        | none => rfl
        | some dd =>
          obtain ⟨u', v', e3, _⟩ := n3 dd q
          rw [hr] at e3; cases e3
      rw [hk] at p1
      exact k _ G1 _ H1 (rep_non.mpr rfl) r1 f1 p1
    · cases q : kdAt l s with
      | none => rw [n2 q] at hr; cases hr
      | some dd =>
        obtain ⟨u', v', e3, rv, z3⟩ := n3 dd q
        rw [hr] at e3; cases e3
        rw [q] at p1
        exact ⟨v', rv, k _ G1 _ H1 (z3.mono (keeps_H0 H1)) r1 f1 p1⟩
theorem de_call (c : Cok T S C j X ξ) {y : Str} {x : String} {f n : Nat} {es : List Expr} {t : DTA} {p pos : Pos} (hg : gN S y x = true) (hf : (x, f, n) ∈ T.fns) (hs : es.all notStar = true) (ha : DA X ξ es t) (h0 : es = [] → t = dNil) : DE X ξ (.Call (.Name y p) es [] pos) (dCall n (C f) ξ.EX t) := by
  obtain ⟨e, g, d, _⟩ := gN_ok c hg
  obtain ⟨a, fd, ps, h1, h2, h3, h4⟩ := c.g.fns x f n hf
  subst e
  cases es with
  | nil =>
    rw [h0 rfl]
    refine pe_weak (pe_call0G c.gd h4 (c.room.mono (Nat.le_succ _)) g h1 h2 h3 .nil c.pass d) fun σ H Q q => ?_
    exact lift_nil σ H _ (lift_call dNil σ H Q q)
  | cons e es =>
    rw [List.all_cons, Bool.and_eq_true] at hs
    exact pe_weak (pe_callG c.gd h4 (c.room.mono (Nat.le_succ _)) g h1 h2 h3 .nil c.pass ha d (star_cons hs.1) (star_all hs.2)) (lift_call t)
theorem de_mk (c : Cok T S C j X ξ) {y : Str} {x cl : String} {f n : Nat} {es : List Expr} {t : DTA} {p pos : Pos} (hg : gN S y x = true) (hf : (x, cl, f, n) ∈ T.mks) (hs : es.all notStar = true) (ha : DA X ξ es t) (h0 : es = [] → t = dNil) : DE X ξ (.Call (.Name y p) es [] pos) (dMk cl n (C f) ξ.EX t) := by
  obtain ⟨e, g, d, _⟩ := gN_ok c hg
  obtain ⟨a, fd, ps, h1, h2, h3, h4⟩ := c.g.mks x cl f n hf
  subst e
  cases es with
  | nil =>
    rw [h0 rfl]
    refine pe_weak (pe_make0G h2 c.gd h4 c.room g h1 h3 .nil c.pass d) fun σ H Q q => ?_
    exact lift_nil σ H _ (lift_mk dNil σ H Q q)
  | cons e es =>
    rw [List.all_cons, Bool.and_eq_true] at hs
    exact pe_weak (pe_makeG h2 c.gd h4 c.room g h1 h3 .nil c.pass ha d (star_cons hs.1) (star_all hs.2)) (lift_mk t)
theorem de_own (c : Cok T S C j X ξ) {m : Str} {cl x : String} {f n : Nat} {o : Expr} {es : List Expr} {to : DTE} {t : DTA} {ap pos : Pos} (hm : m = Str.ofString x) (hf : (cl, x, f, n) ∈ T.mets) (ho : notSuper o = true) (hs : es.all notStar = true) (hl : es.length < 30) (hp : (ap.endLine == pos.line) = true)
    (he : DE X ξ o to) (ha : DA X ξ es t) (h0 : es = [] → t = dNil) : DE X ξ (.Call (.Attribute o m ap) es [] pos) (dOwn cl x n (C f) ξ.EX to t) := by
  obtain ⟨a, fd, ps, h1, h2, h3, h4⟩ := c.g.mets cl x f n hf
  subst hm
  cases es with
  | nil =>
    rw [h0 rfl]
    refine pe_weak (pe_meth0G he h1 h2 c.gd h4 (c.room.mono (Nat.le_succ _)) h3 .nil c.pass (meth_eq ho hs hl hp)) fun σ H Q q => ?_
    obtain ⟨τ, G, P, rs, rl, p, k⟩ := lift_own to dNil σ H Q q
    refine ⟨τ, G, P, rs, rl, p, fun d G' v H' z r f q => ?_⟩
    obtain ⟨a, dx, fs, q1, q2, q3, q4⟩ := k d G' v H' z r f q
    exact ⟨a, dx, fs, q1, q2, q3, lift_nil _ _ _ q4⟩
  | cons e es =>
    have hs' := hs
    rw [List.all_cons, Bool.and_eq_true] at hs
    exact pe_weak (pe_methG he h1 h2 c.gd h4 (c.room.mono (Nat.le_succ _)) h3 .nil c.pass ha (star_cons hs.1) (star_all hs.2) (meth_eq ho hs' hl hp)) (lift_own to t)
theorem de_bf (c : Cok T S C j X ξ) {y : Str} {b : BF} {es : List Expr} {t : DTA} {p pos : Pos} (hg : gN S y (bfN b) = true) (hf : bfN b ∈ T.free) (hs : es.all notStar = true) (hn : es.isEmpty = false) (ha : DA X ξ es t) : DE X ξ (.Call (.Name y p) es [] pos) (dCB (bfD b) t) := by
  obtain ⟨e, g, d, nn⟩ := gN_ok c hg
  have hm := c.g.free _ hf
  obtain ⟨r, h1, h2⟩ := bf_ok c b
  subst e
  cases es with
  | nil => cases hn
  | cons e es =>
    rw [List.all_cons, Bool.and_eq_true] at hs
    have hb := bf_boot b
    cases b <;> first
      | exact pe_weak (pe_callB h1 g hm hb ha nn d (star_cons hs.1) (star_all hs.2)) (lift_cb h2 t)
      | exact pe_weak (pe_callTy h1 g hm hb ha nn d (star_cons hs.1) (star_all hs.2)) (lift_cb h2 t)
theorem de_lzip (c : Cok T S C j X ξ) {y z : Str} {es : List Expr} {t : DTA} {p p2 cpos pos : Pos} (hg : gN S y "list" = true) (hf : "list" ∈ T.free) (hg2 : gN S z "zip" = true) (hf2 : "zip" ∈ T.free) (hs : es.all notStar = true) (hn : es.length = 2) (ha : DA X ξ es t) :
    DE X ξ (.Call (.Name y p) [.Call (.Name z p2) es [] cpos] [] pos) (dLzip t) := by
  obtain ⟨e, g, d, nn⟩ := gN_ok c hg
  obtain ⟨e2, g2, d2, nn2⟩ := gN_ok c hg2
  subst e e2
  match es, hn, hs, ha with
  | [a, b], _, hs, ha =>
    rw [List.all_cons, Bool.and_eq_true] at hs
    exact pe_weak (LzI.pe_listZip c.calm ha g (c.g.free _ hf) g2 (c.g.free _ hf2) (star_cons hs.1) (star_all hs.2) (star_cons rfl)) (lift_lzip t)
theorem de_lam (c : Cok T S C j X ξ) {L : LF.LamT} {params : Arguments} {body : Expr} {scope : Scope} {pos : Pos} (h1 : S.lam = true) (h2 : L.q = S.q) (h3 : eqLam L params body scope = true) : DE X ξ (.Lambda params body scope pos) (dLam L) := by
  obtain ⟨cc, P, e1, e2, e3, e4⟩ := c.lam h1
  obtain ⟨a1, a2, a3⟩ := eqLam_ok h3
  have key := LF.pe_mkLam (X := X) (T := LamTab X.K) (pos := pos) (params := params) (body := body) (scope := scope) e2 e1 (by rw [e4]; exact e3) (fun q hq => by rw [e4]; exact c.g.lamU P _ _ hq e3) (a2 _) a3
  rw [e4, ← h2, ← a1] at key
  exact pe_weak key lift_lam
theorem de_callV (c : Cok T S C j X ξ) {i : Nat} {x : Str} {es : List Expr} {t : DTA} {p pos : Pos} (h1 : S.N[i]? = some x) (h2 : visB S.sc x = true) (h3 : noDbg x = true) (hs : es.all notStar = true) (hn : es.isEmpty = false) (ha : DA X ξ es t) : DE X ξ (.Call (.Name x p) es [] pos) (dCallF T.lams C ξ.EX i t) := by
  obtain ⟨d1, d2, _⟩ := noDbg_ok h3
  cases es with
  | nil => cases hn
  | cons e es =>
    rw [List.all_cons, Bool.and_eq_true] at hs
    exact pe_weak (LF.pe_callF (gd := c.gd) (S := fun L sp => ∃ f n, (L, f, n) ∈ T.lams ∧ sp = spD X.K n (C f)) (fun L sp ⟨f, n, h, e⟩ => by rw [e]; exact c.g.lams L f n h) (c.room.mono (Nat.le_succ _)) (by rw [c.N]; exact h1) (by rw [c.sc]; exact visB_ok h2) c.pass ha d1 d2 (star_cons hs.1) (star_all hs.2)) (lift_callF t)
theorem de_bm (c : Cok T S C j X ξ) {m : Str} {b : BM} {o : Expr} {es : List Expr} {to : DTE} {t : DTA} {ap pos : Pos} (hm : m = Str.ofString (bmN b)) (ho : notSuper o = true) (hs : es.all notStar = true) (hl : es.length < 30) (hp : (ap.endLine == pos.line) = true)
    (he : DE X ξ o to) (ha : DA X ξ es t) (h0 : es = [] → t = dNil) : DE X ξ (.Call (.Attribute o m ap) es [] pos) (dBM (bmT b) (bmD b) to t) := by
  obtain ⟨id, r, h1, h2, h3, h4, h5⟩ := bm_ok c b
  subst hm
  cases es with
  | nil =>
    rw [h0 rfl]
    refine pe_weak (pe_bm0 h1 h2 h3 h4 he (base_of ho) hp) fun σ H Q q => ?_
    obtain ⟨τ, G, P, rs, rl, p, k⟩ := lift_bm h5 to dNil σ H Q q
    refine ⟨τ, G, P, rs, rl, p, fun d G' v H' z r f q => ?_⟩
    obtain ⟨q1, q2⟩ := k d G' v H' z r f q
    exact ⟨q1, lift_nil _ _ _ q2⟩
  | cons e es =>
    have hs' := hs
    rw [List.all_cons, Bool.and_eq_true] at hs
    have hfew : ((backTo pos (starEach (e :: es) X.env)).all (fun x => !x.1) && (backToKw pos (keywordEach [] X.env)).all (fun x => x.1.isSome)
      && decide ((e :: es).length + ([] : List Keyword).length + (if ([] : List Keyword).isEmpty then 0 else 1) < 30)) = true := by
      rw [star_none hs']
      simp [keywordEach, backToKw]
      simpa using hl
    exact pe_weak (pe_bm h1 h2 h3 h4 he ha (base_of ho) hfew hp (star_cons hs.1) (star_all hs.2)) (lift_bm h5 to t)
theorem de_isi (c : Cok T S C j X ξ) {y z : Str} {x : String} {cl : TN} {u : Expr} {t : DTE} {p p2 pos : Pos} (hg : gN S y "isinstance" = true) (hf : "isinstance" ∈ T.free) (hz : gN S z x = true) (hc : (x, cl) ∈ T.clss) (hs : notStar u = true) (ha : DE X ξ u t) :
    DE X ξ (.Call (.Name y p) [u, .Name z p2] [] pos) (dIsi T.tys T.sub cl t) := by
  obtain ⟨e, g, d, nn⟩ := gN_ok c hg
  obtain ⟨e2, g2, d2, nn2⟩ := gN_ok c hz
  have hm := c.g.free _ hf
  obtain ⟨h1, h2⟩ := c.g.isi x cl hc
  subst e e2
  have hb : bootBuiltins (Str.ofString "isinstance") = some (.builtin "isinstance") := by kernel_rfl
  have hst : ([.Name (Str.ofString x) p2] : List Expr).all notStar = true := rfl
  have key : ∀ (cv : V), ClsV cv (cl.v X.K) → PE X (.Name (Str.ofString x) p2) (tC cv) → DE X ξ (.Call (.Name (Str.ofString "isinstance") p) [u, .Name (Str.ofString x) p2] [] pos) (dIsi T.tys T.sub cl t) := fun cv hcv hp =>
    pe_weak (pe_callB call_isi g hm hb (pa_cons ha (pa_cons hp pa_nil) (star_cons hs)) nn d (star_cons hs) (star_all hst)) fun σ H Q q => lift_isi t h2 hcv σ H Q q
  cases cl with
  | b n =>
    obtain ⟨h3, h4⟩ := h1
    exact key (.ty n) (.ty n) (pe_bltn g2 h3 h4 rfl nn2 d2)
  | o cc => exact key (.ref _) (.own _) (pe_glob g2 h1 rfl d2)
theorem de_mkx (c : Cok T S C j X ξ) {y : Str} {x cl f : String} {i : Nat} {u : Expr} {t : DTE} {p pos : Pos} (hg : gN S y x = true) (hf : (x, cl, f, i) ∈ T.xks) (hs : notStar u = true) (ha : DE X ξ u t) : DE X ξ (.Call (.Name y p) [u] [] pos) (dMkV cl f (dCons t dNil)) := by
  obtain ⟨e, g, d, _⟩ := gN_ok c hg
  obtain ⟨fI, fd, ps, h1, h2, h3, h4, h5, h6, h7⟩ := c.g.xks x cl f i hf
  subst e
  have tk : Passes (L2.CX X.prog X.w) X (fun _ _ _ => False) := fun pins σ H s e s' I ⟨a, B, H', cls, d, _, _, _, _, _, _, _, z⟩ => z.elim
  exact pe_weak (XE.pe_mkV h2 h3 h4 h5 (c.room.mono (by have := c.g.jj; omega)) h6 tk g h1 (da_cons ha da_nil (star_cons hs)) d (star_cons hs)) (lift_mkV _)
theorem de_mkxK (c : Cok T S C j X ξ) {y : Str} {x cl f : String} {i : Nat} {n : Option Str} {u : Expr} {t : DTE} {p pos kp : Pos} (hg : gN S y x = true) (hf : (x, cl, f, i) ∈ T.xks) (hn : n = some (Str.ofString f)) (ha : DE X ξ u t) : DE X ξ (.Call (.Name y p) [] [⟨n, u, kp⟩] pos) (dMkV cl f (dCons t dNil)) := by
  obtain ⟨e, g, d, _⟩ := gN_ok c hg
  obtain ⟨fI, fd, ps, h1, h2, h3, h4, h5, h6, h7⟩ := c.g.xks x cl f i hf
  subst e
  have tk : Passes (L2.CX X.prog X.w) X (fun _ _ _ => False) := fun pins σ H s e s' I ⟨a, B, H', cls, d, _, _, _, _, _, _, _, z⟩ => z.elim
  obtain ⟨k1, k2, k3⟩ := kws_all (pos := pos) (env := X.env) (kws := [⟨n, u, kp⟩]) (ks := [f]) (by rw [hn]; rfl)
  have hk : PK X [⟨n, u, kp⟩] (liftA X.K ξ (dCons t dNil)) := pk_of (kws := [⟨n, u, kp⟩]) (ts := [t]) (.cons ha .nil)
  exact pe_weak (XE.pe_mkVK h2 h3 h4 h5 (c.room.mono (by have := c.g.jj; omega)) h7 tk g h1 hk d k1 k2 (by rw [k3]; rfl)) (lift_mkV _)
theorem de_mkb (c : Cok T S C j X ξ) {y : Str} {x cl : String} {p pos : Pos} (hg : gN S y x = true) (hf : (x, cl) ∈ T.xbs) : DE X ξ (.Call (.Name y p) [] [] pos) (dMkB cl) := by
  obtain ⟨e, g, d, _⟩ := gN_ok c hg
  obtain ⟨h1, h2, h3⟩ := c.g.xbs x cl hf
  subst e
  exact pe_weak (XE.pe_mkB PySem.F.excBase_Exception h2 h1 h3 g d) lift_mkB
theorem de_xfld (c : Cok T S C j X ξ) {f : String} {e : Expr} {te : DTE} {pos : Pos} (he : DE X ξ e te) (ho : notSuper e = true) : DE X ξ (.Attribute e (Str.ofString f) pos) (dXfld T.xfs f te) :=
  pe_weak (XE.pe_xv he (base_of ho)) (lift_xfld te fun cl hc => c.g.xfs cl f hc)
theorem de_lrng (c : Cok T S C j X ξ) {y z : Str} {u : Expr} {t : DTE} {p p2 cpos pos : Pos} (hg : gN S y "list" = true) (hf : "list" ∈ T.free) (hg2 : gN S z "range" = true) (hf2 : "range" ∈ T.free) (hs : notStar u = true) (ha : DE X ξ u t) :
    DE X ξ (.Call (.Name y p) [.Call (.Name z p2) [u] [] cpos] [] pos) (dLrng t) := by
  obtain ⟨e, g, d, nn⟩ := gN_ok c hg
  obtain ⟨e2, g2, d2, nn2⟩ := gN_ok c hg2
  subst e e2
  exact pe_weak (pe_listRg c.calm g (c.g.free _ hf) (prg_1 g2 (c.g.free _ hf2) ha (star_cons hs)) (star_cons rfl)) (lift_lrng t)
/-- a class's name as a value -/
theorem pe_cls (c : Cok T S C j X ξ) {w : Str} {x : String} {cl : TN} {p : Pos} (hg : gN S w x = true) (h : (x, cl) ∈ T.xns) : ∃ cv, ClsV cv (cl.v X.K) ∧ PE X (.Name w p) (tC cv) := by
  obtain ⟨e, g, d, nn⟩ := gN_ok c hg
  have h1 := c.g.xns x cl h
  subst e
  cases cl with
  | b n => exact ⟨.ty n, .ty n, pe_bltn g h1.1 h1.2 rfl nn d⟩
  | o cc => exact ⟨.ref (He.ga X.K cc), .own _, pe_glob g h1 rfl d⟩
/-- values that are known -/
def tCs (vs : List V) : TA := fun _ H Q => Q vs H
theorem pa_cls (c : Cok T S C j X ξ) : ∀ {ns : List (String × TN)} {es : List Expr}, (∀ p ∈ ns, p ∈ T.xns) → nmsB S ns es = true → ∃ cvs, Paired ClsV cvs ((ns.map (·.2)).map fun t => t.v X.K) ∧ PA X es (tCs cvs) ∧ es.all notStar = true
  | [], [], _, _ => ⟨[], .nil, pa_weak pa_nil fun σ H Q q => q, rfl⟩
  | [], _ :: _, _, h => by cases h
  | _ :: _, [], _, h => by cases h
  | (x, cl) :: ns, e :: es, hm, h => by
    cases e with
    | Name w p =>
      obtain ⟨h1, h2⟩ := and2 (show (gN S w x && nmsB S ns es) = true from h)
      obtain ⟨cv, k1, k2⟩ := pe_cls (p := p) c h1 (hm _ (List.mem_cons_self ..))
      obtain ⟨cvs, i1, i2, i3⟩ := pa_cls c (fun q hq => hm q (List.mem_cons_of_mem _ hq)) h2
      exact ⟨cv :: cvs, .cons k1 i1, pa_weak (pa_cons k2 i2 (star_cons rfl)) fun σ H Q q => q, by rw [List.all_cons, i3]; rfl⟩
    | _ => cases h
theorem de_xisi (c : Cok T S C j X ξ) {y : Str} {ns : List (String × TN)} {u : Expr} {w : Str} {t : DTE} {p p2 pos : Pos} (hg : gN S y "isinstance" = true) (hf : "isinstance" ∈ T.free) (hm : ∀ p ∈ ns, p ∈ T.xns) (hn : nmsB S ns [.Name w p2] = true) (hs : notStar u = true) (ha : DE X ξ u t) :
    DE X ξ (.Call (.Name y p) [u, .Name w p2] [] pos) (dXisi T.xcl T.xsub (ns.map (·.2)) t) := by
  obtain ⟨e, g, d, nn⟩ := gN_ok c hg
  have hb : bootBuiltins (Str.ofString "isinstance") = some (.builtin "isinstance") := by kernel_rfl
  subst e
  match ns, hn with
  | [], hn => cases hn
  | (x, cl) :: q :: r, hn => cases (and2 hn).2
  | [(x, cl)], hn =>
    obtain ⟨cv, k1, k2⟩ := pe_cls (p := p2) c (and2 hn).1 (hm _ (List.mem_cons_self ..))
    have hst : ([.Name w p2] : List Expr).all notStar = true := rfl
    exact pe_weak (pe_callB call_isX g (c.g.free _ hf) hb (pa_cons ha (pa_cons k2 pa_nil) (star_cons hs)) nn d (star_cons hs) (star_all hst)) fun σ H Q q => lift_xisi t (fun cc hc => (c.g.xcl cc hc).1) (fun cc hc => (c.g.xcl cc hc).2 (x, cl) (hm _ (List.mem_cons_self ..))) k1 σ H Q q
theorem de_xisiT (c : Cok T S C j X ξ) {y : Str} {ns : List (String × TN)} {u : Expr} {es : List Expr} {k : Nat} {t : DTE} {p p2 pos : Pos} (hg : gN S y "isinstance" = true) (hf : "isinstance" ∈ T.free) (hm : ∀ p ∈ ns, p ∈ T.xns) (hl : ns.length ≤ 100) (hn : nmsB S ns es = true) (hs : notStar u = true) (ha : DE X ξ u t) :
    DE X ξ (.Call (.Name y p) [u, .Tuple es k p2] [] pos) (dXisi T.xcl T.xsub (ns.map (·.2)) t) := by
  obtain ⟨e, g, d, nn⟩ := gN_ok c hg
  have hb : bootBuiltins (Str.ofString "isinstance") = some (.builtin "isinstance") := by kernel_rfl
  subst e
  obtain ⟨cvs, k1, k2, k3⟩ := pa_cls c hm hn
  have hst : ([.Tuple es k p2] : List Expr).all notStar = true := rfl
  refine pe_weak (pe_callB call_isXT g (c.g.free _ hf) hb (pa_cons ha (pa_cons (pe_tup k2) pa_nil) (star_cons hs)) nn d (star_cons hs) (star_all hst)) fun σ H Q q => ?_
  have hl2 : (ns.map (·.2)).length ≤ sizeLine := by rw [List.length_map]; exact Nat.le_trans hl (by decide)
  exact lift_xisiT t hl2 (fun cc hc => (c.g.xcl cc hc).1) (fun cc hc tt ht => by
    obtain ⟨pp, hp, rfl⟩ := List.mem_map.mp ht
    exact (c.g.xcl cc hc).2 pp (hm _ hp)) k1 σ H Q q
end
end DL
end
section
set_option Elab.async false
set_option linter.all false
set_option maxRecDepth 100000
set_option autoImplicit false
namespace DL
open PySem PySem.Spec PyProof.Rows L2
section
variable {T : GT} {S : SC} {C : Nat → DSp} {j : Nat} {X : Cx} {ξ : XP} {K : PySem.W.Frag}
theorem di_never {t e : Expr} : DI X ξ t e (fun _ _ _ => False) := ⟨fun _ _ _ _ _ _ ⟨_, _, _, _, _, z, _⟩ => z.elim⟩
theorem it_ok (c : Cok T S C j X ξ) {ik : IK} {t iter : Expr} {es : List Expr} {ts : List DTE} {ta : DTA} (h : itArgs T S ik t iter = some es) (ha : DA X ξ es ta) (hl : ∀ e te, es = [e] → ts = [te] → DE X ξ e te) : DI X ξ t iter (dIter ik ts ta) := by
  have call : ∀ {es : List Expr}, es.all notStar = true → ∀ (a : Expr), es = [a] → starEach [a] X.env = [(false, eval a X.env)] := fun hs a e => by
    subst e
    rw [List.all_cons, Bool.and_eq_true] at hs
    exact star_cons hs.1
  cases ik with
  | seq =>
    unfold itArgs at h
    simp only at h
    split at h
    · cases h
      match ts, hl with
      | [te], hl => exact di_seq (hl iter te rfl rfl)
      | [], _ => exact di_never
      | _ :: _ :: _, _ => exact di_never
    · cases h
  | rng1 =>
    unfold itArgs at h
    simp only at h
    split at h
    · rename_i y p es' pos
      split at h
      · rename_i q
        cases h
        simp only [Bool.and_eq_true, beq_iff_eq] at q
        obtain ⟨q1, q2, q3, q4⟩ := q
        obtain ⟨e, g, d, nn⟩ := gN_ok c q3
        have hm := c.g.free _ (mem_of_c q4)
        subst e
        match es, q1, q2, ha with
        | [a], q1, _, ha => exact pi_weak (pi_range1 g hm ha (call q1 a rfl)) (lift_rng1 ta)
      · cases h
    · cases h
  | rng2 =>
    unfold itArgs at h
    simp only at h
    split at h
    · rename_i y p es' pos
      split at h
      · rename_i q
        cases h
        simp only [Bool.and_eq_true, beq_iff_eq] at q
        obtain ⟨q1, q2, q3, q4⟩ := q
        obtain ⟨e, g, d, nn⟩ := gN_ok c q3
        have hm := c.g.free _ (mem_of_c q4)
        subst e
        match es, q1, q2, ha with
        | [a, b], q1, _, ha =>
          rw [List.all_cons, Bool.and_eq_true, List.all_cons, Bool.and_eq_true] at q1
          have e2 : starEach [b] X.env = [(false, eval b X.env)] := star_cons q1.2.1
          exact pi_weak (pi_range2 g hm ha (by rw [star_cons q1.1, e2]) e2) (lift_rng2 ta)
      · cases h
    · cases h
  | zip =>
    unfold itArgs at h
    simp only at h
    split at h
    · rename_i y p es' pos
      split at h
      · rename_i q
        cases h
        simp only [Bool.and_eq_true, beq_iff_eq] at q
        obtain ⟨q1, q2, q3, q4, q5⟩ := q
        obtain ⟨e, g, d, nn⟩ := gN_ok c q3
        have hm := c.g.free _ (mem_of_c q4)
        subst e
        cases t <;> try cases q5
        match es, q1, q2, ha with
        | [a, b], q1, _, ha =>
          rw [List.all_cons, Bool.and_eq_true] at q1
          exact pi_weak (RZ.pi_zipA g hm ha (star_cons q1.1) (star_all q1.2)) (lift_zip ta)
      · cases h
    · cases h
  | enum =>
    unfold itArgs at h
    simp only at h
    split at h
    · rename_i y p es' pos
      split at h
      · rename_i q
        cases h
        simp only [Bool.and_eq_true, beq_iff_eq] at q
        obtain ⟨q1, q2, q3, q4, q5⟩ := q
        obtain ⟨e, g, d, nn⟩ := gN_ok c q3
        have hm := c.g.free _ (mem_of_c q4)
        subst e
        cases t <;> try cases q5
        match es, q1, q2, ha with
        | [a], q1, _, ha => exact pi_weak (pi_enumA g hm ha (call q1 a rfl)) (lift_enum ta)
      · cases h
    · cases h
theorem it_star {ik : IK} {t iter : Expr} {es : List Expr} (h : itArgs T S ik t iter = some es) : es.all notStar = true := by
  unfold itArgs at h
  cases ik with
  | seq =>
    simp only at h
    split at h
    · rename_i q
      cases h
      simp only [Bool.and_eq_true] at q
      simp [q.2]
    · cases h
  | _ =>
    simp only at h
    split at h
    · split at h
      · rename_i q
        cases h
        exact (and2 q).1
      · cases h
    · cases h
theorem lift_yes : ∀ σ H Q, liftT K ξ dYes σ H Q → tYes σ H Q := fun σ H Q ⟨τ, G, P, rs, rl, p, k⟩ => k true G H rl (Frame.refl _ _) p
end
end DL
end
section
set_option Elab.async false
set_option linter.all false
set_option maxRecDepth 100000
set_option autoImplicit false
namespace DL
open PySem PySem.Spec PyProof.Rows L2
section
variable {T : GT} {C : Nat → DSp} {j : Nat}
theorem chkA_nil {S : SC} {xs : List DX} (h : chkA T S xs [] = true) : xs = [] := by
  cases xs with
  | nil => rfl
  | cons x xs => unfold chkA at h; cases h
/-- an expression is what its picture computes: as a value, as a test -/
def Snd (T : GT) (C : Nat → DSp) (j : Nat) (x : DX) : Prop := ∀ (S : SC) (X : Cx) (ξ : XP) (e : Expr), Cok T S C j X ξ → chk T S x e = true → DE X ξ e (den T C ξ.EX x) ∧ DT X ξ e (denT T C ξ.EX x)
structure SndA (T : GT) (C : Nat → DSp) (j : Nat) (xs : List DX) : Prop where
  a : ∀ {S : SC} {X : Cx} {ξ : XP} {es : List Expr}, Cok T S C j X ξ → chkA T S xs es = true → es.all notStar = true → DA X ξ es (denA T C ξ.EX xs)
  l : ∀ {S : SC} {X : Cx} {ξ : XP} {es : List Expr} {e : Expr} {te : DTE}, Cok T S C j X ξ → chkA T S xs es = true → es = [e] → denL T C ξ.EX xs = [te] → DE X ξ e te
  e : ∀ {S : SC} {X : Cx} {ξ : XP} {es : List Expr}, Cok T S C j X ξ → chkA T S xs es = true → Paired (fun t e => DE X ξ e t) (denL T C ξ.EX xs) es
  an : ∀ {S : SC} {X : Cx} {ξ : XP} {es : List Expr} {pos : Pos}, Cok T S C j X ξ → chkA T S xs es = true → DE X ξ (.BoolOp .And es pos) (denAnd T C ξ.EX xs) ∧ DW X ξ (.BoolOp .And es pos) (denAndT T C ξ.EX xs)
  or : ∀ {S : SC} {X : Cx} {ξ : XP} {es : List Expr} {pos : Pos}, Cok T S C j X ξ → chkA T S xs es = true → DE X ξ (.BoolOp .Or es pos) (denOr T C ξ.EX xs) ∧ DW X ξ (.BoolOp .Or es pos) (denOrT T C ξ.EX xs)
  c : ∀ {S : SC} {X : Cx} {ξ : XP} {es : List Expr}, Cok T S C j X ξ → chkA T S xs es = true → PTs X es (liftT X.K ξ (denC T C ξ.EX xs))
theorem pts_never {X : Cx} {ξ : XP} {es : List Expr} : PTs X es (liftT X.K ξ dFalseT) := ⟨fun _ _ _ _ _ _ ⟨_, _, _, _, _, z, _⟩ => z.elim⟩
theorem pts_weak {X : Cx} {e : List Expr} {t t' : TT} (h : PTs X e t) (w : ∀ σ H Q, t' σ H Q → t σ H Q) : PTs X e t' := ⟨fun pins s σ H Q I q => h.run pins s σ H Q I (w σ H Q q)⟩
/-- a value's test -/
theorem val_of {X : Cx} {ξ : XP} {e : Expr} {t : DTE} (h : DE X ξ e t) (p : plainT e = true) : DT X ξ e (dTest t) := dt_val h fun whole => true_of p
theorem omap_id {α : Type} : ∀ {keys : List (Option α)} {es : List α}, omap id keys = some es → keys = es.map some
  | [], es, q => by cases q; rfl
  | none :: ks, es, q => by
    unfold omap at q
    simp at q
  | some k :: ks, es, q => by
    unfold omap at q
    cases q2 : omap id ks with
    | none => rw [q2] at q; simp at q
    | some r =>
      rw [q2] at q
      simp only [id, Option.some.injEq] at q
      rw [← q, List.map_cons, omap_id q2]
mutual
theorem snd : ∀ x : DX, Snd T C j x
  | .v i => fun S X ξ e c h => by
    unfold chk at h
    split at h
    · rename_i x p
      obtain ⟨h1, h2⟩ := and2 h
      obtain ⟨h2, h3⟩ := and2 h2
      obtain ⟨d1, d2, _⟩ := noDbg_ok h3
      have key : DE X ξ (.Name x p) (dVar i) := de_var (by rw [c.N]; exact of_decide_eq_true h1) (by rw [c.sc]; exact visB_ok h2) d1 d2
      unfold den denT
      exact ⟨key, val_of key rfl⟩
    · cases h
  | .int i => fun S X ξ e c h => by
    unfold chk at h
    split at h
    · cases of_decide_eq_true h
      unfold den denT
      exact ⟨de_int, dt_never⟩
    · cases h
  | .bl b => fun S X ξ e c h => by
    unfold chk at h
    split at h
    · have e1 := eq_of_beq h
      subst e1
      unfold den denT
      exact ⟨de_bl, val_of de_bl rfl⟩
    · cases h
  | .non => fun S X ξ e c h => by
    unfold chk at h
    split at h
    · unfold den denT
      exact ⟨de_non, dt_never⟩
    · cases h
  | .str s => fun S X ξ e c h => by
    unfold chk at h
    split at h
    · have e1 := isN_ok h
      subst e1
      unfold den denT
      exact ⟨de_str, dt_never⟩
    · cases h
  | .g i => fun S X ξ e c h => by
    unfold chk at h
    split at h
    · rename_i x p
      unfold den denT
      cases q : T.vals[i]? with
      | none => rw [q] at h; cases h
      | some v =>
        rw [q] at h
        obtain ⟨e1, g, d, _⟩ := gN_ok c h
        obtain ⟨w, u, h1, h2, h3⟩ := c.g.vals i v q
        rw [← e1] at h1
        exact ⟨de_glob g h1 h2 h3 d, dt_never⟩
    · cases h
  | .bin o a b => fun S X ξ e c h => by
    unfold chk at h
    split at h
    · obtain ⟨h1, h2⟩ := and2 h
      obtain ⟨h2, h3⟩ := and2 h2
      cases of_decide_eq_true h1
      obtain ⟨r, q1, q2⟩ := bo_ok c o
      unfold den denT
      exact ⟨de_bin q1 q2 (snd a _ _ _ _ c h2).1 (snd b _ _ _ _ c h3).1, dt_never⟩
    · cases h
  | .neg a => fun S X ξ e c h => by
    unfold chk at h
    split at h
    · unfold den denT
      exact ⟨de_un un_neg dop_neg (snd a _ _ _ _ c h).1, dt_never⟩
    · cases h
  | .cmp o a b => fun S X ξ e c h => by
    unfold chk at h
    split at h
    · obtain ⟨h1, h2⟩ := and2 h
      obtain ⟨h2, h3⟩ := and2 h2
      obtain ⟨h3, h4⟩ := and2 h3
      cases of_decide_eq_true h1
      obtain ⟨r, q1, q2⟩ := co_ok c o
      unfold den denT
      exact ⟨de_cmp q1 q2 (snd a _ _ _ _ c h3).1 (snd b _ _ _ _ c h4).1 (behind_of h2), dt_cmp q1 q2 (snd a _ _ _ _ c h3).1 (snd b _ _ _ _ c h4).1 (behind_of h2)⟩
    · cases h
  | .chain o o' a b d => fun S X ξ e c h => by
    unfold chk at h
    split at h
    · obtain ⟨h1, h2⟩ := and2 h
      obtain ⟨h2, h3⟩ := and2 h2
      obtain ⟨h3, h4⟩ := and2 h3
      obtain ⟨h4, h5⟩ := and2 h4
      obtain ⟨h5, h6⟩ := and2 h5
      cases of_decide_eq_true h1
      cases of_decide_eq_true h2
      obtain ⟨r, q1, q2⟩ := co_ok c o
      obtain ⟨r', q1', q2'⟩ := co_ok c o'
      have sa := (snd a _ _ _ _ c h4).1
      have sb := (snd b _ _ _ _ c h5).1
      have sd := (snd d _ _ _ _ c h6).1
      unfold den denT
      refine ⟨de_chain q2 q2' (pe_chain q1 q1' sa sb sd (last_of h3)), ?_⟩
      exact pt_weak (pt_chain q1 q1' sa sb sd (last_of h3)) fun σ H Q q => lift_chain q2 q2' _ _ _ σ H _ (lift_test _ σ H Q q |> fun z => by
        obtain ⟨τ, G, P, rs, rl, p, k⟩ := q
        exact ⟨τ, G, _, rs, rl, p, fun d G' v H' z r f ⟨cc, e, p1⟩ => by subst e; exact ⟨cc, rep_bl.mp z, k cc G' H' r f p1⟩⟩)
    · cases h
  | .not a => fun S X ξ e c h => by
    unfold chk at h
    split at h
    · unfold den denT
      exact ⟨de_not (snd a _ _ _ _ c h).1, dt_not (snd a _ _ _ _ c h).2⟩
    · cases h
  | .and xs => fun S X ξ e c h => by
    unfold chk at h
    split at h
    · unfold den denT
      obtain ⟨q1, q2⟩ := (sndA xs).an (pos := by assumption) c h
      exact ⟨q1, q2.pt⟩
    · cases h
  | .or xs => fun S X ξ e c h => by
    unfold chk at h
    split at h
    · unfold den denT
      obtain ⟨q1, q2⟩ := (sndA xs).or (pos := by assumption) c h
      exact ⟨q1, q2.pt⟩
    · cases h
  | .ite z a b => fun S X ξ e c h => by
    unfold chk at h
    split at h
    · obtain ⟨h1, h2⟩ := and2 h
      obtain ⟨h2, h3⟩ := and2 h2
      refine ⟨?_, ?_⟩
      · rw [den]
        exact de_ite (snd z _ _ _ _ c h1).2 (snd a _ _ _ _ c h2).1 (snd b _ _ _ _ c h3).1
      · rw [denT]
        exact dt_ite (snd z _ _ _ _ c h1).2 (snd a _ _ _ _ c h2).2 (snd b _ _ _ _ c h3).2
    · cases h
  | .ix a b => fun S X ξ e c h => by
    unfold chk at h
    split at h
    · obtain ⟨h1, h2⟩ := and2 h
      obtain ⟨h2, h3⟩ := and2 h2
      have hu := c.room.units
      have key := de_ix (pos := by assumption) (ix_all (X := X) (by omega)) dop_ix (snd a _ _ _ _ c h2).1 (snd b _ _ _ _ c h3).1 (ix_of h1)
      unfold den denT
      exact ⟨key, val_of key rfl⟩
    · cases h
  | .sl0 a => fun S X ξ e c h => by
    unfold chk at h
    split at h
    · unfold den denT
      exact ⟨de_slice (snd a _ _ _ _ c h).1 do_none do_none, dt_never⟩
    · cases h
  | .slL a lo => fun S X ξ e c h => by
    unfold chk at h
    split at h
    · obtain ⟨h1, h2⟩ := and2 h
      unfold den denT
      exact ⟨de_slice (snd a _ _ _ _ c h1).1 (do_some (snd lo _ _ _ _ c h2).1) do_none, dt_never⟩
    · cases h
  | .slH a hi => fun S X ξ e c h => by
    unfold chk at h
    split at h
    · obtain ⟨h1, h2⟩ := and2 h
      unfold den denT
      exact ⟨de_slice (snd a _ _ _ _ c h1).1 do_none (do_some (snd hi _ _ _ _ c h2).1), dt_never⟩
    · cases h
  | .slLH a lo hi => fun S X ξ e c h => by
    unfold chk at h
    split at h
    · obtain ⟨h1, h2⟩ := and2 h
      obtain ⟨h2, h3⟩ := and2 h2
      unfold den denT
      exact ⟨de_slice (snd a _ _ _ _ c h1).1 (do_some (snd lo _ _ _ _ c h2).1) (do_some (snd hi _ _ _ _ c h3).1), dt_never⟩
    · cases h
  | .rev a => fun S X ξ e c h => by
    unfold chk at h
    split at h
    · obtain ⟨h1, h2⟩ := and2 h
      cases of_decide_eq_true h1
      unfold den denT
      exact ⟨pe_weak (pe_revA (snd a _ _ _ _ c h2).1) (lift_rev _), dt_never⟩
    · cases h
  | .tup xs => fun S X ξ e c h => by
    unfold chk at h
    split at h
    · obtain ⟨h1, h2⟩ := and2 h
      unfold den denT
      exact ⟨de_tup ((sndA xs).a c h2 h1), dt_never⟩
    · cases h
  | .lst xs => fun S X ξ e c h => by
    unfold chk at h
    split at h
    · obtain ⟨h1, h2⟩ := and2 h
      unfold den denT
      exact ⟨de_lst ((sndA xs).a c h2 h1), dt_never⟩
    · cases h
  | .dct ks vs => fun S X ξ e c h => by
    refine ⟨?_, by unfold denT; exact dt_never⟩
    unfold chk at h
    split at h
    · rename_i keys values pos
      obtain ⟨h1, h⟩ := and2 h
      obtain ⟨h2, h⟩ := and2 h
      obtain ⟨h3, h⟩ := and2 h
      have l1 := of_decide_eq_true h1
      have l2 := of_decide_eq_true h2
      have l3 := of_decide_eq_true h3
      cases q : omap id keys with
      | none => rw [q] at h; cases h
      | some es =>
        rw [q] at h
        obtain ⟨h4, h5⟩ := and2 h
        have hk : keys = es.map some := omap_id q
        subst hk
        rw [List.length_map] at l1 l2 l3
        cases ks with
        | nil =>
          have e1 : es = [] := List.eq_nil_of_length_eq_zero l3.symm
          subst e1
          have e2 : values = [] := List.eq_nil_of_length_eq_zero l2.symm
          subst e2
          rw [den]
          exact pe_weak pe_dnewK lift_newK
        | cons k ks =>
          rw [den]
          have hne : es.map some ≠ ([] : List (Option Expr)) := by
            cases es with
            | nil => cases l3
            | cons a b => simp
          refine pe_weak (pe_disp (pps_of ((sndA (k :: ks)).e c h4) ((sndA vs).e c h5) l2) (by simp) (by rw [List.length_map]; exact l2) hne (by rw [List.length_map]; exact l1)) (lift_disp _)
    · cases h
  | .xtup xs => fun S X ξ e c h => by
    unfold chk at h
    split at h
    · obtain ⟨h1, h2⟩ := and2 h
      unfold den denT
      exact ⟨pe_weak (pe_xtup ((sndA xs).a c h2 h1)) (lift_xtup _), dt_never⟩
    · cases h
  | .fg a => fun S X ξ e c h => by
    unfold chk at h
    refine ⟨?_, ?_⟩
    · rw [den]
      exact pe_weak (snd a _ _ _ _ c h).1 (lift_fg _)
    · unfold denT
      exact dt_never
  | .callK x f n m pm ps ks xs kxs => fun S X ξ e c h => by
    unfold chk at h
    split at h
    · rename_i y p es kws pos
      obtain ⟨h1, h⟩ := and2 h
      obtain ⟨h2, h⟩ := and2 h
      obtain ⟨h3, h⟩ := and2 h
      obtain ⟨h4, h⟩ := and2 h
      obtain ⟨h5, h⟩ := and2 h
      obtain ⟨h6, h⟩ := and2 h
      obtain ⟨h7, h8⟩ := and2 h
      have key := de_callK (p := p) (pos := pos) c h1 (mem_of_c h2) h3 (of_decide_eq_true h4) h5 (of_decide_eq_true h6) ((sndA xs).a c h7 h3) (fun e => by
        subst e
        rw [chkA_nil h7, denA]) ((sndA kxs).e c h8)
      rw [← denA_fold] at key
      unfold den denT
      exact ⟨key, val_of key rfl⟩
    · cases h
  | .lzip xs => fun S X ξ e c h => by
    unfold chk at h
    split at h
    · rename_i y p z p2 es cpos pos
      obtain ⟨h1, h2⟩ := and2 h
      obtain ⟨h2, h3⟩ := and2 h2
      obtain ⟨h3, h4⟩ := and2 h3
      obtain ⟨h4, h5⟩ := and2 h4
      obtain ⟨h5, h6⟩ := and2 h5
      obtain ⟨h6, h7⟩ := and2 h6
      have key := de_lzip (p := p) (p2 := p2) (cpos := cpos) (pos := pos) c h1 (mem_of_c h2) h3 (mem_of_c h4) h5 (by simpa using h6) ((sndA xs).a c h7 h5)
      unfold den denT
      exact ⟨key, dt_never⟩
    · cases h
  | .lam i => fun S X ξ e c h => by
    unfold chk at h
    split at h
    · rename_i params body scope pos
      split at h
      · rename_i p q
        obtain ⟨h1, h2⟩ := and2 h
        obtain ⟨h2, h3⟩ := and2 h2
        unfold den denT
        rw [q]
        exact ⟨de_lam c h1 (of_decide_eq_true h2) h3, dt_never⟩
      · cases h
    · cases h
  | .callV i xs => fun S X ξ e c h => by
    unfold chk at h
    split at h
    · rename_i x p es pos
      obtain ⟨h1, h2⟩ := and2 h
      obtain ⟨h2, h3⟩ := and2 h2
      obtain ⟨h3, h4⟩ := and2 h3
      obtain ⟨h4, h5⟩ := and2 h4
      obtain ⟨h5, h6⟩ := and2 h5
      have key := de_callV (p := p) (pos := pos) c (of_decide_eq_true h1) h2 h3 h4 (by simpa using h5) ((sndA xs).a c h6 h4)
      unfold den denT
      exact ⟨key, val_of key rfl⟩
    · cases h
  | .kget x a => fun S X ξ e c h => by
    unfold chk at h
    split at h
    · rename_i y p2 g ap u p
      obtain ⟨h1, h⟩ := and2 h
      obtain ⟨h2, h⟩ := and2 h
      obtain ⟨h3, h⟩ := and2 h
      obtain ⟨h4, h⟩ := and2 h
      obtain ⟨h5, h⟩ := and2 h
      unfold den denT
      exact ⟨de_kget c h1 (isN_ok h2) h3 h4 h5 (snd a _ _ _ _ c h).1, dt_never⟩
    · cases h
  | .call x f n xs => fun S X ξ e c h => by
    unfold chk at h
    split at h
    · rename_i y p es pos
      obtain ⟨h1, h2⟩ := and2 h
      obtain ⟨h2, h3⟩ := and2 h2
      obtain ⟨h3, h4⟩ := and2 h3
      have key := de_call (p := p) (pos := pos) c h1 (mem_of_c h2) h3 ((sndA xs).a c h4 h3) fun e => by
        subst e
        rw [chkA_nil h4, denA]
      unfold den denT
      exact ⟨key, val_of key rfl⟩
    · cases h
  | .bf b xs => fun S X ξ e c h => by
    unfold chk at h
    split at h
    · rename_i y p es pos
      obtain ⟨h1, h2⟩ := and2 h
      obtain ⟨h2, h3⟩ := and2 h2
      obtain ⟨h3, h4⟩ := and2 h3
      obtain ⟨h4, h5⟩ := and2 h4
      have key := de_bf (p := p) (pos := pos) c h1 (mem_of_c h2) h3 (by simpa using h4) ((sndA xs).a c h5 h3)
      unfold den denT
      exact ⟨key, val_of key rfl⟩
    · cases h
  | .bm b o xs => fun S X ξ e c h => by
    unfold chk at h
    split at h
    · rename_i x m ap es pos
      obtain ⟨h1, h2⟩ := and2 h
      obtain ⟨h2, h3⟩ := and2 h2
      obtain ⟨h3, h4⟩ := and2 h3
      obtain ⟨h4, h5⟩ := and2 h4
      obtain ⟨h5, h6⟩ := and2 h5
      obtain ⟨h6, h7⟩ := and2 h6
      unfold den denT
      exact ⟨de_bm c (isN_ok h1) h2 h3 (of_decide_eq_true h4) h5 (snd o _ _ _ _ c h6).1 ((sndA xs).a c h7 h3) (fun e => by
        subst e
        rw [chkA_nil h7, denA]), dt_never⟩
    · cases h
  | .own cl m f n o xs => fun S X ξ e c h => by
    unfold chk at h
    split at h
    · rename_i x y ap es pos
      obtain ⟨h1, h2⟩ := and2 h
      obtain ⟨h2, h3⟩ := and2 h2
      obtain ⟨h3, h4⟩ := and2 h3
      obtain ⟨h4, h5⟩ := and2 h4
      obtain ⟨h5, h6⟩ := and2 h5
      obtain ⟨h6, h7⟩ := and2 h6
      obtain ⟨h7, h8⟩ := and2 h7
      have key := de_own (ap := ap) (pos := pos) c (isN_ok h1) (mem_of_c h2) h3 h4 (of_decide_eq_true h5) h6 (snd o _ _ _ _ c h7).1 ((sndA xs).a c h8 h4) (fun e => by
        subst e
        rw [chkA_nil h8, denA])
      unfold den denT
      exact ⟨key, val_of key rfl⟩
    · cases h
  | .mk x cl f n xs => fun S X ξ e c h => by
    unfold chk at h
    split at h
    · rename_i y p es pos
      obtain ⟨h1, h2⟩ := and2 h
      obtain ⟨h2, h3⟩ := and2 h2
      obtain ⟨h3, h4⟩ := and2 h3
      unfold den denT
      exact ⟨de_mk c h1 (mem_of_c h2) h3 ((sndA xs).a c h4 h3) fun e => by
        subst e
        rw [chkA_nil h4, denA], dt_never⟩
    · cases h
  | .isi x cl a => fun S X ξ e c h => by
    unfold chk at h
    split at h
    · rename_i y p u z p2 pos
      obtain ⟨h1, h2⟩ := and2 h
      obtain ⟨h2, h3⟩ := and2 h2
      obtain ⟨h3, h4⟩ := and2 h3
      obtain ⟨h4, h5⟩ := and2 h4
      obtain ⟨h5, h6⟩ := and2 h5
      have key := de_isi (p := p) (p2 := p2) (pos := pos) c h1 (mem_of_c h2) h3 (mem_of_c h4) h5 (snd a _ _ _ _ c h6).1
      unfold den denT
      exact ⟨key, val_of key rfl⟩
    · cases h
  | .fld f a => fun S X ξ e c h => by
    unfold chk at h
    split at h
    · rename_i x g pos
      obtain ⟨h1, h2⟩ := and2 h
      obtain ⟨h2, h3⟩ := and2 h2
      have e1 := isN_ok h1
      subst e1
      have key := de_fld (pos := pos) (cs := T.clsOf f) (fun cl hcl => c.g.flds cl f (by
        unfold GT.clsOf at hcl
        obtain ⟨q, hq, e2⟩ := List.mem_map.mp hcl
        obtain ⟨q1, q2⟩ := List.mem_filter.mp hq
        have e3 := eq_of_beq q2
        rw [← e2, ← e3]; exact q1)) (snd a _ _ _ _ c h3).1 (base_of h2)
      unfold den denT
      exact ⟨key, val_of key rfl⟩
    · cases h
  | .lc vs tg ik it cs el => fun S X ξ e c h => by
    unfold chk at h
    split at h
    · rename_i elt t iter ifs as scope pos
      obtain ⟨h1, h2⟩ := and2 h
      obtain ⟨h2, h3⟩ := and2 h2
      obtain ⟨h3, h4⟩ := and2 h3
      obtain ⟨h4, h5⟩ := and2 h4
      obtain ⟨h5, h6⟩ := and2 h5
      obtain ⟨h6, h7⟩ := and2 h6
      obtain ⟨h7, h8⟩ := and2 h7
      obtain ⟨h8, h9⟩ := and2 h8
      cases of_decide_eq_true h1
      have hv := of_decide_eq_true h3
      have hsub : ∀ i ∈ tg.vars, i ∈ vs := fun i hi => of_decide_eq_true (List.all_eq_true.mp h4 i hi)
      have hi : DI X ξ t iter (dIter ik (denL T C ξ.EX it) (denA T C ξ.EX it)) := by
        cases q : itArgs T S ik t iter with
        | none => rw [q] at h7; cases h7
        | some es =>
          rw [q] at h7
          have hst : es.all notStar = true := it_star q
          exact it_ok c q ((sndA it).a c h7 hst) fun e te e1 e2 => (sndA it).l c h7 e1 e2
      have key := pe_weak (pe_lc (tt := liftT X.K xi0 (denC T C EX0 cs)) (te := liftE X.K xi0 (den T C EX0 el)) (pos := pos) (elt := elt) (ifs := ifs) c.calm (by rw [c.N]; exact c.nd) hi (blkOk_by (by rw [c.N, c.sc]; exact h2)) (fun s H Ca cl fp => sndTg (c.blk scope s H Ca cl fp) tg t h5) (fun s H Ca cl fp => (sndA cs).c (c.blk scope s H Ca cl fp) h8) (fun s H Ca cl fp => (snd el _ _ _ _ (c.blk scope s H Ca cl fp) h9).1) (fun x => fold_of h6)) (by rw [hv]; exact lift_lc (dIter ik (denL T C ξ.EX it) (denA T C ξ.EX it)) tg (denC T C EX0 cs) (den T C EX0 el) vs hsub)
      unfold den denT
      exact ⟨key, dt_never⟩
    · cases h
  | .dc vs tg ik it cs k el => fun S X ξ e c h => by
    unfold chk at h
    split at h
    · rename_i ke elt t iter ifs as scope pos
      obtain ⟨h1, h2⟩ := and2 h
      obtain ⟨h2, h3⟩ := and2 h2
      obtain ⟨h3, h4⟩ := and2 h3
      obtain ⟨h4, h5⟩ := and2 h4
      obtain ⟨h5, h6⟩ := and2 h5
      obtain ⟨h6, h7⟩ := and2 h6
      obtain ⟨h7, h8⟩ := and2 h7
      obtain ⟨h8, h9⟩ := and2 h8
      obtain ⟨h9, h10⟩ := and2 h9
      cases of_decide_eq_true h1
      have hv := of_decide_eq_true h3
      have hsub : ∀ i ∈ tg.vars, i ∈ vs := fun i hi => of_decide_eq_true (List.all_eq_true.mp h4 i hi)
      have hi : DI X ξ t iter (dIter ik (denL T C ξ.EX it) (denA T C ξ.EX it)) := by
        cases q : itArgs T S ik t iter with
        | none => rw [q] at h7; cases h7
        | some es =>
          rw [q] at h7
          have hst : es.all notStar = true := it_star q
          exact it_ok c q ((sndA it).a c h7 hst) fun e te e1 e2 => (sndA it).l c h7 e1 e2
      have key := pe_weak (pe_dc (tt := liftT X.K xi0 (denC T C EX0 cs)) (tk := liftE X.K xi0 (den T C EX0 k)) (tv := liftE X.K xi0 (den T C EX0 el)) (pos := pos) (kx := ke) (vx := elt) (ifs := ifs) c.calm (by rw [c.N]; exact c.nd) hi (blkOk_by (by rw [c.N, c.sc]; exact h2)) (fun s H Ca cl fp => sndTg (c.blk scope s H Ca cl fp) tg t h5) (fun s H Ca cl fp => (sndA cs).c (c.blk scope s H Ca cl fp) h8) (fun s H Ca cl fp => (snd k _ _ _ _ (c.blk scope s H Ca cl fp) h9).1) (fun s H Ca cl fp => (snd el _ _ _ _ (c.blk scope s H Ca cl fp) h10).1) (fun x => fold_of h6)) (by rw [hv]; exact lift_dc (dIter ik (denL T C ξ.EX it) (denA T C ξ.EX it)) tg (denC T C EX0 cs) (den T C EX0 k) (den T C EX0 el) vs hsub)
      unfold den denT
      exact ⟨key, dt_never⟩
    · cases h
  | .mkx x cl f i kw a => fun S X ξ e c h => by
    unfold chk at h
    split at h
    · rename_i y p es kws pos
      obtain ⟨h1, k1⟩ := and2 h
      obtain ⟨h2, h3⟩ := and2 k1
      clear h k1
      unfold den denT
      refine ⟨?_, dt_never⟩
      split at h3
      · obtain ⟨h4, h5⟩ := and2 h3
        exact de_mkx c h1 (mem_of_c h2) h4 (snd a _ _ _ _ c h5).1
      · obtain ⟨h4, h5⟩ := and2 h3
        exact de_mkxK c h1 (mem_of_c h2) (of_decide_eq_true h4) (snd a _ _ _ _ c h5).1
      · cases h3
    · cases h
  | .mkb x cl => fun S X ξ e c h => by
    unfold chk at h
    split at h
    · obtain ⟨h1, h2⟩ := and2 h
      unfold den denT
      exact ⟨de_mkb c h1 (mem_of_c h2), dt_never⟩
    · cases h
  | .xfld f a => fun S X ξ e c h => by
    unfold chk at h
    split at h
    · obtain ⟨h1, h2⟩ := and2 h
      obtain ⟨h2, h3⟩ := and2 h2
      have e1 := isN_ok h1
      subst e1
      unfold den denT
      exact ⟨de_xfld c (snd a _ _ _ _ c h3).1 h2, dt_never⟩
    · cases h
  | .xisi tp ns a => fun S X ξ e c h => by
    unfold chk at h
    split at h
    · rename_i y p u z pos
      obtain ⟨h1, k1⟩ := and2 h
      obtain ⟨h2, k2⟩ := and2 k1
      obtain ⟨h3, k3⟩ := and2 k2
      obtain ⟨h4, k4⟩ := and2 k3
      obtain ⟨h5, h6⟩ := and2 k4
      clear h k1 k2 k3 k4
      have hm : ∀ p ∈ ns, p ∈ T.xns := fun q hq => mem_of_c (List.all_eq_true.mp h5 q hq)
      have key : DE X ξ (.Call (.Name y p) [u, z] [] pos) (dXisi T.xcl T.xsub (ns.map (·.2)) (den T C ξ.EX a)) := by
        split at h6
        · obtain ⟨h7, h8⟩ := and2 h6
          exact de_xisiT c h1 (mem_of_c h2) hm (of_decide_eq_true h7) h8 h3 (snd a _ _ _ _ c h4).1
        · exact de_xisi c h1 (mem_of_c h2) hm h6 h3 (snd a _ _ _ _ c h4).1
        · cases h6
      unfold den denT
      exact ⟨key, val_of key rfl⟩
    · cases h
  | .lrng a => fun S X ξ e c h => by
    unfold chk at h
    split at h
    · obtain ⟨h1, h2⟩ := and2 h
      obtain ⟨h2, h3⟩ := and2 h2
      obtain ⟨h3, h4⟩ := and2 h3
      obtain ⟨h4, h5⟩ := and2 h4
      obtain ⟨h5, h6⟩ := and2 h5
      unfold den denT
      exact ⟨de_lrng c h1 (mem_of_c h2) h3 (mem_of_c h4) h5 (snd a _ _ _ _ c h6).1, dt_never⟩
    · cases h
  | .never => fun S X ξ e c h => by
    unfold den denT
    exact ⟨de_never, dt_never⟩
theorem sndA : ∀ xs : List DX, SndA T C j xs
  | [] => {
    a := fun {S X ξ es} c h _ => by
      unfold chkA at h
      have e := List.isEmpty_iff.mp h
      subst e
      unfold denA
      exact da_nil
    l := fun c h e e2 => by
      unfold denL at e2
      cases e2
    e := fun {S X ξ es} c h => by
      unfold chkA at h
      have e := List.isEmpty_iff.mp h
      subst e
      unfold denL
      exact .nil
    an := fun {S X ξ es pos} c h => by
      unfold denAnd denAndT
      exact ⟨de_never, dw_never⟩
    or := fun {S X ξ es pos} c h => by
      unfold denOr denOrT
      exact ⟨de_never, dw_never⟩
    c := fun {S X ξ es} c h => by
      unfold chkA at h
      have e := List.isEmpty_iff.mp h
      subst e
      unfold denC
      exact pts_weak pts_nil lift_yes }
  | x :: xs => {
    a := fun {S X ξ es} c h hs => by
      unfold chkA at h
      split at h
      · rename_i e r
        obtain ⟨h1, h2⟩ := and2 h
        rw [List.all_cons, Bool.and_eq_true] at hs
        unfold denA
        exact da_cons (snd x _ _ _ _ c h1).1 ((sndA xs).a c h2 hs.2) (star_cons hs.1)
      · cases h
    l := fun {S X ξ es e te} c h e1 e2 => by
      subst e1
      unfold chkA at h
      obtain ⟨h1, h2⟩ := and2 h
      unfold denL at e2
      simp only [List.cons.injEq] at e2
      rw [← e2.1]
      exact (snd x _ _ _ _ c h1).1
    e := fun {S X ξ es} c h => by
      unfold chkA at h
      split at h
      · obtain ⟨h1, h2⟩ := and2 h
        unfold denL
        exact .cons (snd x _ _ _ _ c h1).1 ((sndA xs).e c h2)
      · cases h
    an := fun {S X ξ es pos} c h => by
      unfold chkA at h
      split at h
      · rename_i e r
        obtain ⟨h1, h2⟩ := and2 h
        obtain ⟨q1, q2⟩ := snd x _ _ _ _ c h1
        cases xs with
        | nil =>
          unfold chkA at h2
          have e := List.isEmpty_iff.mp h2
          subst e
          unfold denAnd denAndT
          exact ⟨de_one q1, dw_and1 q2⟩
        | cons y ys =>
          cases r with
          | nil => exact absurd (chkA_nil h2) (by simp)
          | cons e2 r2 =>
            obtain ⟨z1, z2⟩ := (sndA (y :: ys)).an (pos := pos) c h2
            rw [denAnd, denAndT]
            exact ⟨de_and q1 z1, dw_and q2 z2⟩
      · cases h
    or := fun {S X ξ es pos} c h => by
      unfold chkA at h
      split at h
      · rename_i e r
        obtain ⟨h1, h2⟩ := and2 h
        obtain ⟨q1, q2⟩ := snd x _ _ _ _ c h1
        cases xs with
        | nil =>
          unfold chkA at h2
          have e := List.isEmpty_iff.mp h2
          subst e
          unfold denOr denOrT
          exact ⟨de_one q1, dw_or1 q2⟩
        | cons y ys =>
          cases r with
          | nil => exact absurd (chkA_nil h2) (by simp)
          | cons e2 r2 =>
            obtain ⟨z1, z2⟩ := (sndA (y :: ys)).or (pos := pos) c h2
            rw [denOr, denOrT]
            exact ⟨de_or q1 z1, dw_or q2 z2⟩
      · cases h
    c := fun {S X ξ es} c h => by
      unfold chkA at h
      split at h
      · rename_i e r
        obtain ⟨h1, h2⟩ := and2 h
        cases xs with
        | nil =>
          unfold chkA at h2
          have e := List.isEmpty_iff.mp h2
          subst e
          unfold denC
          exact pts_one (snd x _ _ _ _ c h1).2
        | cons y ys =>
          unfold denC
          exact pts_never
      · cases h }
end
end
end DL
end
section
set_option Elab.async false
set_option linter.all false
set_option maxRecDepth 100000
set_option autoImplicit false
namespace DL
open PySem PySem.Spec PyProof.Rows L2
/-- two, three names against as many values, stored from the right -/
def isStar : Expr → Bool
  | .Starred _ _ => true
  | _ => false
def swapB (vs : List Expr) : Bool := vs.all notStar && (!(vs.all (foldedForSure 8)) && !(vs.all (constantsAlone 8)))
theorem sw2 {x y : Str} {px py pt pt2 : Pos} {kt k2 : Nat} {a b : Expr} {env : Env} (hk : env.scope.kind = .function) (hx : env.scope.names.lookup x = some .local) (hy : env.scope.names.lookup y = some .local) (hl : (py.line == px.line) = true) (hxy : x ≠ y) (h : swapB [a, b] = true) :
    swappedStores [.Tuple [.Name x px, .Name y py] kt pt] (.Tuple [a, b] k2 pt2) env = pure (some [x, y]) := by
  have kx : env.kindOf x = some .local := hx
  have ky : env.kindOf y = some .local := hy
  have hb : env.blockKind = .function := by unfold Env.blockKind; rw [hk]; rfl
  unfold swapB at h
  simp only [Bool.and_eq_true, Bool.not_eq_true'] at h
  obtain ⟨h1, h2, h3⟩ := h
  have hd : [x, y].eraseDups = [x, y] := by
    have : (y == x) = false := by simpa using (fun e => hxy e.symm)
    simp [List.eraseDups_cons, this]
  unfold swappedStores
  simp only [hb, List.length_cons, List.length_nil]
  simp only [List.head?_cons, Option.map_some, Option.getD_some, List.filterMap_cons, List.filterMap_nil, kx, ky, hl, beq_self_eq_true, Bool.and_self, if_true]
  simp only [Expr.pos, hl, beq_self_eq_true, Bool.and_true, if_true, List.length_cons, List.length_nil, hd, h2, h3]
  split
  · rename_i q; simp at q
  split
  · rename_i q
    obtain ⟨e, he, q'⟩ := List.any_eq_true.mp q
    have h9 := List.all_eq_true.mp h1 e he
    cases e <;> first | exact absurd h9 Bool.false_ne_true | exact absurd q' Bool.false_ne_true
  simp
theorem sw3 {x y z : Str} {px py pz pt pt2 : Pos} {kt k2 : Nat} {a b c : Expr} {env : Env} (hk : env.scope.kind = .function) (hx : env.scope.names.lookup x = some .local) (hy : env.scope.names.lookup y = some .local) (hz : env.scope.names.lookup z = some .local) (hl : (py.line == px.line) = true) (hl2 : (pz.line == px.line) = true)
    (hxy : x ≠ y) (hxz : x ≠ z) (hyz : y ≠ z) (h : swapB [a, b, c] = true) : swappedStores [.Tuple [.Name x px, .Name y py, .Name z pz] kt pt] (.Tuple [a, b, c] k2 pt2) env = pure (some [x, y, z]) := by
  have kx : env.kindOf x = some .local := hx
  have ky : env.kindOf y = some .local := hy
  have kz : env.kindOf z = some .local := hz
  have hb : env.blockKind = .function := by unfold Env.blockKind; rw [hk]; rfl
  unfold swapB at h
  simp only [Bool.and_eq_true, Bool.not_eq_true'] at h
  obtain ⟨h1, h2, h3⟩ := h
  have hd : [x, y, z].eraseDups = [x, y, z] := by
    have e1 : (y == x) = false := by simpa using (fun e => hxy e.symm)
    have e2 : (z == x) = false := by simpa using (fun e => hxz e.symm)
    have e3 : (z == y) = false := by simpa using (fun e => hyz e.symm)
    simp [List.eraseDups_cons, e1, e2, e3]
  unfold swappedStores
  simp only [hb, List.length_cons, List.length_nil]
  simp only [List.head?_cons, Option.map_some, Option.getD_some, List.filterMap_cons, List.filterMap_nil, kx, ky, kz, hl, hl2, beq_self_eq_true, Bool.and_self, if_true]
  simp only [Expr.pos, hl, hl2, beq_self_eq_true, Bool.and_true, if_true, List.length_cons, List.length_nil, hd, h2, h3]
  split
  · rename_i q; simp at q
  split
  · rename_i q
    obtain ⟨e, he, q'⟩ := List.any_eq_true.mp q
    have h9 := List.all_eq_true.mp h1 e he
    cases e <;> first | exact absurd h9 Bool.false_ne_true | exact absurd q' Bool.false_ne_true
  simp
/-- a comprehension stored elsewhere than in a plain local name is not swapped -/
def notName : Expr → Bool
  | .Name _ _ => false
  | _ => true
theorem sw_tgt {e t : Expr} {l : Nat} {env : Env} (h : notName t = true) : swapsWith e (some t) l env = pure false := by
  cases t <;> first | (cases e <;> rfl) | cases h
theorem sw_cell {e : Expr} {x : Str} {p : Pos} {l : Nat} {env : Env} (h : env.scope.names.lookup x ≠ some .local) : swapsWith e (some (.Name x p)) l env = pure false := by
  have hk : (env.kindOf x == some .local) = false := by
    show (env.scope.names.lookup x == some .local) = false
    simpa using h
  cases e <;> first | rfl | (unfold swapsWith; simp only [hk, Bool.and_false, Bool.false_and])
end DL
end
section
set_option Elab.async false
set_option linter.all false
set_option maxRecDepth 100000
set_option autoImplicit false
namespace DL
open PySem PySem.Spec PyProof.Rows L2
/-! ### statements against the language -/
def lcB (sc : Scope) (v : Expr) (x : Str) (px : Pos) : Bool := match v with
  | .ListComp _ _ scope pos => decide (sc.kind = .function) && (decide (sc.names.lookup x = some .local) && ((px.line == pos.line) && !(scope.names.any fun (n, k) => n == x && (k == .local || k == .cell))))
  | _ => false
def isLc : DX → Bool
  | .lc _ _ _ _ _ _ => true
  | _ => false
def parN (S : SC) (i : Nat) (x : Str) : Bool := decide (S.N[i]? = some x) && decide (S.sc.names.lookup x = some .local)
mutual
def chkS (T : GT) (S : SC) : DY → Stmt → Bool
  | .asg tg e, st => match st with
    | .Assign [t] v pos => chkTg S tg t && (chk T S e v && (match tg with
      | .n i => (match t with
        | .Name x px => notComp v || (!decide (S.sc.names.lookup x = some .local) || (isLc e && lcB S.sc v x px))
        | _ => false)
      | .t _ => noSwap S.sc t v))
    | _ => false
  | .par2 i j a b, st => match st with
    | .Assign [.Tuple [.Name x px, .Name y py] _ _] (.Tuple [a', b'] _ _) _ => decide (S.sc.kind = .function) && (parN S i x && (parN S j y && ((py.line == px.line) && (decide (i ≠ j) && (decide (x ≠ y) && (swapB [a', b'] && chkA T S [a, b] [a', b']))))))
    | _ => false
  | .par3 i j l a b c, st => match st with
    | .Assign [.Tuple [.Name x px, .Name y py, .Name z pz] _ _] (.Tuple [a', b', c'] _ _) _ => decide (S.sc.kind = .function) && (parN S i x && (parN S j y && (parN S l z && ((py.line == px.line) && ((pz.line == px.line) && (decide (i ≠ j ∧ i ≠ l ∧ j ≠ l) && (decide (x ≠ y ∧ x ≠ z ∧ y ≠ z) && (swapB [a', b', c'] && chkA T S [a, b, c] [a', b', c']))))))))
    | _ => false
  | .set o i e, st => match st with
    | .Assign [.Subscript o' i' _] v _ => notSlice i' && (chk T S o o' && (chk T S i i' && chk T S e v))
    | _ => false
  | .tset o i n a b, st => match st with
    | .Assign [.Tuple [.Subscript o' i' p, .Name x px] kt pt] (.Tuple [a', b'] k2 pt2) _ => notSlice i' && (chk T S o o' && (chk T S i i' && (chkTg S (.n n) (.Name x px) && (notStar a' && (notStar b' && chkA T S [a, b] [a', b'])))))
    | _ => false
  | .fset o f e, st => match st with
    | .Assign [.Attribute o' g _] v _ => isN g f && (chk T S o o' && chk T S e v)
    | _ => false
  | .expr e, st => match st with
    | .Expr v _ => notComp v && chk T S e v
    | _ => false
  | .ret e, st => match st with
    | .Return (some v) _ => chk T S e v
    | _ => false
  | .retN, st => match st with
    | .Return none _ => true
    | _ => false
  | .ifs c a b, st => match st with
    | .If c' a' b' _ => chk T S c c' && (chkSs T S a a' && chkSs T S b b')
    | _ => false
  | .for_ tg ik it body, st => match st with
    | .For t iter b [] _ => chkTg S tg t && (notSetD iter && ((match itArgs T S ik t iter with
      | some es => chkA T S it es
      | none => false) && chkSs T S body b))
    | _ => false
  | .whl c body, st => match st with
    | .While c' b [] _ => chk T S c c' && chkSs T S body b
    | _ => false
  | .pass, st => match st with
    | .Pass _ => true
    | _ => false
  | .brk, st => match st with
    | .Break _ => true
    | _ => false
  | .cont, st => match st with
    | .Continue _ => true
    | _ => false
  | .doc, st => match st with
    | .Expr (.Constant (.str _) _ _) _ => true
    | _ => false
  | .never, _ => true
def chkSs (T : GT) (S : SC) : List DY → List Stmt → Bool
  | [], ss => ss.isEmpty
  | y :: ys, ss => match ss with
    | s :: r => chkS T S y s && chkSs T S ys r
    | [] => false
end
section
variable {T : GT} {S : SC} {C : Nat → DSp} {j : Nat} {X : Cx} {ξ : XP} {K : PySem.W.Frag}
theorem snd_lc (c : Cok T S C j X ξ) {vs : List Nat} {tg : Tg} {ik : IK} {it cs : List DX} {el : DX} {e : Expr} {i : Nat} {y : Str} {py spos : Pos} (h : chk T S (.lc vs tg ik it cs el) e = true) (hi : S.N[i]? = some y) (hl : lcB S.sc e y py = true) :
    DS X ξ (.Assign [.Name y py] e spos) (dAsg (.n i) (den T C ξ.EX (.lc vs tg ik it cs el))) := by
  unfold chk at h
  split at h
  · rename_i elt t iter ifs as scope pos
    obtain ⟨h1, h2⟩ := and2 h
    obtain ⟨h2, h3⟩ := and2 h2
    obtain ⟨h3, h4⟩ := and2 h3
    obtain ⟨h4, h5⟩ := and2 h4
    obtain ⟨h5, h6⟩ := and2 h5
    obtain ⟨h6, h7⟩ := and2 h6
    obtain ⟨h7, h8⟩ := and2 h7
    obtain ⟨h8, h9⟩ := and2 h8
    cases of_decide_eq_true h1
    have hv := of_decide_eq_true h3
    have hsub : ∀ i ∈ tg.vars, i ∈ vs := fun i hi => of_decide_eq_true (List.all_eq_true.mp h4 i hi)
    have hit : DI X ξ t iter (dIter ik (denL T C ξ.EX it) (denA T C ξ.EX it)) := by
      cases q : itArgs T S ik t iter with
      | none => rw [q] at h7; cases h7
      | some es =>
        rw [q] at h7
        exact it_ok c q ((sndA it).a c h7 (it_star q)) fun e te e1 e2 => (sndA it).l c h7 e1 e2
    unfold lcB at hl
    obtain ⟨l1, l2⟩ := and2 hl
    obtain ⟨l2, l3⟩ := and2 l2
    obtain ⟨l3, l4⟩ := and2 l3
    have ly := of_decide_eq_true l2
    rw [← c.sc] at ly l1
    have hsw := sw_true (elt := elt) (gs := [⟨t, iter, ifs, 0⟩]) (scope := scope) (pos := pos) (py := py) (l := spos.line) (of_decide_eq_true l1) ly l3 (by simpa using l4)
    have key := ps_setLc (g := gTg X.K tg) (spos := spos) (tt := liftT X.K xi0 (denC T C EX0 cs)) (te := liftE X.K xi0 (den T C EX0 el)) (pos := pos) (elt := elt) (ifs := ifs) c.calm (by rw [c.N]; exact c.nd) (by rw [c.N]; exact hi) ly hsw hit (blkOk_by (by rw [c.N, c.sc]; exact h2)) (fun s H Ca cl fp => sndTg (c.blk scope s H Ca cl fp) tg t h5) (fun s H Ca cl fp => (sndA cs).c (c.blk scope s H Ca cl fp) h8) (fun s H Ca cl fp => (snd el _ _ _ _ (c.blk scope s H Ca cl fp) h9).1) (fun x => fold_of h6)
    refine ps_weak key fun D σ H q => ?_
    rw [hv]
    rw [den] at q
    exact lift_lc (dIter ik (denL T C ξ.EX it) (denA T C ξ.EX it)) tg (denC T C EX0 cs) (den T C EX0 el) vs hsub σ H _ (lift_asg (.n i) _ D σ H q)
  · cases h
theorem ds_asg (c : Cok T S C j X ξ) {tg : Tg} {e : DX} {st : Stmt} (h : chkS T S (.asg tg e) st = true) : DS X ξ st (dAsg tg (den T C ξ.EX e)) := by
  unfold chkS at h
  split at h
  · rename_i t v pos
    obtain ⟨h1, hh⟩ := and2 h
    obtain ⟨k2, h3⟩ := and2 hh
    clear h hh
    cases tg with
    | n i =>
      simp only at h3
      split at h3
      · rename_i x px
        obtain ⟨g1, g2⟩ := and2 (show (decide (S.N[i]? = some x) && locB S x) = true from h1)
        obtain ⟨l, f⟩ := locB_ok c g2
        have gi := of_decide_eq_true g1
        have plain : swapsWith v (some (.Name x px)) pos.line X.env = pure false → DS X ξ (.Assign [.Name x px] v pos) (dAsg (.n i) (den T C ξ.EX e)) := fun hs =>
          ps_weak (ps_set (by rw [c.N]; exact c.nd) (by rw [c.N]; exact gi) l (snd e _ _ _ _ c k2).1 hs f) fun D σ H q => lift_asg (.n i) _ D σ H q
        rw [Bool.or_eq_true, Bool.or_eq_true] at h3
        rcases h3 with h3 | h3 | h3
        · exact plain (sw_of h3)
        · exact plain (sw_cell (by rw [c.sc]; simpa using h3))
        · obtain ⟨q1, q2⟩ := and2 h3
          cases e <;> first | exact snd_lc c k2 gi q2 | cases q1
      · cases h3
    | t ts =>
      have h4 : noSwap S.sc t v = true := h3
      have ht : notName t = true := by
        cases t <;> first | rfl | cases h1
      have hst : notStar t = true := by
        cases t <;> first | rfl | cases h1
      exact ps_weak (ps_asg (snd e _ _ _ _ c k2).1 (sndTg c (.t ts) t h1) (sw_tgt ht) (swn_of (by rw [c.sc]; exact h4)) (by rw [asgE_cons hst]; rfl)) fun D σ H q => lift_asg (.t ts) _ D σ H q
  · cases h
theorem lift_par3 (i k l : Nat) (ta : DTA) : ∀ D σ H, liftS K ξ (fun D τ G => ta τ G fun ds G1 => ∃ x y z, ds = [x, y, z] ∧ D.nx (((τ.set i (some x)).set k (some y)).set l (some z)) G1) D σ H → tPar3 i k l (liftA K ξ ta) D σ H :=
  fun D σ H ⟨τ, G, E, rs, rl, p, er⟩ => ⟨τ, G, _, rs, rl, p, fun ds G1 vs H1 z r1 f1 ⟨x, y, w, e, p1⟩ => by
    subst e
    obtain ⟨v1, r, rfl, z1, z⟩ := repL_cons.mp z
    obtain ⟨v2, v3, rfl, z2, z3⟩ := repL_two.mp z
    exact ⟨v1, v2, v3, rfl, er.nx _ G1 _ H1 ((((rs.mono (f1.keeps rl.1)).set i z1).set k z2).set l z3) r1 f1 p1⟩⟩
theorem sub_asg {o i : Expr} {p : Pos} {env : Env} (h : notSlice i = true) : ∀ v, assign (.Subscript o i p) env v = (do
      let ov ← holding [v] (eval o env)
      let iv ← holding [v, ov] (eval i env)
      standAt p
      holding [v, ov, iv] (setItem ov iv v)
      release [v, ov, iv] []) := fun v => by
  cases i <;> first | rfl | cases h
theorem parN_ok (c : Cok T S C j X ξ) {i : Nat} {x : Str} (h : parN S i x = true) : X.N[i]? = some x ∧ X.env.scope.names.lookup x = some .local := by
  obtain ⟨h1, h2⟩ := and2 h
  rw [c.N, c.sc]
  exact ⟨of_decide_eq_true h1, of_decide_eq_true h2⟩
mutual
theorem sndS (c : Cok T S C j X ξ) (po : PassesOwn (model X.prog X.w) X.A X.env X.xe) : ∀ (y : DY) (st : Stmt), chkS T S y st = true → DS X ξ st (denS T C ξ.EX y)
  | .asg tg e, st, h => by
    rw [denS]
    exact ds_asg c h
  | .par2 i k a b, st, h => by
    rw [denS]
    unfold chkS at h
    split at h
    · rename_i x px y py kt pt a' b' k2 pt2 pos
      obtain ⟨h1, h⟩ := and2 h
      obtain ⟨h2, h⟩ := and2 h
      obtain ⟨h3, h⟩ := and2 h
      obtain ⟨h4, h⟩ := and2 h
      obtain ⟨h5, h⟩ := and2 h
      obtain ⟨h6, h⟩ := and2 h
      obtain ⟨h7, h⟩ := and2 h
      obtain ⟨g1, g2⟩ := parN_ok c h2
      obtain ⟨g3, g4⟩ := parN_ok c h3
      have hk := of_decide_eq_true h1
      rw [← c.sc] at hk
      exact ps_weak (ps_par c.calm (by rw [c.N]; exact c.nd) g1 g3 (of_decide_eq_true h5) g2 g4 ((sndA [a, b]).a c h (and2 h7).1) (sw2 hk g2 g4 h4 (of_decide_eq_true h6) h7)) (lift_par i k _)
    · cases h
  | .par3 i k l a b d, st, h => by
    rw [denS]
    unfold chkS at h
    split at h
    · rename_i x px y py z pz kt pt a' b' c' k2 pt2 pos
      obtain ⟨h1, h⟩ := and2 h
      obtain ⟨h2, h⟩ := and2 h
      obtain ⟨h3, h⟩ := and2 h
      obtain ⟨h3', h⟩ := and2 h
      obtain ⟨h4, h⟩ := and2 h
      obtain ⟨h4', h⟩ := and2 h
      obtain ⟨h5, h⟩ := and2 h
      obtain ⟨h6, h⟩ := and2 h
      obtain ⟨h7, h⟩ := and2 h
      obtain ⟨g1, g2⟩ := parN_ok c h2
      obtain ⟨g3, g4⟩ := parN_ok c h3
      obtain ⟨g5, g6⟩ := parN_ok c h3'
      obtain ⟨n1, n2, n3⟩ := of_decide_eq_true h5
      obtain ⟨m1, m2, m3⟩ := of_decide_eq_true h6
      have hk := of_decide_eq_true h1
      rw [← c.sc] at hk
      exact ps_weak (ps_par3 c.calm (by rw [c.N]; exact c.nd) g1 g3 g5 n1 n2 n3 g2 g4 g6 ((sndA [a, b, d]).a c h (and2 h7).1) (sw3 hk g2 g4 g6 h4 h4' m1 m2 m3 h7)) (lift_par3 i k l _)
    · cases h
  | .set o i e, st, h => by
    rw [denS]
    unfold chkS at h
    split at h
    · rename_i o' i' p v pos
      obtain ⟨h1, h⟩ := and2 h
      obtain ⟨h2, h⟩ := and2 h
      obtain ⟨h3, h⟩ := and2 h
      have hu := c.room.units
      exact ps_weak (ps_asg (snd e _ _ _ _ c h).1 (pg_sub (snd o _ _ _ _ c h2).1 (snd i _ _ _ _ c h3).1 (set_all (X := X) (by omega)) (sub_asg h1)) (show swapsWith v (some (.Subscript o' i' p)) pos.line X.env = pure false from sw_tgt (t := .Subscript o' i' p) rfl) (swn_of (by cases v <;> rfl)) rfl) (lift_set _ _ _)
    · cases h
  | .tset o i n a b, st, h => by
    rw [denS]
    unfold chkS at h
    split at h
    · rename_i o' i' p x px kt pt a' b' k2 pt2 pos
      obtain ⟨h1, h⟩ := and2 h
      obtain ⟨h2, h⟩ := and2 h
      obtain ⟨h3, h⟩ := and2 h
      obtain ⟨h4, h⟩ := and2 h
      obtain ⟨h5, h⟩ := and2 h
      obtain ⟨h6, h⟩ := and2 h
      have hu := c.room.units
      have pn := sndTg c (.n n) (.Name x px) h4
      have hg : PG X (.Tuple [.Subscript o' i' p, .Name x px] kt pt) (gTup X.K 2 (gCons (gSub (liftE X.K ξ (den T C ξ.EX o)) (liftE X.K ξ (den T C ξ.EX i)) rSetAll) (gCons (gName n) gNil))) := by
        unfold gTg at pn
        exact pg_tup c.calm (pgs_cons (pg_sub (snd o _ _ _ _ c h2).1 (snd i _ _ _ _ c h3).1 (set_all (X := X) (by omega)) (sub_asg h1)) (pgs_cons pn pgs_nil))
      have ha := (sndA [a, b]).a c h (by simp [h5, h6])
      exact ps_weak (ps_asg (pe_tup ha) hg (show swapsWith (.Tuple [a', b'] k2 pt2) (some (.Tuple [.Subscript o' i' p, .Name x px] kt pt)) pos.line X.env = pure false from sw_of rfl) (swn_of (by
        show ((!(([Expr.Subscript o' i' p, Expr.Name x px] : List Expr).length == 2 || ([Expr.Subscript o' i' p, Expr.Name x px] : List Expr).length == 3) || ([a', b'] : List Expr).length != ([Expr.Subscript o' i' p, Expr.Name x px] : List Expr).length) || (!(([a', b'] : List Expr).any fun | .Starred .. => true | _ => false) && _)) = true
        cases a' <;> first | (exact absurd h5 Bool.false_ne_true) | (cases b' <;> first | (exact absurd h6 Bool.false_ne_true) | rfl))) rfl) (lift_tset _ _ n _)
    · cases h
  | .fset o f e, st, h => by
    rw [denS]
    unfold chkS at h
    split at h
    · rename_i o' g p v pos
      obtain ⟨h1, hb⟩ := and2 h
      obtain ⟨h2, h3⟩ := and2 hb
      clear hb h
      have e1 := isN_ok h1
      subst e1
      exact ds_fld (cs := T.clsOf f) (fun cl hcl => c.g.flds cl f (by
        unfold GT.clsOf at hcl
        obtain ⟨q, hq, e2⟩ := List.mem_map.mp hcl
        obtain ⟨q1, q2⟩ := List.mem_filter.mp hq
        have e3 := eq_of_beq q2
        rw [← e2, ← e3]; exact q1)) (snd o _ _ _ _ c h2).1 (snd e _ _ _ _ c h3).1 (sw_tgt rfl)
    · cases h
  | .expr e, st, h => by
    rw [denS]
    unfold chkS at h
    split at h
    · obtain ⟨h1, h⟩ := and2 h
      exact ds_expr (snd e _ _ _ _ c h).1 (sw_of h1)
    · cases h
  | .ret e, st, h => by
    rw [denS]
    unfold chkS at h
    split at h
    · exact ds_ret (snd e _ _ _ _ c h).1
    · cases h
  | .retN, st, h => by
    rw [denS]
    unfold chkS at h
    split at h
    · exact ds_retN
    · cases h
  | .ifs z a b, st, h => by
    rw [denS]
    unfold chkS at h
    split at h
    · obtain ⟨h1, h⟩ := and2 h
      obtain ⟨h2, h⟩ := and2 h
      exact ds_if (snd z _ _ _ _ c h1).2 (sndSs c po a _ h2) (sndSs c po b _ h)
    · cases h
  | .for_ tg ik it body, st, h => by
    rw [denS]
    unfold chkS at h
    split at h
    · rename_i t iter b pos
      obtain ⟨h1, h⟩ := and2 h
      obtain ⟨h2, h⟩ := and2 h
      obtain ⟨h3, h⟩ := and2 h
      have hit : DI X ξ t iter (dIter ik (denL T C ξ.EX it) (denA T C ξ.EX it)) := by
        cases q : itArgs T S ik t iter with
        | none => rw [q] at h3; cases h3
        | some es =>
          rw [q] at h3
          exact it_ok c q ((sndA it).a c h3 (it_star q)) fun e te e1 e2 => (sndA it).l c h3 e1 e2
      exact ps_weak (ps_for po c.calm hit (sndTg c tg t h1) (sndSs c po body b h) fun x => fold_of h2) (lift_for _ tg _)
    · cases h
  | .whl z body, st, h => by
    rw [denS]
    unfold chkS at h
    split at h
    · obtain ⟨h1, h⟩ := and2 h
      exact ps_weak (ps_while po (snd z _ _ _ _ c h1).2 (sndSs c po body _ h)) (lift_while _ _)
    · cases h
  | .pass, st, h => by
    rw [denS]
    unfold chkS at h
    split at h
    · exact ds_pass
    · cases h
  | .brk, st, h => by
    rw [denS]
    unfold chkS at h
    split at h
    · exact ds_break
    · cases h
  | .cont, st, h => by
    rw [denS]
    unfold chkS at h
    split at h
    · exact ds_continue
    · cases h
  | .doc, st, h => by
    rw [denS]
    unfold chkS at h
    split at h
    · exact ds_doc
    · cases h
  | .never, st, h => by
    rw [denS]
    exact ds_never
theorem sndSs (c : Cok T S C j X ξ) (po : PassesOwn (model X.prog X.w) X.A X.env X.xe) : ∀ (ys : List DY) (ss : List Stmt), chkSs T S ys ss = true → DSs X ξ ss (denSs T C ξ.EX ys)
  | [], ss, h => by
    unfold chkSs at h
    have e := List.isEmpty_iff.mp h
    subst e
    rw [denSs]
    exact dss_nil
  | y :: ys, ss, h => by
    unfold chkSs at h
    split at h
    · obtain ⟨h1, h2⟩ := and2 h
      rw [denSs]
      exact dss_cons (sndS c po y _ h1) (sndSs c po ys _ h2)
    · cases h
end
end
end DL
end
section
set_option Elab.async false
set_option linter.all false
set_option maxRecDepth 100000
set_option autoImplicit false
namespace DL
open PySem PySem.Spec PyProof.Rows L2
/-! ### a def -/
def startD (n : Nat) (ds : List DV) : DSt := ds.map some ++ List.replicate (n - ds.length) none
theorem start_rep {K : PySem.W.Frag} {H : Hp} {ds : List DV} {vs : List V} (N : List Str) (r : RepL K H ds vs) : RelS K H (startD N.length ds) (L2.start N vs) := by
  have hl := r.length
  refine ⟨by simp [startD, L2.start, hl], fun i d e => ?_⟩
  unfold startD at e
  unfold L2.start
  by_cases hi : i < ds.length
  · rw [List.getElem?_append_left (by simpa using hi), List.getElem?_map] at e
    cases q : ds[i]? with
    | none => rw [q] at e; cases e
    | some d' =>
      rw [q] at e
      cases e
      obtain ⟨v, hv, z⟩ := r.get' q
      refine ⟨v, ?_, z⟩
      rw [List.getElem?_append_left (by simp [hl]; exact hi), List.getElem?_map, hv]
      rfl
  · rw [List.getElem?_append_right (by simp; omega)] at e
    rw [List.getElem?_replicate] at e
    split at e <;> cases e
structure FD where
  name : Str
  qual : Str
  params : Arguments
  body : List Stmt
  scope : Scope
  N : List Str
  ps : List Str
  ys : List DY
  lam : Bool := false
  hand : Bool := false
def lamQ (q : Str) : Str := q ++ ".<locals>." ++ "<lambda>"
def FD.sc (d : FD) : SC := ⟨d.N, d.scope, fun _ => true, lamQ d.qual, d.lam⟩
def FD.ok (T : GT) (d : FD) : Bool := C8.scC d.N d.ps d.scope && (plainP d.params d.ps && (d.hand || chkSs T d.sc d.ys d.body))
/-- what a def's spec has to be served by -/
def Serves (T : GT) (C : Nat → DSp) (d : FD) (S : DSp) : Prop := ∀ ds G P EX, ds.length = d.ps.length → S ds G P EX → denSs T C EX d.ys { nx := fun _ G' => P .non G', rt := P } (startD d.N.length ds) G
theorem fnD {T : GT} {C : Nat → DSp} {j n : Nat} {P : Program} {w : World} {K : PySem.W.Frag} {mg : Str → Option Value} {base : Heap} {f : Addr} {fd : FuncData} {d : FD} {S : DSp} (F : FunD K d.name d.qual d.params d.body d.scope [] [] f fd) (h : d.ok T = true) (hh : d.hand = false) (hn : d.ps.length = n)
    (g : GF T C j P w K mg base) (sv : Serves T C d S) (hlam : d.lam = true → ∃ c P, fd.code = .ref c ∧ LamX.TabB base mg c P ∧ LamTab K P (lamQ d.qual)) : FnOkG P w K mg base (L2.CX P w) (j + 2) f fd d.ps (spD K n S) ∧ Binds K fd d.ps [] := by
  unfold FD.ok at h
  obtain ⟨h1, h⟩ := and2 h
  obtain ⟨h2, h3⟩ := and2 h
  rw [hh, Bool.false_or] at h3
  have sc := C8.fnScope_by h1
  refine ⟨?_, F.bindsN fun kV doc pm an cdv ct us hl => bind_plain h2 rfl hl⟩
  obtain ⟨oc, od, dV, kV, doc, pm, an, cdv, ct, osl, rfl, lk, hcd, _, _⟩ := F.ex
  refine fn_ofG lk hcd sc (fun vs H Q E ⟨ds, G, P, EX, r, _, e, _⟩ => by rw [r.length, e, hn]) fun A outer s H vs Q E gd hr ⟨ds, G, Pd, EX, r, rl, e, p, k, xr⟩ => ?_
  have tk := takes_of (X := cxOf (L2.CX P w) P w K mg base d.N d.qual d.scope f cdv A outer s H E) rfl rfl rfl rfl
  have po := passes_of (X := cxOf (L2.CX P w) P w K mg base d.N d.qual d.scope f cdv A outer s H E) rfl
  have c : Cok T d.sc C j (cxOf (L2.CX P w) P w K mg base d.N d.qual d.scope f cdv A outer s H E) ⟨EX, E⟩ := {
    sc := rfl
    N := rfl
    nd := sc.nd
    calm := rfl
    fn := rfl
    room := hr
    gd := gd
    g := g
    pass := passes_call tk fun _ _ _ _ z => z
    lam := fun hl => let ⟨c, P, e1, e2, e3⟩ := hlam hl; ⟨c, P, e1, e2, e3, rfl⟩ }
  refine ⟨_, sndSs c po d.ys d.body h3, startD d.N.length ds, G, _, start_rep d.N r, ⟨rl, xr⟩, sv ds G Pd EX (by rw [e, hn]) p, ?_⟩
  exact ⟨fun τ' G' σ' H' rs' rl' f' q => k .non G' .non H' (rep_non.mpr rfl) rl'.1 f' q, fun d G' v H' z rl' f' q => k d G' v H' z rl'.1 f' q, fun _ _ _ _ _ _ _ z => z.elim, fun _ _ _ _ _ _ _ z => z.elim⟩
/-! ### a lambda -/
structure LD where
  L : LF.LamT
  N : List Str
  ps : List Str
  x : DX
def LD.sc (d : LD) : SC := ⟨d.N, d.L.scope, fun _ => true, "", false⟩
def LD.ok (T : GT) (d : LD) : Bool := C8.scC d.N d.ps d.L.scope && (plainP d.L.params d.ps && chk T d.sc d.x d.L.body)
def ServesL (T : GT) (C : Nat → DSp) (d : LD) (S : DSp) : Prop := ∀ ds G P EX, ds.length = d.ps.length → S ds G P EX → den T C EX d.x (startD d.N.length ds) G P
theorem lamD {T : GT} {C : Nat → DSp} {j n : Nat} {P : Program} {w : World} {K : PySem.W.Frag} {mg : Str → Option Value} {base : Heap} {d : LD} {S : DSp} (h : d.ok T = true) (hn : d.ps.length = n)
    (g : GF T C j P w K mg base) (sv : ServesL T C d S) : LF.LamOk P w K mg base (L2.CX P w) (j + 2) d.L (spD K n S) := by
  unfold LD.ok at h
  obtain ⟨h1, h⟩ := and2 h
  obtain ⟨h2, h3⟩ := and2 h
  have sc := C8.fnScope_by h1
  refine LF.lam_ok sc (fun pm ctv c us hl => bind_plain h2 rfl hl) (fun vs H Q E ⟨ds, G, P, EX, r, _, e, _⟩ => by rw [r.length, e, hn]) fun A outer s H vs Q E f c gd hr ⟨ds, G, Pd, EX, r, rl, e, p, k, xr⟩ => ?_
  have tk := takes_of (X := cxOf (L2.CX P w) P w K mg base d.N d.L.q d.L.scope f (.ref c) A outer s H E) rfl rfl rfl rfl
  have cc : Cok T d.sc C j (cxOf (L2.CX P w) P w K mg base d.N d.L.q d.L.scope f (.ref c) A outer s H E) ⟨EX, E⟩ := {
    sc := rfl
    N := rfl
    nd := sc.nd
    calm := rfl
    fn := rfl
    room := hr
    gd := gd
    g := g
    pass := passes_call tk fun _ _ _ _ z => z
    lam := fun hl => by cases hl }
  exact ⟨_, (snd d.x _ _ _ _ cc h3).1, startD d.N.length ds, G, Pd, start_rep d.N r, ⟨rl, xr⟩, sv ds G Pd EX (by rw [e, hn]) p, fun d G' v H' z rl' f' q => k d G' v H' z rl'.1 f' q⟩
end DL
end
section
set_option Elab.async false
set_option linter.all false
set_option maxRecDepth 100000
set_option autoImplicit false
namespace DL
open PySem PySem.Spec PyProof.Rows L2 He XE
/-! ### the module's facts, by a Bool over what is looked at -/
abbrev Loc1 : Type := Str × Option Str
structure PT where
  T : GT
  ds : List (FD × Loc1)
  ls : List LD
  tf : List (Loc1 × Str)
def clsiB (K : PySem.W.Frag) (c : String) : Bool := (Fa.cls (Str.ofString c)).ok K && (eqO (PySem.W.findIn K (.ref (ga K c)) "__class__") (some (some (.builtin "object.__class__"))) && (eqO (PySem.W.specialIn K (.builtin "object.__class__") "__get__") (some (some (.builtin "getset_descriptor.__get__"))) &&
  (decide (PySem.W.takesIn K (.builtin "object.__class__") = some true) && decide (PySem.W.mroIn K (ga K c) (.type "object") = some true))))
theorem clsiB_ok {K : PySem.W.Frag} {c : String} (h : clsiB K c = true) : ClsI K c := by
  unfold clsiB at h
  obtain ⟨h1, h⟩ := and2 h
  obtain ⟨h2, h⟩ := and2 h
  obtain ⟨h3, h⟩ := and2 h
  obtain ⟨h4, h5⟩ := and2 h
  exact ⟨cls_ok h1, eqO_ok h2, eqO_ok h3, of_decide_eq_true h4, of_decide_eq_true h5⟩
def valB (K : PySem.W.Frag) (p : String × DV) : Bool := match p.2 with
  | .int i => (Fa.int (Str.ofString p.1) i).ok K
  | .str z => (Fa.str (Str.ofString p.1) z).ok K
  | _ => false
def atB (D : PT) (f : Nat) (n : Nat) (K : PySem.W.Frag) (a : Addr) : Bool := match D.ds[f]? with
  | some d => decide (fAd K d.2 = a) && decide (d.1.ps.length = n)
  | none => false
theorem atB_ok {D : PT} {f n : Nat} {K : PySem.W.Frag} {a : Addr} (h : atB D f n K a = true) : ∃ d, D.ds[f]? = some d ∧ fAd K d.2 = a ∧ d.1.ps.length = n := by
  unfold atB at h
  split at h
  · rename_i d e
    obtain ⟨h1, h2⟩ := and2 h
    exact ⟨d, e, of_decide_eq_true h1, of_decide_eq_true h2⟩
  · cases h
def isiB (T : GT) (K : PySem.W.Frag) (p : String × TN) : Bool := (match p.2 with
  | .b n => (Fa.free (Str.ofString p.1)).ok K && decide (bootBuiltins (Str.ofString p.1) = some (.type n))
  | .o cc => (Fa.glo (Str.ofString p.1)).ok K && decide (ga K (Str.ofString p.1) = ga K cc)) &&
  T.tys.all fun t => (match t with
    | .b _ => true
    | .o o => clsiB K o) && decide (PySem.W.kitOne K (t.v K) (p.2.v K) = some (isa T.sub t p.2))
def dv1 : DV → Option V
  | .int i => some (.int i)
  | .str z => some (.str z)
  | .bl b => some (.bl b)
  | .non => some .non
  | _ => none
theorem dv1_rep {K : PySem.W.Frag} {H : Hp} {d : DV} {v : V} (h : dv1 d = some v) : Rep K H d v := by
  unfold dv1 at h
  split at h <;> cases h
  · exact rep_int.mpr rfl
  · exact rep_str.mpr rfl
  · exact rep_bl.mpr rfl
  · exact rep_non.mpr rfl
/-- a dict of the module: its entries are these, in this order -/
def kdEs : List DictEntry → List (String × DV) → Bool
  | [], [] => true
  | e :: es, p :: ps => (match e.key with
    | .str x _ => decide (x = Str.ofString p.1)
    | _ => false) && ((match dv1 p.2 with
    | some v => relB v e.val
    | none => false) && kdEs es ps)
  | _, _ => false
def kdB (K : PySem.W.Frag) (x : String) (l : List (String × DV)) : Bool := (Fa.glo (Str.ofString x)).ok K && match K.lookup (ga K (Str.ofString x)) with
  | some ⟨_, _, .dict es _, _⟩ => kdEs es.toList l
  | _ => false
theorem kdEs_find : ∀ {es : List DictEntry} {l : List (String × DV)} (z : Str), kdEs es l = true → (es.any (·.refKey) = false) ∧
    ((kdAt l z = none → es.find? (·.key.isStr z) = none) ∧ ∀ d, kdAt l z = some d → ∃ e v, es.find? (·.key.isStr z) = some e ∧ dv1 d = some v ∧ relB v e.val = true)
  | [], [], z, h => ⟨rfl, fun _ => rfl, fun d e => by cases e⟩
  | [], _ :: _, z, h => by cases h
  | _ :: _, [], z, h => by cases h
  | e :: es, p :: ps, z, h => by
    unfold kdEs at h
    obtain ⟨h1, h⟩ := and2 h
    obtain ⟨h2, h3⟩ := and2 h
    obtain ⟨i1, i2, i3⟩ := kdEs_find z h3
    split at h1
    · rename_i x t ek
      have ex : x = Str.ofString p.1 := of_decide_eq_true h1
      subst ex
      have hk : e.key.isStr z = decide (Str.ofString p.1 = z) := by
        rw [ek]
        rfl
      have hr : e.refKey = false := by
        unfold DictEntry.refKey
        rw [ek]
      refine ⟨by rw [List.any_cons, hr, i1]; rfl, ?_, ?_⟩
      · intro q
        unfold kdAt at q i2
        rw [List.find?_cons] at q ⊢
        rw [hk]
        cases c : decide (Str.ofString p.1 = z) with
        | true => rw [c] at q; cases q
        | false => rw [c] at q; exact i2 q
      · intro d q
        unfold kdAt at q i3
        rw [List.find?_cons] at q ⊢
        rw [hk]
        cases c : decide (Str.ofString p.1 = z) with
        | true =>
          rw [c] at q
          cases q
          split at h2
          · rename_i v ev
            exact ⟨e, v, rfl, ev, h2⟩
          · cases h2
        | false => rw [c] at q; exact i3 d q
    · cases h1
theorem kdB_ok {K : PySem.W.Frag} {x : String} {l : List (String × DV)} (h : kdB K x l = true) : (Fa.glo (Str.ofString x)).ok K = true ∧ ∀ z : Str, ∃ r, PySem.W.nsIn K (ga K (Str.ofString x)) z = some r ∧ (kdAt l z = none → r = none) ∧ ∀ d, kdAt l z = some d → ∃ u v, r = some u ∧ RelV v u ∧ Rep K H0 d v := by
  unfold kdB at h
  obtain ⟨h1, h2⟩ := and2 h
  refine ⟨h1, fun z => ?_⟩
  split at h2
  · rename_i oc od es n sl q
    obtain ⟨i1, i2, i3⟩ := kdEs_find z h2
    unfold PySem.W.nsIn
    rw [q]
    cases c : kdAt l z with
    | none =>
      refine ⟨none, ?_, fun _ => rfl, fun d e => by cases e⟩
      show (match es.toList.find? (·.key.isStr z) with
        | some e => some (some e.val)
        | none => if es.toList.any (·.refKey) then none else some none) = _
      rw [i2 c, i1]
      rfl
    | some d =>
      obtain ⟨e, v, e1, e2, e3⟩ := i3 d c
      refine ⟨some e.val, ?_, ⟨(fun z => by cases z), (fun d' e' => by cases e'; exact ⟨_, v, rfl, relB_ok e3, dv1_rep e2⟩)⟩⟩
      show (match es.toList.find? (·.key.isStr z) with
        | some e => some (some e.val)
        | none => if es.toList.any (·.refKey) then none else some none) = _
      rw [e1]
  · cases h2
/-- the code objects whose lambdas are told are those of tf -/
def tabL (D : PT) (K : PySem.W.Frag) : List (Str × Addr) := D.tf.map fun p => (p.2, (cT K p.1).2)
def lamB (D : PT) (K : PySem.W.Frag) : Bool := (K.all fun q => match q.2.data with
  | .fields vs => (match (vs[1]? : Option Value), (vs[11]? : Option Value) with
    | some (.str q0 _), some (.ref P) => !(decide (q0 ∈ lamQuals)) || decide ((q0, P) ∈ tabL D K)
    | _, _ => true)
  | _ => true) && decide ((tabL D K).map (·.2)).Nodup
theorem lamB_mem {D : PT} {K : PySem.W.Frag} (h : lamB D K = true) {P : Addr} {q : Str} (t : LamTab K P q) : ∃ q0, (q0, P) ∈ tabL D K ∧ q = q0 ++ ".<locals>." ++ "<lambda>" := by
  unfold lamB at h
  obtain ⟨h1, h2⟩ := and2 h
  obtain ⟨c, o, vs, q0, tk, e1, e2, e3, e4, e5, e6⟩ := t
  have := List.all_eq_true.mp h1 (c, o) (lookup_mem e1)
  dsimp only at this
  rw [e2] at this
  dsimp only at this
  rw [e3, e4] at this
  dsimp only at this
  rw [decide_eq_true e5] at this
  exact ⟨q0, of_decide_eq_true (by simpa using this), e6⟩
theorem nodup_snd {l : List (Str × Addr)} (h : (l.map (·.2)).Nodup) {a b : Str} {P : Addr} (h1 : (a, P) ∈ l) (h2 : (b, P) ∈ l) : a = b := by
  induction l with
  | nil => cases h1
  | cons x l ih =>
    rw [List.map_cons, List.nodup_cons] at h
    rcases List.mem_cons.mp h1 with e1 | h1
    · rcases List.mem_cons.mp h2 with e2 | h2
      · rw [← e2] at e1; exact congrArg Prod.fst e1
      · exact absurd (List.mem_map.mpr ⟨_, h2, by rw [← e1]⟩) h.1
    · rcases List.mem_cons.mp h2 with e2 | h2
      · exact absurd (List.mem_map.mpr ⟨_, h1, by rw [← e2]⟩) h.1
      · exact ih h.2 h1 h2
theorem lamB_u {D : PT} {K : PySem.W.Frag} (h : lamB D K = true) : ∀ P q q', LamTab K P q → LamTab K P q' → q = q' := fun P q q' t t' => by
  obtain ⟨a, m, e⟩ := lamB_mem h t
  obtain ⟨b, m', e'⟩ := lamB_mem h t'
  unfold lamB at h
  rw [e, e', nodup_snd (of_decide_eq_true (and2 h).2) m m']
def gfB (D : PT) (K : PySem.W.Frag) : Bool :=
  D.T.free.all (fun x => (Fa.free (Str.ofString x)).ok K) && (D.T.vals.all (valB K) &&
  (D.T.fns.all (fun p => (Fa.glo (Str.ofString p.1)).ok K && atB D p.2.1 p.2.2 K (ga K (Str.ofString p.1))) &&
  (D.T.mks.all (fun p => (Fa.glo (Str.ofString p.1)).ok K && (decide (ga K (Str.ofString p.1) = ga K p.2.1) && ((Fa.mkr (Str.ofString p.2.1)).ok K && atB D p.2.2.1 p.2.2.2 K (ma K (ga K p.2.1) "__init__")))) &&
  (D.T.mets.all (fun p => (Fa.cls (Str.ofString p.1)).ok K && ((Fa.meth (Str.ofString p.1) (Str.ofString p.2.1)).ok K && atB D p.2.2.1 p.2.2.2 K (ma K (ga K p.1) (Str.ofString p.2.1)))) &&
  (D.T.flds.all (fun p => (Fa.cls (Str.ofString p.1)).ok K && (Fa.noat (Str.ofString p.1) (Str.ofString p.2)).ok K) &&
  (D.T.clss.all (isiB D.T K) &&
  (D.T.kds.all (fun p => kdB K p.1 p.2) &&
  (D.T.kfns.all (fun p => (Fa.glo (Str.ofString p.1)).ok K && (atB D p.2.1 p.2.2.length K (ga K (Str.ofString p.1)) && (match D.ds[p.2.1]? with
    | some d => decide (d.1.ps = p.2.2.map Str.ofString)
    | none => false))) && lamB D K))))))))
/-! exceptions of one's own -/
def xclB (K : PySem.W.Frag) (C : Addr) : Bool := PySem.W.excInitIn K C exT "Exception.__new__" && (PySem.W.excOver K C exT && (PySem.W.hasDictIn K C && (decide (PySem.W.findIn K (.ref C) "__setattr__" = some (some (.builtin "object.__setattr__"))) && (decide (PySem.W.subIn K (.ref C) (.type "BaseException") = some true) &&
  (decide (PySem.W.typeIn K (.ref C) = some (.type "type")) && PySem.W.keepIn K (.ref C))))))
theorem xclB_ok {K : PySem.W.Frag} {C : Addr} (h : xclB K C = true) : XCl K C := by
  unfold xclB at h
  obtain ⟨h1, h⟩ := and2 h
  obtain ⟨h2, h⟩ := and2 h
  obtain ⟨h3, h⟩ := and2 h
  obtain ⟨h4, h⟩ := and2 h
  obtain ⟨h5, h⟩ := and2 h
  obtain ⟨h6, h7⟩ := and2 h
  exact ⟨h1, h2, h3, of_decide_eq_true h4, of_decide_eq_true h5, of_decide_eq_true h6, h7⟩
def excCB (K : PySem.W.Frag) (D : Addr) : Bool := decide (PySem.W.findIn K (.ref D) "__getattribute__" = some (some (.builtin "BaseException.__getattribute__"))) && (decide (PySem.W.findIn K (.ref D) "__getattr__" = some none) && (decide (PySem.W.subIn K (.ref D) (.type "BaseException") = some true) && (PySem.W.hasDictIn K D &&
  (decide (PySem.W.findIn K (.ref D) "__class__" = some (some (.builtin "object.__class__"))) && (decide (PySem.W.specialIn K (.builtin "object.__class__") "__get__" = some (some (.builtin "getset_descriptor.__get__"))) && (decide (PySem.W.takesIn K (.builtin "object.__class__") = some true) && decide (PySem.W.mroIn K D (.type "object") = some true)))))))
theorem excCB_ok {K : PySem.W.Frag} {C : Addr} (h : excCB K C = true) : ExcC K C := by
  unfold excCB at h
  obtain ⟨h1, h⟩ := and2 h
  obtain ⟨h2, h⟩ := and2 h
  obtain ⟨h3, h⟩ := and2 h
  obtain ⟨h4, h⟩ := and2 h
  obtain ⟨h5, h⟩ := and2 h
  obtain ⟨h6, h⟩ := and2 h
  obtain ⟨h7, h8⟩ := and2 h
  exact ⟨of_decide_eq_true h1, of_decide_eq_true h2, of_decide_eq_true h3, h4, of_decide_eq_true h5, of_decide_eq_true h6, of_decide_eq_true h7, of_decide_eq_true h8⟩
def initD (d : FD) (f : String) : Bool := match d.ps with
  | [sn, pn] => decide (pn = Str.ofString f) && (initBody sn pn (Str.ofString f) d.body && (C8.scC [sn, pn] [sn, pn] d.scope && (plainP d.params [sn, pn] && (noDbg sn && (noDbg pn && (visB d.scope sn && visB d.scope pn))))))
  | _ => false
def xksB (D : PT) (K : PySem.W.Frag) (p : String × String × String × Nat) : Bool := (Fa.glo (Str.ofString p.1)).ok K && (decide (ga K (Str.ofString p.1) = ga K p.2.1) && (xclB K (ga K p.2.1) && (decide (PySem.W.findIn K (.ref (ga K p.2.1)) (Str.ofString p.2.2.1) = some none) && (match D.ds[p.2.2.2]? with
  | some d => decide (PySem.W.findIn K (.ref (ga K p.2.1)) "__init__" = some (some (.ref (fAd K d.2)))) && (decide (PySem.W.typeIn K (.ref (fAd K d.2)) = some (.type "function")) && initD d.1 p.2.2.1)
  | none => false))))
def xnsB (K : PySem.W.Frag) (p : String × TN) : Bool := match p.2 with
  | .b n => (Fa.free (Str.ofString p.1)).ok K && decide (bootBuiltins (Str.ofString p.1) = some (.type n))
  | .o cc => (Fa.glo (Str.ofString p.1)).ok K && decide (ga K (Str.ofString p.1) = ga K cc)
def gxB (D : PT) (K : PySem.W.Frag) : Bool := (K.lookup sysModules).isSome && (D.T.xks.all (xksB D K) && (D.T.xbs.all (fun p => (Fa.glo (Str.ofString p.1)).ok K && (decide (ga K (Str.ofString p.1) = ga K p.2) && (PySem.W.excIn K (ga K p.2) exT "Exception.__new__" && PySem.W.keepIn K (.ref (ga K p.2))))) &&
  (D.T.xcl.all (fun c => excCB K (ga K c) && D.T.xns.all fun p => decide (PySem.W.kitOne K (.ref (ga K c)) (p.2.v K) = some (xisa D.T.xsub c p.2))) && (D.T.xns.all (xnsB K) && D.T.xfs.all fun p => xfB K (ga K p.1) && decide (PySem.W.findIn K (.ref (ga K p.1)) (Str.ofString p.2) = some none)))))
def gfX (D : PT) (K : PySem.W.Frag) : Bool := gfB D K && gxB D K
/-- what the head tells: the defs, the facts, the tables of text keys -/
structure PGOk (D : PT) (w : World) (K : PySem.W.Frag) : Prop where
  gf : gfB D K = true
  gx : gxB D K = true
  dok : D.ds.all (fun d => d.1.ok D.T) = true
  lok : D.ls.all (fun d => d.ok D.T) = true
  fun_ : ∀ d ∈ D.ds, ∃ fd, FunD K d.1.name d.1.qual d.1.params d.1.body d.1.scope [] [] (fAd K d.2) fd ∧ (d.1.lam = true → ∃ c P, fd.code = .ref c ∧ LamTab K P (lamQ d.1.qual) ∧ (c, P) ∈ D.tf.map fun p => cT K p.1)
  kd : ∀ p ∈ D.T.kds, ∃ es k, KDict K w (ga K (Str.ofString p.1)) es k
  lams : ∀ L f n, (L, f, n) ∈ D.T.lams → ∃ i d, D.ls[i]? = some d ∧ d.L = L ∧ f = D.ds.length + i ∧ n = d.ps.length
/-- a def that is shown by hand -/
def HandOk (D : PT) (C : Nat → DSp) (d : FD × Loc1) (S : DSp) : Prop := ∀ (j : Nat) (P : Program) (w : World) (K : PySem.W.Frag) (mg : Str → Option Value) (base : Heap) (fd : FuncData), PGOk D w K → K.In base → base.Ns mainGlobals mg → GF D.T C j P w K mg base → FunD K d.1.name d.1.qual d.1.params d.1.body d.1.scope [] [] (fAd K d.2) fd →
  FnOkG P w K mg base (L2.CX P w) (j + 2) (fAd K d.2) fd d.1.ps (spD K d.1.ps.length S)
/-- the specs by levels: what a level's defs are served by -/
structure Lev (D : PT) (C : Nat → Nat → DSp) : Prop where
  zero : ∀ f ds G P EX, ¬ C 0 f ds G P EX
  d : ∀ n f d, D.ds[f]? = some d → d.1.hand = false → Serves D.T (C n) d.1 (C (n + 1) f)
  hd : ∀ n f d, D.ds[f]? = some d → d.1.hand = true → HandOk D (C n) d (C (n + 1) f)
  l : ∀ n i d, D.ls[i]? = some d → ServesL D.T (C n) d (C (n + 1) (D.ds.length + i))
theorem lookup_some {α β : Type} [BEq α] [LawfulBEq α] {x : α} {b : β} : ∀ {l : List (α × β)}, l.lookup x = some b → (x, b) ∈ l
  | [], h => by cases h
  | (y, c) :: r, h => by
    rw [List.lookup_cons] at h
    cases q : x == y with
    | true =>
      rw [q] at h
      cases h
      rw [beq_iff_eq.mp q]
      exact List.mem_cons_self
    | false =>
      rw [q] at h
      exact List.mem_cons_of_mem _ (lookup_some h)
section
variable {D : PT} {C : Nat → Nat → DSp} {P : Program} {w : World} {K : PySem.W.Frag} {mg : Str → Option Value} {base : Heap}
/-- the defs at a level -/
def DefsAt (D : PT) (C : Nat → DSp) (j : Nat) (P : Program) (w : World) (K : PySem.W.Frag) (mg : Str → Option Value) (base : Heap) : Prop :=
  (∀ f d, D.ds[f]? = some d → ∃ fd, FnOkG P w K mg base (L2.CX P w) j (fAd K d.2) fd d.1.ps (spD K d.1.ps.length (C f)) ∧ Binds K fd d.1.ps [] ∧ PySem.W.keepIn K (.ref (fAd K d.2)) = true ∧ fd.params = d.1.params ∧ fd.defaults = .none ∧ ∃ o, K.lookup (fAd K d.2) = some o ∧ o.data = .func fd) ∧
  ∀ i d, D.ls[i]? = some d → LF.LamOk P w K mg base (L2.CX P w) j d.L (spD K d.ps.length (C (D.ds.length + i)))
theorem gf_of {C : Nat → DSp} {j : Nat} (O : PGOk D w K) (hj : 1 ≤ j) (KX : K.In base) (G : base.Ns mainGlobals mg) (A : DefsAt D C j P w K mg base) : GF D.T C j P w K mg base := by
  have h := O.gf
  unfold gfB at h
  obtain ⟨h1, h⟩ := and2 h
  obtain ⟨h2, h⟩ := and2 h
  obtain ⟨h3, h⟩ := and2 h
  obtain ⟨h4, h⟩ := and2 h
  obtain ⟨h5, h⟩ := and2 h
  obtain ⟨h6, h⟩ := and2 h
  obtain ⟨h7, h⟩ := and2 h
  obtain ⟨h8, h⟩ := and2 h
  obtain ⟨h9, h10⟩ := and2 h
  have hx := O.gx
  unfold gxB at hx
  obtain ⟨g1, hx⟩ := and2 hx
  obtain ⟨g2, hx⟩ := and2 hx
  obtain ⟨g3, hx⟩ := and2 hx
  obtain ⟨g4, hx⟩ := and2 hx
  obtain ⟨g5, g6⟩ := and2 hx
  constructor
  · exact fun x hx => free_ok KX G (List.all_eq_true.mp h1 x hx)
  · intro i p hp
    have q := List.all_eq_true.mp h2 p (List.mem_of_getElem? hp)
    unfold valB at q
    split at q
    · rename_i z e
      obtain ⟨t, e1⟩ := int_ok KX G q
      exact ⟨.int z, _, e1, ⟨t, rfl⟩, by rw [e]; exact rep_int.mpr rfl⟩
    · rename_i z e
      obtain ⟨t, e1⟩ := str_ok KX G q
      exact ⟨.str z, _, e1, ⟨t, rfl⟩, by rw [e]; exact rep_str.mpr rfl⟩
    · cases q
  · intro x f n hx
    obtain ⟨q1, q2⟩ := and2 (List.all_eq_true.mp h3 _ hx)
    obtain ⟨d, e1, e2, e3⟩ := atB_ok q2
    dsimp only at e1 e2 e3
    obtain ⟨fd, a1, a2, a3, _⟩ := A.1 f d e1
    exact ⟨ga K (Str.ofString x), fd, d.1.ps, glo_ok KX G q1, by rw [← e2]; exact a3, a2, by rw [← e2, ← e3]; exact a1⟩
  · intro x c f n hx
    obtain ⟨q1, q2⟩ := and2 (List.all_eq_true.mp h4 _ hx)
    obtain ⟨q2, q3⟩ := and2 q2
    obtain ⟨q3, q4⟩ := and2 q3
    obtain ⟨d, e1, e2, e3⟩ := atB_ok q4
    dsimp only at e1 e2 e3
    obtain ⟨fd, a1, a2, a3, _⟩ := A.1 f d e1
    refine ⟨_, fd, d.1.ps, ?_, mkr_ok q3, a2, by rw [← e2, ← e3]; exact a1⟩
    have e := of_decide_eq_true q2
    rw [glo_ok KX G q1, e]
  · intro c m f n hx
    obtain ⟨q1, q2⟩ := and2 (List.all_eq_true.mp h5 _ hx)
    obtain ⟨q2, q3⟩ := and2 q2
    obtain ⟨d, e1, e2, e3⟩ := atB_ok q3
    dsimp only at e1 e2 e3
    obtain ⟨fd, a1, a2, a3, _⟩ := A.1 f d e1
    exact ⟨_, fd, d.1.ps, cls_ok q1, meth_ok q2, a2, by rw [← e2, ← e3]; exact a1⟩
  · intro c f hx
    obtain ⟨q1, q2⟩ := and2 (List.all_eq_true.mp h6 _ hx)
    exact ⟨cls_ok q1, noat_ok q2⟩
  · intro x c hx
    have q := List.all_eq_true.mp h7 _ hx
    unfold isiB at q
    obtain ⟨q1, q2⟩ := and2 q
    refine ⟨?_, fun t ht => ?_⟩
    · cases c with
      | b n =>
        obtain ⟨r1, r2⟩ := and2 q1
        exact ⟨free_ok KX G r1, of_decide_eq_true r2⟩
      | o cc =>
        obtain ⟨r1, r2⟩ := and2 q1
        have e := of_decide_eq_true r2
        show mg (Str.ofString x) = some (.ref (ga K cc))
        rw [glo_ok KX G r1, e]
    · obtain ⟨r1, r2⟩ := and2 (List.all_eq_true.mp q2 t ht)
      refine ⟨fun o e => ?_, of_decide_eq_true r2⟩
      subst e
      exact clsiB_ok r1
  · intro x l hx
    have hm := lookup_some hx
    obtain ⟨q1, q2⟩ := kdB_ok (List.all_eq_true.mp h8 _ hm)
    obtain ⟨es, k, e⟩ := O.kd _ hm
    exact ⟨_, es, k, glo_ok KX G q1, e, q2⟩
  · exact hj
  · exact Option.isSome_iff_exists.mp g1
  · intro x c f i hx
    obtain ⟨q1, q⟩ := and2 (List.all_eq_true.mp g2 _ hx)
    obtain ⟨q2, q⟩ := and2 q
    obtain ⟨q3, q⟩ := and2 q
    obtain ⟨q4, q5⟩ := and2 q
    have T := xclB_ok q3
    have hno := of_decide_eq_true q4
    dsimp only at T hno q5
    split at q5
    · rename_i d hd
      obtain ⟨q6, q⟩ := and2 q5
      obtain ⟨q7, q8⟩ := and2 q
      obtain ⟨fd, F, _⟩ := O.fun_ d (List.mem_of_getElem? hd)
      unfold initD at q8
      split at q8
      · rename_i sn pn hps
        obtain ⟨a1, q⟩ := and2 q8
        obtain ⟨a2, q⟩ := and2 q
        obtain ⟨a3, q⟩ := and2 q
        obtain ⟨a4, q⟩ := and2 q
        obtain ⟨a5, q⟩ := and2 q
        obtain ⟨a6, q⟩ := and2 q
        obtain ⟨a7, a8⟩ := and2 q
        have ef := of_decide_eq_true a1
        have e := of_decide_eq_true q2
        obtain ⟨d1, d2, _⟩ := noDbg_ok a5
        obtain ⟨d3, d4, _⟩ := noDbg_ok a6
        have S := C8.fnScope_by a3
        have hb : Binds K fd [sn, pn] [] := F.bindsN fun kV doc pm an cdv ct us hl => bind_plain a4 rfl hl
        refine ⟨_, fd, [sn, pn], by rw [glo_ok KX G q1, e], T, of_decide_eq_true q6, of_decide_eq_true q7, init_ok F S a2 T hno ⟨d1, d2⟩ ⟨d3, d4⟩ ⟨visB_ok a7, visB_ok a8⟩, hb, fun s u v => BindsTo.of_eq ?_⟩
        obtain ⟨oc, od, dV, kV, doc, pm, an, cdv, ct, osl, rfl, lk, hcd, hdv, _⟩ := F.ex
        have edv : dV = .none := by rcases hdv with ⟨_, e⟩ | ⟨e, _⟩ <;> first | exact e | exact absurd rfl e
        have nd : sn ≠ pn := by
          have := S.nd
          intro z
          rw [z] at this
          simp at this
        have key := bind_kw (fd := PySem.W.fnOf d.1.name d.1.qual d.1.params d.1.body d.1.scope dV kV doc pm an cdv ct) (ps := [sn, pn]) (ks := [pn]) (us := [u]) (ws := [v]) a4 edv (by simp) rfl (by simp) (fun k hk => by simpa using hk) (fun n hn => by simpa using hn)
        rw [← ef]
        have e2 : kwR (List.drop [u].length [sn, pn]) [pn] [v] = [v] := by
          unfold kwR
          simp
        rw [e2] at key
        exact key
      · cases q8
    · cases q5
  · intro x c hx
    obtain ⟨q1, q⟩ := and2 (List.all_eq_true.mp g3 _ hx)
    obtain ⟨q2, q⟩ := and2 q
    obtain ⟨q3, q4⟩ := and2 q
    have e := of_decide_eq_true q2
    exact ⟨by rw [glo_ok KX G q1, e], q3, q4⟩
  · intro c hc
    obtain ⟨q1, q2⟩ := and2 (List.all_eq_true.mp g4 _ hc)
    exact ⟨excCB_ok q1, fun p hp => of_decide_eq_true (List.all_eq_true.mp q2 p hp)⟩
  · intro x c hx
    have q := List.all_eq_true.mp g5 _ hx
    unfold xnsB at q
    cases c with
    | b n =>
      obtain ⟨r1, r2⟩ := and2 q
      exact ⟨free_ok KX G r1, of_decide_eq_true r2⟩
    | o cc =>
      obtain ⟨r1, r2⟩ := and2 q
      have e := of_decide_eq_true r2
      show mg (Str.ofString x) = some (.ref (ga K cc))
      rw [glo_ok KX G r1, e]
  · intro c f hx
    obtain ⟨q1, q2⟩ := and2 (List.all_eq_true.mp g6 _ hx)
    exact ⟨xfB_ok q1, of_decide_eq_true q2⟩
  · exact fun L f n hx => by
      obtain ⟨i, d, e1, e2, e3, e4⟩ := O.lams L f n hx
      have := A.2 i d e1
      rw [e2, ← e3, ← e4] at this
      exact this
  · exact lamB_u h10
  · intro x f ps hx
    obtain ⟨q1, q2⟩ := and2 (List.all_eq_true.mp h9 _ hx)
    obtain ⟨q2, q3⟩ := and2 q2
    obtain ⟨d, e1, e2, e3⟩ := atB_ok q2
    dsimp only at e1 e2 e3
    rw [e1] at q3
    have e4 := of_decide_eq_true q3
    obtain ⟨fd, a1, a2, a3, a4, a5, _⟩ := A.1 f d e1
    have hd := List.all_eq_true.mp O.dok d (List.mem_of_getElem? e1)
    unfold FD.ok at hd
    refine ⟨_, fd, glo_ok KX G q1, by rw [← e2]; exact a3, ?_, ?_, a5⟩
    · rw [← e2, ← e4, ← e3]; exact a1
    · rw [a4, ← e4]; exact (and2 (and2 hd).2).1
theorem defs_all (O : PGOk D w K) (L : Lev D C) (KX : K.In base) (G : base.Ns mainGlobals mg) (TB : ∀ p ∈ D.tf.map fun p => cT K p.1, LamX.TabB base mg p.1 p.2) : ∀ n, DefsAt D (C n) (2 * n + 2) P w K mg base
  | 0 => by
    refine ⟨fun f d hd => ?_, fun i d hd => ⟨fun A outer s H us vs Q E f c gd hr e0 hf hc r ⟨ds, G, P, EX, _, _, _, p, _⟩ => (L.zero _ _ _ _ _ p).elim⟩⟩
    obtain ⟨fd, F, hl⟩ := O.fun_ d (List.mem_of_getElem? hd)
    have hok := List.all_eq_true.mp O.dok d (List.mem_of_getElem? hd)
    unfold FD.ok at hok
    obtain ⟨h1, h⟩ := and2 hok
    obtain ⟨h2, h3⟩ := and2 h
    have hb := F.bindsN fun kV doc pm an cdv ct us hl => bind_plain h2 rfl hl
    have kp := F.kp
    obtain ⟨oc, od, dV, kV, doc, pm, an, cdv, ct, osl, rfl, lk, hcd, hdv, _⟩ := F.ex
    have edv : dV = .none := by rcases hdv with ⟨_, e⟩ | ⟨e, _⟩ <;> first | exact e | exact absurd rfl e
    exact ⟨_, ⟨fun vs H Q E ⟨ds, G, P, EX, _, _, _, p, _⟩ => (L.zero _ _ _ _ _ p).elim, fun A outer s H args us vs Q E _ _ _ _ _ ⟨ds, G, P, EX, _, _, _, p, _⟩ => (L.zero _ _ _ _ _ p).elim⟩, hb, kp, rfl, edv, _, lk, rfl⟩
  | n + 1 => by
    have g := gf_of O (by omega) KX G (defs_all O L KX G TB n)
    refine ⟨fun f d hd => ?_, fun i d hd => lamD (List.all_eq_true.mp O.lok d (List.mem_of_getElem? hd)) rfl g (L.l n i d hd)⟩
    obtain ⟨fd, F, hl⟩ := O.fun_ d (List.mem_of_getElem? hd)
    have dk := List.all_eq_true.mp O.dok d (List.mem_of_getElem? hd)
    obtain ⟨a, b⟩ : FnOkG P w K mg base (L2.CX P w) (2 * n + 2 + 2) (fAd K d.2) fd d.1.ps (spD K d.1.ps.length (C (n + 1) f)) ∧ Binds K fd d.1.ps [] := by
      cases hh : d.1.hand with
      | false =>
        refine fnD F dk hh rfl g (L.d n f d hd hh) fun h => ?_
        obtain ⟨c, P, e1, e2, e3⟩ := hl h
        exact ⟨c, P, e1, TB _ e3, e2⟩
      | true =>
        refine ⟨L.hd n f d hd hh _ _ _ _ _ _ _ O KX G g F, ?_⟩
        unfold FD.ok at dk
        exact F.bindsN fun kV doc pm an cdv ct us hl => bind_plain (and2 (and2 dk).2).1 rfl hl
    have kp := F.kp
    obtain ⟨oc, od, dV, kV, doc, pm, an, cdv, ct, osl, e, lk, hcd, hdv, _⟩ := F.ex
    have edv : dV = .none := by rcases hdv with ⟨_, e⟩ | ⟨e, _⟩ <;> first | exact e | exact absurd rfl e
    exact ⟨fd, a, b, kp, by rw [e], by rw [e]; exact edv, _, lk, rfl⟩
end
end DL
end
section
set_option Elab.async false
set_option linter.all false
set_option maxRecDepth 100000
set_option autoImplicit false
namespace DL
open PySem PySem.Spec PyProof.Rows L2 He
/-! ### the hook's words, and what follows from them -/
def PT.fn (D : PT) : List DefD := D.ds.map fun d => ⟨d.2, d.1.name, d.1.qual, d.1.params, d.1.body, d.1.scope, [], []⟩
def PT.ts (D : PT) : List Tab := D.T.kds.map fun p => (fun K => ga K (Str.ofString p.1), p.2.map fun q => Str.ofString q.1)
def PT.tabs (D : PT) : List Defn := D.tf.map (·.1)
def lamsB (D : PT) : Bool := decide (D.T.lams.length = D.ls.length) && (D.ds.all fun d => !d.1.lam || (decide ((d.2, d.1.qual) ∈ D.tf) && decide (d.1.qual ∈ lamQuals)))
theorem lamTab_of {K : PySem.W.Frag} {c P : Addr} {q : Str} (h : PySem.W.codeHdIn K c P = true) (h2 : PySem.W.codeIn K (.ref c) q = true) (hq : q ∈ lamQuals) : LamTab K P (lamQ q) := by
  unfold PySem.W.codeHdIn at h
  split at h
  · rename_i od vs sl hk
    simp only [Bool.and_eq_true] at h
    obtain ⟨⟨⟨⟨⟨e1, e2⟩, e3⟩, e4⟩, e5⟩, e6⟩ := h
    split at e1
    · rename_i P' hv
      have eP : P' = P := by simpa using e1
      subst eP
      have h3 : (match K.lookup c with
        | some ⟨_, _, .fields vs, _⟩ => (match vs.toList with | _ :: .str n _ :: _ => n == q | _ => false)
        | _ => false) = true := h2
      rw [hk] at h3
      dsimp only at h3
      split at h3
      · rename_i x n t r hl
        have en : n = q := by simpa using h3
        subst en
        refine ⟨c, _, vs, n, t, hk, rfl, hv, ?_, hq, rfl⟩
        rw [← Array.getElem?_toList, hl]
        rfl
      · cases h3
    · cases e1
  · cases h
theorem pg_of {D : PT} {w : World} {h : Heap} {K : PySem.W.Frag} (c : SaysX [] D.fn D.ts D.tabs (gfX D) w h K) (dok : D.ds.all (fun d => d.1.ok D.T) = true) (lok : D.ls.all (fun d => d.ok D.T) = true) (lb : lamsB D = true)
    (hl : ∀ L f n, (L, f, n) ∈ D.T.lams → ∃ i d, D.ls[i]? = some d ∧ d.L = L ∧ f = D.ds.length + i ∧ n = d.ps.length) : PGOk D w K where
  gf := (and2 c.more).1
  gx := (and2 c.more).2
  dok := dok
  lok := lok
  fun_ := fun d hd => by
    obtain ⟨fd, F⟩ := c.t.d.defs (d := ⟨d.2, d.1.name, d.1.qual, d.1.params, d.1.body, d.1.scope, [], []⟩) (List.mem_map.mpr ⟨d, hd, rfl⟩)
    have F' : FunD K d.1.name d.1.qual d.1.params d.1.body d.1.scope [] [] (fAd K d.2) fd := F
    refine ⟨fd, F', fun hlam => ?_⟩
    have q := List.all_eq_true.mp (and2 lb).2 d hd
    rw [hlam] at q
    obtain ⟨q1, q2⟩ := and2 (show (decide ((d.2, d.1.qual) ∈ D.tf) && decide (d.1.qual ∈ lamQuals)) = true by simpa using q)
    have m := of_decide_eq_true q1
    have mt : d.2 ∈ D.tabs := List.mem_map.mpr ⟨_, m, rfl⟩
    have h1 := c.hd d.2 mt
    obtain ⟨oc, od, dV, kV, doc, pm, an, cdv, ct, osl, e, lk, hcd, _, _⟩ := F'.ex
    obtain ⟨cc, ec⟩ := codeIn_ref hcd
    have e2 : codeOf K d.2 = cc := codeOf_eq lk (by rw [e]; exact ec)
    refine ⟨(cT K d.2).1, (cT K d.2).2, ?_, lamTab_of h1 ?_ (of_decide_eq_true q2), List.mem_map.mpr ⟨_, m, rfl⟩⟩
    · show fd.code = .ref (codeOf K d.2)
      rw [e2, e]
      exact ec
    · show PySem.W.codeIn K (.ref (codeOf K d.2)) d.1.qual = true
      rw [e2, ← ec]
      exact hcd
  kd := fun p hp => by
    obtain ⟨i, hi, e⟩ := List.mem_iff_getElem.mp hp
    obtain ⟨es, n, k⟩ := c.t.tab i (t := (fun K => ga K (Str.ofString p.1), p.2.map fun q => Str.ofString q.1)) (by
      unfold PT.ts
      rw [List.getElem?_map, List.getElem?_eq_getElem hi, e]
      rfl)
    exact ⟨es, n, k⟩
  lams := hl
/-- the law's def as walk_ofTsE wants it: its spec at a level, at the script -/
theorem law_at {D : PT} {C : Nat → Nat → DSp} {l : PySem.W.OpenLaw} {w : World} {K : PySem.W.Frag} {n lev fid : Nat} {x : Str} {mg : Str → Option Value} {fa : Addr} {h : Heap} {d : FD × Loc1}
    (c : SaysX [] D.fn D.ts D.tabs (gfX D) w h K) (O : PGOk D w K) (L : Lev D C) (KX : K.In h) (G : h.Ns mainGlobals mg) (hd : D.ds[fid]? = some d) (hps : d.1.ps = [x]) (hfa : fAd K d.2 = fa)
    (hlaw : ∀ (ns : List Int) (G : DH) (s : DV), ns.length ≤ n → (∀ z ∈ ns, Builtin.Int.intBits z ≤ 1048576) → (s = .lk (ns.map DV.int) ∨ ∃ a, s = .ref a ∧ G a = some (.lst (ns.map DV.int))) → C lev fid [s] G (fun v _ => v = .bl true) (fun _ _ _ => False)) :
    L2.LawAtG l w K (L2.CX l.prog w) (2 * lev + 2) n x mg fa h := by
  obtain ⟨fd, F, hlm⟩ := O.fun_ d (List.mem_of_getElem? hd)
  have hok := List.all_eq_true.mp O.dok d (List.mem_of_getElem? hd)
  unfold FD.ok at hok
  obtain ⟨h1, h2⟩ := and2 hok
  obtain ⟨h2, h3⟩ := and2 h2
  have hb := F.bindsA (ps := [x]) fun kV doc pm an cdv ct us hl => by
    rw [← hps]
    exact bind_plain h2 rfl (by rw [hl, hps])
  have gfb := O.gf
  have lamb : lamB D K = true := by
    unfold gfB at gfb
    exact (and2 (and2 (and2 (and2 (and2 (and2 (and2 (and2 (and2 gfb).2).2).2).2).2).2).2).2).2
  refine ⟨fd, D.tf.map fun p => cT K p.1, spD K 1 (C lev fid), fun p hp => ?_, fun p hp => ?_, fun p hp => ?_, fun s u => hb s [u] rfl, fun H a ns hl hbits hT hS => ?_, fun base KB GB TB => ?_⟩
  · obtain ⟨q, hq, rfl⟩ := List.mem_map.mp hp
    exact c.empty q.1 (List.mem_map.mpr ⟨q, hq, rfl⟩)
  · obtain ⟨q, hq, rfl⟩ := List.mem_map.mp hp
    exact c.out q.1 (List.mem_map.mpr ⟨q, hq, rfl⟩)
  · obtain ⟨q, hq, rfl⟩ := List.mem_map.mp hp
    exact PySem.W.codeHd_of_K KX (c.hd q.1 (List.mem_map.mpr ⟨q, hq, rfl⟩))
  · have tabK : TabK K H := fun P q ht => by
      obtain ⟨q0, hm, e⟩ := lamB_mem lamb ht
      obtain ⟨p, hp, ep⟩ := List.mem_map.mp hm
      have e2 : (cT K p.1).2 = P := congrArg Prod.snd ep
      rw [← e2]
      exact LamX.TabS.nil (hT _ (List.mem_map.mpr ⟨p, hp, rfl⟩))
    have ri : ∀ H : Hp, RepL K H (ns.map DV.int) (ns.map V.int) := fun H => RepL.ints.mpr rfl
    have xr : XR K ⟨fun _ _ _ => False, fun _ _ _ => False⟩ (fun _ => none) H := ⟨fun _ _ _ _ _ _ _ _ _ _ z => z.elim, fun _ _ _ _ _ z => z.elim⟩
    have lk : (∃ o, H a = some (.frz o (.lst (ns.map V.int)))) ∨ SqL K H0 a (ns.map V.int) → spD K 1 (C lev fid) [.ref a] H (fun v _ => v = .bl true) fun _ _ _ => False := fun q =>
      ⟨[.lk (ns.map DV.int)], fun _ => none, fun v _ => v = .bl true, fun _ _ _ => False, repL_cons.mpr ⟨_, _, rfl, rep_lk.mpr ⟨a, _, rfl, q, ri H⟩, repL_nil.mpr rfl⟩, ⟨(fun _ _ z => by cases z), tabK⟩, rfl, hlaw ns _ _ hl hbits (.inl rfl), fun d G' v H' z _ _ p => by rw [p] at z; exact rep_bl.mp z, xr⟩
    rcases hS with (q | ⟨o, q⟩) | q
    · refine ⟨[.ref a], updD (fun _ => none) a (.lst (ns.map DV.int)), fun v _ => v = .bl true, fun _ _ _ => False, repL_cons.mpr ⟨_, _, rfl, rep_ref.mpr rfl, repL_nil.mpr rfl⟩, ⟨fun b ob z => ?_, tabK⟩, rfl, hlaw ns _ _ hl hbits (.inr ⟨a, rfl, updD_same⟩), fun d G' v H' z _ _ p => by rw [p] at z; exact rep_bl.mp z, ⟨fun _ _ _ _ _ _ _ _ _ _ z => z.elim, fun _ _ _ _ _ z => z.elim⟩⟩
      by_cases e : b = a
      · rw [e, updD_same] at z; cases z; rw [e]; exact ⟨_, q, ri H⟩
      · rw [updD_ne e] at z; cases z
    · exact lk (.inl ⟨o, q⟩)
    · exact lk (.inr (.inr q))
  · obtain ⟨fd', a1, a2, a3, a4, a5, o, lk, ho⟩ := (defs_all O L KB GB TB lev).1 fid d hd
    obtain ⟨oc, od, dV, kV, doc, pm, an, cdv, ct, osl, e, lk2, _⟩ := F.ex
    rw [lk2] at lk
    cases lk
    have e3 : fd = fd' := by
      have h4 : Data.func fd = Data.func fd' := ho
      injection h4
    rw [← e3, hps, hfa] at a1
    exact a1
end DL
end
section
set_option Elab.async false
set_option linter.all false
set_option maxRecDepth 100000
set_option autoImplicit false
namespace DL
open PySem PySem.Spec PyProof.Rows L2 He
/-! ### a hook that looks at a few named things only -/
def nmAt (g : Addr → Option Obj) (x : Str) : List Addr := match g mainGlobals with
  | some ⟨_, _, .dict es _, _⟩ => (match es.toList.find? (·.key.isStr x) with
    | some e => refV e.val
    | none => [])
  | _ => []
def refsF (g : Addr → Option Obj) (a : Addr) : List Addr := match g a with
  | some ⟨_, _, .func fd, _⟩ => refV fd.code ++ refV fd.defaults
  | some ⟨_, _, .cls cd, _⟩ => cd.ns :: cd.mro.flatMap refV
  | some ⟨_, _, .dict es _, _⟩ => es.toList.flatMap fun e => refV e.val
  | _ => []
def grow1 (g : Addr → Option Obj) (as : List Addr) : List Addr := as.flatMap (refsF g)
/-- the named things, what they name, in three steps -/
def asY (xs : List Str) (g : Addr → Option Obj) : List Addr :=
  let a0 := xs.flatMap (nmAt g)
  let a1 := grow1 g a0
  let a2 := grow1 g a1
  let a3 := grow1 g a2
  mainGlobals :: sysModules :: (a0 ++ (a1 ++ (a2 ++ a3)))
def obsY (xs : List Str) (fa : List Fa) (fn : List DefD) (ts : List Tab) (tf : List Defn) (ex : PySem.W.Frag → Bool) (g : Addr → Option Obj) : AlX := (obsT fa fn ts (frT g (asY xs g)), ex (frT g (asY xs g)) && tabsB g tf (frT g (asY xs g)))
theorem saysY_of {xs : List Str} {fa : List Fa} {fn : List DefD} {ts : List Tab} {tf : List Defn} {ex : PySem.W.Frag → Bool} {w : World} {h : Heap} (e : obsY xs fa fn ts tf ex h.get? = valX fn ts w) : SaysX fa fn ts tf ex w h (frT h.get? (asY xs h.get?)) := by
  have e1 : obsT fa fn ts (frT h.get? (asY xs h.get?)) = valT fn ts w := congrArg (fun z : AlX => z.1) e
  have e2 : (ex (frT h.get? (asY xs h.get?)) && tabsB h.get? tf (frT h.get? (asY xs h.get?))) = true := congrArg (fun z : AlX => z.2) e
  obtain ⟨h1, h2⟩ := ba e2
  have key : ∀ p ∈ tf, PySem.W.codeHdIn (frT h.get? (asY xs h.get?)) (cT (frT h.get? (asY xs h.get?)) p).1 (cT (frT h.get? (asY xs h.get?)) p).2 = true ∧ ∃ o, h.get? (cT (frT h.get? (asY xs h.get?)) p).2 = some o ∧ emptyTab o = true := fun p hp => by
    obtain ⟨h3, h4⟩ := ba (List.all_eq_true.mp h2 p hp)
    refine ⟨h3, ?_⟩
    cases q : h.get? (cT (frT h.get? (asY xs h.get?)) p).2 with
    | none =>
      rw [q] at h4
      cases h4
    | some o =>
      rw [q] at h4
      exact ⟨o, rfl, h4⟩
  exact ⟨e1, h1, fun p hp => (key p hp).1, fun p hp => by
    obtain ⟨_, o, q, z⟩ := key p hp
    exact frT_none q z, fun p hp => by
    obtain ⟨_, o, q, z⟩ := key p hp
    rw [q, emptyTab_eq z]⟩
def hookY (xs : List Str) (fa : List Fa) (fn : List DefD) (ts : List Tab) (tf : List Defn) (ex : PySem.W.Frag → Bool) : PySem.W.Hook where
  α := AlX
  obs := fun s => obsY xs fa fn ts tf ex s.heap.get?
  val := fun w => valX fn ts w
  says := fun w h => ∃ K : PySem.W.Frag, K.In h ∧ SaysX fa fn ts tf ex w h K
  of := fun _ _ e => ⟨_, frT_in, saysY_of e⟩
  keeps := fun _ _ _ ⟨K, hK, c⟩ k => ⟨K, PySem.W.Frag.In.keeps hK k, ⟨c.t, c.more, c.hd, c.out, fun p hp => k _ _ (c.empty p hp)⟩⟩
theorem obsY_eq {xs : List Str} {fa : List Fa} {fn : List DefD} {ts : List Tab} {tf : List Defn} {ex : PySem.W.Frag → Bool} {g : Addr → Option Obj} {s : Shared} (h : ∀ a, g a = s.heap.get? a) : obsY xs fa fn ts tf ex g = (hookY xs fa fn ts tf ex).obs s := by
  have e : g = s.heap.get? := funext h
  rw [e] <;> rfl
/-- the module's names that are looked at -/
def PT.xs (D : PT) : List Str := ((D.ds.map fun d => d.2.1) ++ (D.T.fns.map fun p => Str.ofString p.1) ++ (D.T.kfns.map fun p => Str.ofString p.1) ++ (D.T.mks.map fun p => Str.ofString p.1) ++ (D.T.kds.map fun p => Str.ofString p.1) ++ (D.T.xks.map fun p => Str.ofString p.1) ++ (D.T.xbs.map fun p => Str.ofString p.1) ++ (D.T.xcl.map Str.ofString) ++ (D.T.tys.flatMap fun t => match t with
  | .o c => [Str.ofString c]
  | .b _ => [])).eraseDups
end DL
end
section
set_option Elab.async false
set_option linter.all false
set_option maxRecDepth 100000
set_option maxHeartbeats 0
namespace DL
open PySem PySem.W PySem.Calls PyProof.Rows L2
abbrev R : OpenRow := OpenLaw.row PySem.Challenge.rw_circlewatch_k01_errors
def tst (i : Nat) : Stmt := R.prog.main.body.getD i (.Pass ⟨0, 0, 0, 0⟩)
def mst (i j : Nat) : Stmt := match tst i with
  | .ClassDef _ _ _ body _ _ _ _ _ _ _ => body.getD j (.Pass ⟨0, 0, 0, 0⟩)
  | _ => .Pass ⟨0, 0, 0, 0⟩
def subE : Expr → Nat → Expr
  | .Tuple es _ _, i => es.getD i (.Constant .none 0 ⟨0, 0, 0, 0⟩)
  | .List es _, i => es.getD i (.Constant .none 0 ⟨0, 0, 0, 0⟩)
  | .Call _ es _ _, i => es.getD i (.Constant .none 0 ⟨0, 0, 0, 0⟩)
  | e, _ => e
def retE : Stmt → Expr
  | .Return (some e) _ => e
  | _ => .Constant .none 0 ⟨0, 0, 0, 0⟩
def lamE (q : Str) : Expr → LF.LamT
  | .Lambda a b s _ => ⟨q, a, b, s⟩
  | e => ⟨q, ⟨[], [], none, [], [], none, []⟩, e, ⟨.module, [], false, false, []⟩⟩
def tabs : GT := {
  free := ["range", "zip", "enumerate", "isinstance", "list", "repr", "int", "len"]
  vals := []
  fns := [("law", 0, 1), ("_law_deck", 1, 1), ("_law_value", 2, 2), ("_law_made", 3, 3), ("_law_borne", 7, 2), ("_law_is_one", 5, 2), ("_law_kinds_of", 6, 1), ("_law_caught", 4, 1), ("_law_draw", 9, 2), ("_law_pick", 8, 2)]
  mks := []
  mets := []
  flds := []
  clss := []
  kds := []
  kfns := []
  lams := []
  tys := [.b "NoneType", .b "bool", .b "int", .b "str", .b "tuple", .b "list", .b "dict"]
  xks := [("BadBook", "BadBook", "part", 11), ("BadThing", "BadThing", "thing", 12), ("BadRow", "BadRow", "part", 13), ("BadText", "BadText", "line", 14), ("NotHad", "NotHad", "paper", 15), ("Mismatch", "Mismatch", "part", 16), ("BadCircle", "BadCircle", "part", 17), ("NoDeed", "NoDeed", "name", 18), ("Kept", "Kept", "paper", 19), ("NotOpen", "NotOpen", "name", 20), ("TooMany", "TooMany", "most", 10)]
  xbs := [("NothingToUndo", "NothingToUndo"), ("NothingToRedo", "NothingToRedo"), ("NoCircle", "NoCircle"), ("InvalidCommand", "InvalidCommand"), ("Over", "Over"), ("NoWatcher", "NoWatcher"), ("CircleError", "CircleError")]
  xcl := ["CircleError", "BadBook", "BadThing", "BadRow", "BadText", "NotHad", "Mismatch", "BadCircle", "NoDeed", "Kept", "TooMany", "NothingToUndo", "NothingToRedo", "NoCircle", "InvalidCommand", "NotOpen", "Over", "NoWatcher"]
  xns := [("Exception", .b "Exception"), ("ValueError", .b "ValueError"), ("KeyError", .b "KeyError"), ("TypeError", .b "TypeError"), ("LookupError", .b "LookupError"), ("ArithmeticError", .b "ArithmeticError"), ("RuntimeError", .b "RuntimeError"), ("CircleError", .o "CircleError"), ("BadBook", .o "BadBook"), ("BadThing", .o "BadThing"), ("BadRow", .o "BadRow"), ("BadText", .o "BadText"), ("NotHad", .o "NotHad"), ("Mismatch", .o "Mismatch"), ("BadCircle", .o "BadCircle"), ("NoDeed", .o "NoDeed"), ("Kept", .o "Kept"), ("TooMany", .o "TooMany"), ("NothingToUndo", .o "NothingToUndo"), ("NothingToRedo", .o "NothingToRedo"), ("NoCircle", .o "NoCircle"), ("InvalidCommand", .o "InvalidCommand"), ("NotOpen", .o "NotOpen"), ("Over", .o "Over"), ("NoWatcher", .o "NoWatcher")]
  xsub := [("BadBook", "CircleError"), ("BadThing", "CircleError"), ("BadRow", "CircleError"), ("BadText", "CircleError"), ("NotHad", "CircleError"), ("Mismatch", "CircleError"), ("BadCircle", "CircleError"), ("NoDeed", "CircleError"), ("Kept", "CircleError"), ("TooMany", "CircleError"), ("NothingToUndo", "CircleError"), ("NothingToRedo", "CircleError"), ("NoCircle", "CircleError"), ("InvalidCommand", "CircleError"), ("NotOpen", "CircleError"), ("Over", "CircleError"), ("NoWatcher", "CircleError")]
  xfs := [("BadBook", "part"), ("BadThing", "thing"), ("BadRow", "part"), ("BadText", "line"), ("NotHad", "paper"), ("Mismatch", "part"), ("BadCircle", "part"), ("NoDeed", "name"), ("Kept", "paper"), ("TooMany", "most"), ("NotOpen", "name")] }
def f_law : FD := { name := "law", qual := "law", params := C8.fnArgs (tst 29), body := C8.fnBody (tst 29), scope := C8.fnScope (tst 29), N := ["script", "deck", "way", "bare", "value", "was", "is_named", "base", "e", "k", "it"], ps := ["script"], lam := false, hand := false, ys := [
    .asg (.n 1) (.call "_law_deck" 1 1 [.v 0]),
    .for_ (.n 2) .seq [.bin .add (.lrng (.int 10)) (.lst [.int 14])] [
      .asg (.n 4) (.call "_law_value" 2 2 [.v 1, .int 3]),
      .asg (.n 5) (.bf .repr [.v 4]),
      .for_ (.n 6) .seq [.tup [.bl false, .bl true]] [
        .asg (.n 8) (.call "_law_made" 3 3 [.v 2, .v 4, .v 6]),
        .ifs (.or [.cmp .ne (.bf .repr [.call "_law_borne" 7 2 [.v 2, .v 8]]) (.v 5), .cmp .ne (.bf .repr [.v 4]) (.v 5), .not (.call "_law_is_one" 5 2 [.v 2, .v 8])]) [
          .ret (.bl false)] []]],
    .asg (.n 3) (.lst [.tup [.int 10, .mkb "NothingToUndo" "NothingToUndo"], .tup [.int 11, .mkb "NothingToRedo" "NothingToRedo"], .tup [.int 12, .mkb "NoCircle" "NoCircle"], .tup [.int 13, .mkb "InvalidCommand" "InvalidCommand"], .tup [.int 15, .mkb "Over" "Over"], .tup [.int 16, .mkb "NoWatcher" "NoWatcher"]]),
    .ifs (.cmp .ne (.lc [9, 8] (.t [.n 9, .n 8]) .seq [.v 3] [.not (.call "_law_is_one" 5 2 [.v 9, .v 8])] (.v 9)) (.lst [])) [
      .ret (.bl false)] [],
    .par2 4 7 (.call "_law_value" 2 2 [.v 1, .int 2]) (.mkb "CircleError" "CircleError"),
    .ifs (.or [.cmp .ne (.lc [10] (.n 10) .seq [.call "_law_kinds_of" 6 1 [.v 7]] [.v 10] (.int 1)) (.lst []), .not (.xisi false [("Exception", .b "Exception")] (.v 7))]) [
      .ret (.bl false)] [],
    .ifs (.xisi true [("ValueError", .b "ValueError"), ("KeyError", .b "KeyError"), ("TypeError", .b "TypeError"), ("LookupError", .b "LookupError"), ("ArithmeticError", .b "ArithmeticError"), ("RuntimeError", .b "RuntimeError")] (.v 7)) [
      .ret (.bl false)] [],
    .ret (.cmp .eq (.bf .repr [.call "_law_caught" 4 1 [.v 4]]) (.bf .repr [.lst [.v 4, .bl true]]))] }
def f_law_deck : FD := { name := "_law_deck", qual := "_law_deck", params := C8.fnArgs (tst 20), body := C8.fnBody (tst 20), scope := C8.fnScope (tst 20), N := ["script", "blend", "cell"], ps := ["script"], lam := false, hand := false, ys := [
    .asg (.n 1) (.int 1086401),
    .for_ (.n 2) .seq [.slH (.v 0) (.int 63)] [
      .asg (.n 1) (.bin .mod (.bf .int [.bin .add (.bin .add (.bin .mul (.v 1) (.int 48271)) (.bin .mod (.bf .int [.v 2]) (.int 2147483629))) (.int 101)]) (.int 2147483587))],
    .ret (.dct [.str "cells", .str "blend", .str "draws"] [.rev (.bf .list [.slH (.v 0) (.int 63)]), .v 1, .int 0])] }
def f_law_value : FD := { name := "_law_value", qual := "_law_value", params := C8.fnArgs (tst 23), body := C8.fnBody (tst 23), scope := C8.fnScope (tst 23), N := ["deck", "deep", "some", "inner"], ps := ["deck", "deep"], lam := false, hand := false, ys := [
    .asg (.n 2) (.lst [.non, .bl true, .bl false, .int 0, .int 1, .neg (.int 1), .bin .pow (.int 10) (.int 39), .str "", .str "a", .str "K", .str "kinds", .str "line 2", .tup [], .lst [], .dct [] [], .tup [.str "had", .tup []], .tup [.tup []]]),
    .ifs (.and [.cmp .gt (.v 1) (.int 0), .cmp .eq (.call "_law_draw" 9 2 [.v 0, .int 3]) (.int 0)]) [
      .asg (.n 3) (.call "_law_value" 2 2 [.v 0, .bin .sub (.v 1) (.int 1)]),
      .ret (.call "_law_pick" 8 2 [.v 0, .lst [.tup [.v 3, .v 3], .lst [.v 3], .dct [.str "a"] [.v 3], .tup [.v 3]]])] [],
    .ret (.call "_law_pick" 8 2 [.v 0, .v 2])] }
def f_law_made : FD := { name := "_law_made", qual := "_law_made", params := C8.fnArgs (tst 24), body := C8.fnBody (tst 24), scope := C8.fnScope (tst 24), N := ["way", "value", "is_named"], ps := ["way", "value", "is_named"], lam := false, hand := false, ys := [
    .ifs (.cmp .eq (.v 0) (.int 0)) [
      .ret (.ite (.v 2) (.mkx "BadBook" "BadBook" "part" 11 true (.v 1)) (.mkx "BadBook" "BadBook" "part" 11 false (.v 1)))] [],
    .ifs (.cmp .eq (.v 0) (.int 1)) [
      .ret (.ite (.v 2) (.mkx "BadThing" "BadThing" "thing" 12 true (.v 1)) (.mkx "BadThing" "BadThing" "thing" 12 false (.v 1)))] [],
    .ifs (.cmp .eq (.v 0) (.int 2)) [
      .ret (.ite (.v 2) (.mkx "BadRow" "BadRow" "part" 13 true (.v 1)) (.mkx "BadRow" "BadRow" "part" 13 false (.v 1)))] [],
    .ifs (.cmp .eq (.v 0) (.int 3)) [
      .ret (.ite (.v 2) (.mkx "BadText" "BadText" "line" 14 true (.v 1)) (.mkx "BadText" "BadText" "line" 14 false (.v 1)))] [],
    .ifs (.cmp .eq (.v 0) (.int 4)) [
      .ret (.ite (.v 2) (.mkx "NotHad" "NotHad" "paper" 15 true (.v 1)) (.mkx "NotHad" "NotHad" "paper" 15 false (.v 1)))] [],
    .ifs (.cmp .eq (.v 0) (.int 5)) [
      .ret (.ite (.v 2) (.mkx "Mismatch" "Mismatch" "part" 16 true (.v 1)) (.mkx "Mismatch" "Mismatch" "part" 16 false (.v 1)))] [],
    .ifs (.cmp .eq (.v 0) (.int 6)) [
      .ret (.ite (.v 2) (.mkx "BadCircle" "BadCircle" "part" 17 true (.v 1)) (.mkx "BadCircle" "BadCircle" "part" 17 false (.v 1)))] [],
    .ifs (.cmp .eq (.v 0) (.int 7)) [
      .ret (.ite (.v 2) (.mkx "NoDeed" "NoDeed" "name" 18 true (.v 1)) (.mkx "NoDeed" "NoDeed" "name" 18 false (.v 1)))] [],
    .ifs (.cmp .eq (.v 0) (.int 8)) [
      .ret (.ite (.v 2) (.mkx "Kept" "Kept" "paper" 19 true (.v 1)) (.mkx "Kept" "Kept" "paper" 19 false (.v 1)))] [],
    .ifs (.cmp .eq (.v 0) (.int 14)) [
      .ret (.ite (.v 2) (.mkx "NotOpen" "NotOpen" "name" 20 true (.v 1)) (.mkx "NotOpen" "NotOpen" "name" 20 false (.v 1)))] [],
    .ret (.ite (.v 2) (.mkx "TooMany" "TooMany" "most" 10 true (.v 1)) (.mkx "TooMany" "TooMany" "most" 10 false (.v 1)))] }
def f_law_caught : FD := { name := "_law_caught", qual := "_law_caught", params := C8.fnArgs (tst 28), body := C8.fnBody (tst 28), scope := C8.fnScope (tst 28), N := ["value", "found", "e"], ps := ["value"], lam := false, hand := true, ys := [] }
def f_law_is_one : FD := { name := "_law_is_one", qual := "_law_is_one", params := C8.fnArgs (tst 27), body := C8.fnBody (tst 27), scope := C8.fnScope (tst 27), N := ["way", "e", "k"], ps := ["way", "e"], lam := false, hand := false, ys := [
    .ifs (.or [.not (.xisi false [("CircleError", .o "CircleError")] (.v 1)), .not (.xisi false [("Exception", .b "Exception")] (.v 1))]) [
      .ret (.bl false)] [],
    .ifs (.xisi true [("ValueError", .b "ValueError"), ("KeyError", .b "KeyError"), ("TypeError", .b "TypeError"), ("LookupError", .b "LookupError"), ("ArithmeticError", .b "ArithmeticError"), ("RuntimeError", .b "RuntimeError")] (.v 1)) [
      .ret (.bl false)] [],
    .ret (.cmp .eq (.call "_law_kinds_of" 6 1 [.v 1]) (.lc [2] (.n 2) .rng1 [.int 17] [] (.cmp .eq (.v 2) (.v 0))))] }
def f_law_kinds_of : FD := { name := "_law_kinds_of", qual := "_law_kinds_of", params := C8.fnArgs (tst 26), body := C8.fnBody (tst 26), scope := C8.fnScope (tst 26), N := ["e", "found"], ps := ["e"], lam := false, hand := false, ys := [
    .asg (.n 1) (.lst [.xisi false [("BadBook", .o "BadBook")] (.v 0), .xisi false [("BadThing", .o "BadThing")] (.v 0), .xisi false [("BadRow", .o "BadRow")] (.v 0), .xisi false [("BadText", .o "BadText")] (.v 0)]),
    .asg (.n 1) (.bin .add (.v 1) (.lst [.xisi false [("NotHad", .o "NotHad")] (.v 0), .xisi false [("Mismatch", .o "Mismatch")] (.v 0), .xisi false [("BadCircle", .o "BadCircle")] (.v 0), .xisi false [("NoDeed", .o "NoDeed")] (.v 0)])),
    .asg (.n 1) (.bin .add (.v 1) (.lst [.xisi false [("Kept", .o "Kept")] (.v 0), .xisi false [("TooMany", .o "TooMany")] (.v 0), .xisi false [("NothingToUndo", .o "NothingToUndo")] (.v 0)])),
    .asg (.n 1) (.bin .add (.v 1) (.lst [.xisi false [("NothingToRedo", .o "NothingToRedo")] (.v 0), .xisi false [("NoCircle", .o "NoCircle")] (.v 0), .xisi false [("InvalidCommand", .o "InvalidCommand")] (.v 0)])),
    .ret (.bin .add (.v 1) (.lst [.xisi false [("NotOpen", .o "NotOpen")] (.v 0), .xisi false [("Over", .o "Over")] (.v 0), .xisi false [("NoWatcher", .o "NoWatcher")] (.v 0)]))] }
def f_law_borne : FD := { name := "_law_borne", qual := "_law_borne", params := C8.fnArgs (tst 25), body := C8.fnBody (tst 25), scope := C8.fnScope (tst 25), N := ["way", "e"], ps := ["way", "e"], lam := false, hand := false, ys := [
    .ifs (.cmp .inn (.v 0) (.tup [.int 0, .int 2, .int 5, .int 6])) [
      .ret (.xfld "part" (.v 1))] [],
    .ifs (.cmp .inn (.v 0) (.tup [.int 4, .int 8])) [
      .ret (.xfld "paper" (.v 1))] [],
    .ifs (.cmp .eq (.v 0) (.int 1)) [
      .ret (.xfld "thing" (.v 1))] [],
    .ifs (.cmp .eq (.v 0) (.int 3)) [
      .ret (.xfld "line" (.v 1))] [],
    .ret (.ite (.cmp .inn (.v 0) (.tup [.int 7, .int 14])) (.xfld "name" (.v 1)) (.xfld "most" (.v 1)))] }
def f_law_pick : FD := { name := "_law_pick", qual := "_law_pick", params := C8.fnArgs (tst 22), body := C8.fnBody (tst 22), scope := C8.fnScope (tst 22), N := ["deck", "some"], ps := ["deck", "some"], lam := false, hand := false, ys := [
    .ret (.ix (.v 1) (.call "_law_draw" 9 2 [.v 0, .bf .len [.v 1]]))] }
def f_law_draw : FD := { name := "_law_draw", qual := "_law_draw", params := C8.fnArgs (tst 21), body := C8.fnBody (tst 21), scope := C8.fnScope (tst 21), N := ["deck", "many", "figure", "cell"], ps := ["deck", "many"], lam := false, hand := false, ys := [
    .set (.v 0) (.str "draws") (.bin .add (.ix (.v 0) (.str "draws")) (.int 1)),
    .asg (.n 2) (.bin .add (.ix (.v 0) (.str "blend")) (.bin .mul (.int 60101) (.ix (.v 0) (.str "draws")))),
    .ifs (.cmp .ne (.ix (.v 0) (.str "cells")) (.lst [])) [
      .asg (.n 3) (.bf .int [.bm .pop (.ix (.v 0) (.str "cells")) []]),
      .ifs (.cmp .ge (.v 3) (.bin .pow (.int 10) (.int 18))) [
        .expr (.bm .append (.ix (.v 0) (.str "cells")) [.bin .fdiv (.v 3) (.v 1)]),
        .ret (.bin .mod (.bf .int [.v 3]) (.v 1))] [],
      .asg (.n 2) (.bin .add (.v 2) (.bin .mod (.bf .int [.v 3]) (.int 2147483629)))] [],
    .asg (.n 2) (.bin .mod (.bf .int [.bin .add (.bin .mul (.v 2) (.int 40692)) (.int 31)]) (.int 2147483647)),
    .asg (.n 2) (.bin .mod (.bf .int [.bin .add (.bin .add (.bin .mul (.v 2) (.v 2)) (.bin .mul (.int 52711) (.ix (.v 0) (.str "draws")))) (.int 31)]) (.int 2147483587)),
    .ret (.bin .mod (.bin .fdiv (.bin .mod (.bf .int [.bin .mul (.v 2) (.int 39373)]) (.int 2147483563)) (.int 64)) (.v 1))] }
def f_TooMany___init__ : FD := { name := "__init__", qual := "TooMany.__init__", params := C8.fnArgs (mst 11 0), body := C8.fnBody (mst 11 0), scope := C8.fnScope (mst 11 0), N := ["self", "most"], ps := ["self", "most"], lam := false, hand := true, ys := [] }
def f_BadBook___init__ : FD := { name := "__init__", qual := "BadBook.__init__", params := C8.fnArgs (mst 2 0), body := C8.fnBody (mst 2 0), scope := C8.fnScope (mst 2 0), N := ["self", "part"], ps := ["self", "part"], lam := false, hand := true, ys := [] }
def f_BadThing___init__ : FD := { name := "__init__", qual := "BadThing.__init__", params := C8.fnArgs (mst 3 0), body := C8.fnBody (mst 3 0), scope := C8.fnScope (mst 3 0), N := ["self", "thing"], ps := ["self", "thing"], lam := false, hand := true, ys := [] }
def f_BadRow___init__ : FD := { name := "__init__", qual := "BadRow.__init__", params := C8.fnArgs (mst 4 0), body := C8.fnBody (mst 4 0), scope := C8.fnScope (mst 4 0), N := ["self", "part"], ps := ["self", "part"], lam := false, hand := true, ys := [] }
def f_BadText___init__ : FD := { name := "__init__", qual := "BadText.__init__", params := C8.fnArgs (mst 5 0), body := C8.fnBody (mst 5 0), scope := C8.fnScope (mst 5 0), N := ["self", "line"], ps := ["self", "line"], lam := false, hand := true, ys := [] }
def f_NotHad___init__ : FD := { name := "__init__", qual := "NotHad.__init__", params := C8.fnArgs (mst 6 0), body := C8.fnBody (mst 6 0), scope := C8.fnScope (mst 6 0), N := ["self", "paper"], ps := ["self", "paper"], lam := false, hand := true, ys := [] }
def f_Mismatch___init__ : FD := { name := "__init__", qual := "Mismatch.__init__", params := C8.fnArgs (mst 7 0), body := C8.fnBody (mst 7 0), scope := C8.fnScope (mst 7 0), N := ["self", "part"], ps := ["self", "part"], lam := false, hand := true, ys := [] }
def f_BadCircle___init__ : FD := { name := "__init__", qual := "BadCircle.__init__", params := C8.fnArgs (mst 8 0), body := C8.fnBody (mst 8 0), scope := C8.fnScope (mst 8 0), N := ["self", "part"], ps := ["self", "part"], lam := false, hand := true, ys := [] }
def f_NoDeed___init__ : FD := { name := "__init__", qual := "NoDeed.__init__", params := C8.fnArgs (mst 9 0), body := C8.fnBody (mst 9 0), scope := C8.fnScope (mst 9 0), N := ["self", "name"], ps := ["self", "name"], lam := false, hand := true, ys := [] }
def f_Kept___init__ : FD := { name := "__init__", qual := "Kept.__init__", params := C8.fnArgs (mst 10 0), body := C8.fnBody (mst 10 0), scope := C8.fnScope (mst 10 0), N := ["self", "paper"], ps := ["self", "paper"], lam := false, hand := true, ys := [] }
def f_NotOpen___init__ : FD := { name := "__init__", qual := "NotOpen.__init__", params := C8.fnArgs (mst 16 0), body := C8.fnBody (mst 16 0), scope := C8.fnScope (mst 16 0), N := ["self", "name"], ps := ["self", "name"], lam := false, hand := true, ys := [] }
def lc (x : Str) (m : Option Str) : Loc1 := (x, m)
def pt : PT := {
  T := tabs
  ds := [(f_law, (lc "law" none)), (f_law_deck, (lc "_law_deck" none)), (f_law_value, (lc "_law_value" none)), (f_law_made, (lc "_law_made" none)), (f_law_caught, (lc "_law_caught" none)), (f_law_is_one, (lc "_law_is_one" none)), (f_law_kinds_of, (lc "_law_kinds_of" none)), (f_law_borne, (lc "_law_borne" none)), (f_law_pick, (lc "_law_pick" none)), (f_law_draw, (lc "_law_draw" none)), (f_TooMany___init__, (lc "TooMany" (some "__init__"))), (f_BadBook___init__, (lc "BadBook" (some "__init__"))), (f_BadThing___init__, (lc "BadThing" (some "__init__"))), (f_BadRow___init__, (lc "BadRow" (some "__init__"))), (f_BadText___init__, (lc "BadText" (some "__init__"))), (f_NotHad___init__, (lc "NotHad" (some "__init__"))), (f_Mismatch___init__, (lc "Mismatch" (some "__init__"))), (f_BadCircle___init__, (lc "BadCircle" (some "__init__"))), (f_NoDeed___init__, (lc "NoDeed" (some "__init__"))), (f_Kept___init__, (lc "Kept" (some "__init__"))), (f_NotOpen___init__, (lc "NotOpen" (some "__init__")))]
  ls := []
  tf := [] }
end DL
end
section
set_option Elab.async false
set_option linter.all false
set_option maxRecDepth 100000
set_option maxHeartbeats 0
namespace DL
open PySem PySem.Spec PyProof.Rows L2 He
theorem dok : pt.ds.all (fun d => d.1.ok pt.T) = true := by kernel_rfl
theorem lok : pt.ls.all (fun d => d.ok pt.T) = true := by kernel_rfl
theorem lamsb : lamsB pt = true := by kernel_rfl
abbrev qv : Program := PySem.W.view R.prog [29]
def names : List PySem.Str := (R.prog.main.scope.names.filter fun p => decide (p.2 = .local) && !(p.1 == ("law" : PySem.Str))).map (·.1)
abbrev hk : PySem.W.Hook := hookY pt.xs [] pt.fn pt.ts pt.tabs (gfX pt)
def ob (s : PySem.W.SharedT) : AlX := obsY pt.xs [] pt.fn pt.ts pt.tabs (gfX pt) (HandSHeadRun.getT s)
theorem ob_eq (s : PySem.W.SharedT) : ob s = hk.obs s.abs := obsY_eq (HandSHeadRun.getT_eq s)
end DL
end
section
set_option Elab.async false
set_option linter.all false
set_option maxRecDepth 100000
set_option maxHeartbeats 0
namespace DL
open PySem PySem.Spec PyProof.Rows L2 He
theorem runF (w : World) : HandSHeadRun.RunEq R qv hk ob 16000 names (w.withFollow "special-get-raises" false) := by
  intro os
  kernel_rfl
theorem runT (w : World) : HandSHeadRun.RunEq R qv hk ob 16000 names (w.withFollow "special-get-raises" true) := by
  intro os
  kernel_rfl
theorem run (w : World) : HandSHeadRun.RunEq R qv hk ob 16000 names w := PySem.W.byRow2 "special-get-raises" runF runT w
end DL
end
section
set_option Elab.async false
set_option linter.all false
set_option maxRecDepth 100000
set_option maxHeartbeats 0
namespace DL
open PySem PySem.Spec PyProof.Rows L2 He
abbrev RWL : PySem.W.OpenLaw := PySem.Challenge.rw_circlewatch_k01_errors
theorem lam_at : ∀ L f n, (L, f, n) ∈ pt.T.lams → ∃ i d, pt.ls[i]? = some d ∧ d.L = L ∧ f = pt.ds.length + i ∧ n = d.ps.length := fun L f n h => nomatch h
end DL
open PySem PySem.W PySem.Calls PyProof.Rows DL
theorem k01_of {C : Nat → Nat → DSp} {lev : Nat} (L : Lev pt C) (hr : L2.Room (2 * lev + 2) callerA)
    (hlaw : ∀ (ns : List Int) (G : DH) (s : DV), ns.length ≤ 63 → (∀ z ∈ ns, Builtin.Int.intBits z ≤ 1048576) → (s = .lk (ns.map DV.int) ∨ ∃ a, s = .ref a ∧ G a = some (.lst (ns.map DV.int))) → C lev 0 [s] G (fun v _ => v = .bl true) (fun _ _ _ => False)) :
    RWL.Holds := by
  w_on; o_law
  refine HandSHeadRun.head_any (r := R) (q := qv) (H := hk) (ob := ob) (M := 16000) (loose := names) (d := HandSHeadRun.topDef R.prog 29) (kwd := []) ob_eq
    (by kernel_rfl) (fun s => by kernel_rfl) run (by kernel_rfl) (by kernel_rfl) (by kernel_rfl) (by rfl) (by first | assumption | decide +kernel) (by decide +kernel) ⟨rfl, rfl, rfl, rfl, rfl, by decide +kernel⟩ ?hw ?hc
  case hw => w_witness2
  case hc =>
    refine L2.walk_ofTsEG (l := RWL) (n := 63) (k := 2 * lev + 2) (x := "script") (CX := fun w => L2.CX RWL.prog w) rfl (by decide) (by kernel_rfl) hr ?F (fun w H s e s' z => ?c)
    case F =>
      intro w mg fa h Y G hmg0
      obtain ⟨K, KX, c⟩ := Y
      have hmg : mg ("law" : PySem.Str) = some (.ref fa) := by
        have e : (HandSHeadRun.topDef R.prog 29).name = ("law" : PySem.Str) := by kernel_rfl
        rw [← e]
        exact hmg0
      have O : PGOk pt w K := pg_of c dok lok lamsb lam_at
      refine ⟨K, KX, law_at (l := RWL) (fid := 0) (d := (f_law, lc "law" none)) c O L KX G rfl rfl ?_ hlaw⟩
      have hg : (He.Fa.glo (Str.ofString "law")).ok K = true := by
        have h1 := O.gf
        unfold gfB at h1
        have h2 := (and2 (and2 (and2 h1).2).2).1
        exact (and2 (List.all_eq_true.mp h2 ("law", 0, 1) (by decide +kernel))).1
      have e := He.glo_ok KX G hg
      rw [show (Str.ofString "law") = ("law" : PySem.Str) from rfl] at e
      rw [hmg] at e
      cases e
      rfl
    case c =>
      obtain ⟨a, B, H', cls, d, _, _, _, _, _, _, _, z⟩ := z
      exact z
end
section
set_option Elab.async false
set_option linter.all false
set_option maxRecDepth 100000
set_option maxHeartbeats 2000000
set_option autoImplicit false
/-! try: raise .., two clauses of which the second one catches; a def called within its suite with the caught exception. -/
namespace XE
open PySem PySem.Spec PySem.W PySem.Calls PyProof.Rows L2
section
variable {X : Cx} {C fI : Addr} {k : Nat} {fd : FuncData} {ps : List Str} {x f : Str} {e : Expr} {ta : TA} {p pos : Pos}
theorem pmk_xN (T : XCl X.K C) (iC : findIn X.K (.ref C) "__init__" = some (some (.ref fI))) (tI : typeIn X.K (.ref fI) = some (.type "function"))
    (F1 : FnOk X.prog X.w X.K X.mg X.base (L2.CX X.prog X.w) k fI fd ps (spI C f)) (hr : Room (k + 1) X.A) (hb : Binds X.K fd ps []) (hx : Passes (L2.CX X.prog X.w) X (fun _ _ _ => False)) (hg : Gl X x) (hm : X.mg x = some (.ref C)) (ha : PA X [e] ta)
    (hdb : (x == ("__debug__" : Str)) = false) (hs : starEach [e] X.env = (false, eval e X.env) :: starEach [] X.env) : L2N.PMk X (.Call (.Name x p) [e] [] pos) (tMkX C f ta) := by
  intro pins s σ H Q I h
  refine wpAny_Call_Name_kw (ld_glob I hg hm ?_ hdb)
  refine callWith_K (h₀ := X.base) I.ok.mod.kin T.kC (thn (ha.run pos pins s σ H _ I h) fun us s1 ⟨vs, H1, I1, r1, v, ev, q1⟩ => ⟨I1.kIn, ?_⟩) hs (by rfl)
  subst ev
  obtain ⟨u, rfl, ru⟩ : ∃ u, us = [u] ∧ L2.RelV v u := by
    cases r1 with
    | cons ru rn => cases rn; exact ⟨_, rfl, ru⟩
  show wpAny _ _ (call (.ref C) [u]) _ _ _
  obtain ⟨hp, g, dr, tk, os⟩ := s1
  obtain ⟨nm, N', qn, bs, bm, hdct, sn, sub, ab, col, dd, k0, k1, k2, k3, k5, hC, hT⟩ := excInit_of I1.kIn T.ini
  have grow : hp.objs.size ≤ hp.objs.size + 1 := Nat.le_succ _
  have ha1 : H1 (hp.objs.size + 1) = none := I1.hok.fresh grow
  have stays : ∀ b o, hp.get? b = some o → ((hp.push (kdv_tup [u])).push (HandSPX.excO C hp.objs.size)).get? b = some o := fun b o z => Heap.get?_push_of_some _ (Heap.get?_push_of_some _ z)
  have made : ((hp.push (kdv_tup [u])).push (HandSPX.excO C hp.objs.size)).get? (hp.objs.size + 1) = some (HandSPX.excO C hp.objs.size) := by heap_get
  have I2 := I1.laid (t' := tk) (a := hp.objs.size + 1) (o := exo (hp.objs.size + 1) C none) (h' := (hp.push (kdv_tup [u])).push (HandSPX.excO C hp.objs.size)) stays grow (exo_ok made)
  have hsp : spI C f [V.ref (hp.objs.size + 1), v] (upd H1 (hp.objs.size + 1) (exo (hp.objs.size + 1) C none)) (fun w H2 => w = .non ∧ ∃ d, H1 d = none ∧ d ≠ hp.objs.size + 1 ∧ H2 = upd (upd H1 d (exd d [(f, v)])) (hp.objs.size + 1) (exo (hp.objs.size + 1) C (some d))) (fun _ _ _ => False) :=
    ⟨_, v, rfl, upd_same, fun dx n ne => ⟨rfl, dx, by rw [upd_ne ne] at n; exact n, ne, upd_over ne⟩⟩
  have hl := F1.len _ _ _ _ hsp
  refine wpAny_call (HandSPX.call_own PySem.F.excBase_Exception hT hC (looks_findIn I1.kIn iC) (fun self => bind_fn I1.kIn self tI) (by show 1 ≤ sizeLine; decide)
    (codeAny_mono (F1.run _ X.stack _ _ ⟨[Value.ref (hp.objs.size + 1), u], []⟩ [Value.ref (hp.objs.size + 1), u] [V.ref (hp.objs.size + 1), v] _ (fun _ _ _ => False) (hr.make C [u] []) (I2.env0.make C [u] []) ?_ (.cons rfl (.cons ru .nil)) hsp) fun r s' z => ?_))
  · have := hb _ [Value.ref (hp.objs.size + 1), u] I2.kIn (by rw [List.append_nil]; exact hl)
    rw [List.append_nil] at this
    exact this
  · cases r with
    | error er => exact hx pins σ _ _ er s' I2 z
    | ok fl =>
      cases fl with
      | ret w =>
        obtain ⟨w', H2, o2, b2, un2, hk2, rw', ew, d, hd, nd, e2⟩ := z
        subst ew e2
        obtain ⟨h2, g2, d2, t2, os2⟩ := s'
        obtain ⟨t0, G, J, kG, ge, hoe, na⟩ := mk_end0 (d2 := d2) (t2 := t2) I1 grow stays un2 hk2 o2 b2 upd_same (by rw [upd_ne nd, upd_same]) hd
        have := q1 d hd
        have eH : upd (del (upd (upd H1 d (exd d [(f, v)])) (hp.objs.size + 1) (exo (hp.objs.size + 1) C (some d))) (hp.objs.size + 1)) d (.xd [(f, v)]) = upd H1 d (.xd [(f, v)]) := by
          funext b
          rcases Decidable.em (b = d) with z | z
          · rw [z, upd_same, upd_same]
          rw [upd_ne z, upd_ne z]
          rcases Decidable.em (b = hp.objs.size + 1) with y | y
          · rw [y, del_same, ha1]
          · rw [del_ne y, upd_ne y, upd_ne z]
        rw [eH] at J na
        exact ⟨rw', _, _, _, ⟨G, g2, d2, t2, os2⟩, _, .ref C, some d, rfl, J, kG, ge, hoe, ⟨rfl, rfl, fun vs e => by cases e; rfl⟩, rfl, rfl, na, rfl, b2, raises_own T.exC T.tyC, this⟩
      | next => exact z.elim
      | brk => exact z.elim
      | cont => exact z.elim
end
/-- what two clauses wish of an exception that the second one catches -/
def wTwo (K : PySem.W.Frag) (c1 c : Value) (i : Nat) (ts : Addr → Value → Option Addr → TS) (D : Ends) : WX := fun cls d σ H => exmOne K cls c1 = some false ∧ exmOne K cls c = some true ∧
  ∀ a, H a = none → ts a cls d { nx := fun σ' H' => D.nx (σ'.set i none) H', rt := D.rt, bk := fun σ' H' => D.bk (σ'.set i none) H', ct := fun σ' H' => D.ct (σ'.set i none) H' } (σ.set i (some (.ref a))) H
section
variable {X : Cx} {x x1 n : Str} {c c1 : Value} {i : Nat} {body suite suite1 : List Stmt} {b₀ : Stmt} {np np1 pos pos' pos1 : Pos} {tb : WX → TS} {ts : Addr → Value → Option Addr → TS}
open L2N in
theorem ps_try_two (hs : X.stack = X.env :: X.outer) (hf : X.env.frame = some X.env.locals) (hN : X.N.Nodup) (hi : X.N[i]? = some n) (hln : X.env.kindOf n = some .local) (hc1 : Names X x1 c1) (hc : Names X x c)
    (hb : ∀ (W : WX) (pn : List (Addr × Obj)) (xe : Value → Shared → Prop), L2N.Takes (X.tr pn xe) W → PassesOwn (model X.prog X.w) X.A X.env xe → PSs (X.tr pn xe) body (tb W))
    (hsu : ∀ (a : Addr) (oe : Obj) (cls : Value) (d : Option Addr) (pn : List (Addr × Obj)), L2N.Zn cls d oe → (∃ vs, oe.data = .fields vs) → PSs (X.suite a ((a, oe) :: pn)) (b₀ :: suite) (ts a cls d)) :
    PS X (.Try body [.ExceptHandler (some (.Name x1 np1)) none suite1 pos1, .ExceptHandler (some (.Name x np)) (some n) (b₀ :: suite) pos'] [] [] pos) (fun D σ H => tb (wTwo X.K c1 c i ts D) D σ H) := by
  refine ⟨fun pins s σ H D I h => ?_⟩
  have ok := I.ok
  have hfr : X.A.frames = some (X.env :: X.outer) := by rw [ok.frames, hs]
  have hloc : Loc X.env.scope n := .inl hln
  refine wpAny_Try_except ?_
  refine wpAny_mono ((hb (wTwo X.K c1 c i ts D) (X.pn ++ pins) (fun e s₁ => wpAny (model X.prog X.w) X.A (noteFrame e X.env) (fun _ s₂ => wpAny (model X.prog X.w) X.A (setFlight e none) (fun _ s₃ =>
    wpAny (model X.prog X.w) X.A (handleBy e X.env [.ExceptHandler (some (.Name x1 np1)) none suite1 pos1, .ExceptHandler (some (.Name x np)) (some n) (b₀ :: suite) pos']) (SP X pins D) X.xe s₃) X.xe s₂) X.xe s₁) (fun u s' xx => ?_) PassesOwn.looking).run [] s σ H D (I.toTry _) h) (fun f s1 hsp => ?_) (fun e s1 he => he)
  · obtain ⟨a, B, sI, pins', σ', H', cls, d, rfl, J', nb, up, sky, na, os, ag, hno, hyes, hq⟩ := xx
    have J : L2.Inv X pins σ' H' sI := J'.ofTry ok
    have sky' : Sky B (X.env :: X.outer) a (L2N.Zn cls d) X.env.locals s'.heap := by rw [← hs]; exact sky
    show wpAny (model X.prog X.w) X.A (noteFrame (.ref a) X.env) _ _ _
    refine L2N.Sky.land Zn.steady hfr hf sky' fun h3 fl3 up3 => ?_
    have J3 : L2.Inv X pins σ' H' { s' with heap := h3 } := J.landed nb fl3.1 (up.trans up3) os ag
    obtain ⟨oe3, vs3, he3, hz3, hd3⟩ := fl3.there
    have notFr : ∀ {h : Heap} {o : Obj} {vs : Array Value}, h.FunFrames B (X.env :: X.outer) → h.get? a = some o → o.data = .fields vs → a ∉ frs (X.env :: X.outer) := fun {h o vs} ff e dd hm => by
      obtain ⟨_, o', e', hnf⟩ := ff.mem hm
      rw [e] at e'; cases e'
      exact hnf _ dd
    have nfr := notFr fl3.2.2.1 he3 hd3
    have nL : a ≠ X.env.locals := fun z => nfr (List.mem_filterMap.mpr ⟨X.env, List.mem_cons_self, by rw [hf, z]⟩)
    have nF : a ∉ X.fs := fun hm => by
      obtain ⟨e, he, q⟩ := List.mem_filterMap.mp hm
      exact nfr (List.mem_filterMap.mpr ⟨e, List.mem_cons_of_mem _ he, q⟩)
    have S3 := J3.suite he3 hd3 na nL nF
    have LT : PySem.W.Looks (model X.prog X.w) h3 (typeOf (.ref a)) cls := fun A Q E s k q => wpAny_typeOf_ref (k _ _ he3) (by rw [hz3.1]; exact q)
    have LM1 := PySem.W.exm_one (M := model X.prog X.w) (J3.kIn) LT hno
    have LM := PySem.W.exm_one (M := model X.prog X.w) (J3.kIn) LT hyes
    have test : ∀ {y : Str} {cc : Value} {yp : Pos} {Q : Value → Shared → Prop} {E : Value → Shared → Prop}, Names X y cc → Q cc { s' with heap := h3 } → wpAny (model X.prog X.w) (X.A.mark (some (.ref a))) (eval (.Name y yp) X.env) Q E { s' with heap := h3 } := fun {y cc yp Q E} hn q => by
      obtain ⟨hg, hdbg, hm | ⟨hm, hv, hnn⟩⟩ := hn
      · exact ld_glob (X := X.suite a ((a, oe3) :: (X.pn ++ pins))) S3 hg hm q hdbg
      · exact ld_blt (X := X.suite a ((a, oe3) :: (X.pn ++ pins))) S3 hg hm hv q hnn hdbg
    refine wpAny_handleBy_cons (codeAny_handlers_test ?_) (by intro q; cases q)
    refine test hc1 (LM1.here ?_)
    show wpAny _ X.A (handleBy (.ref a) X.env [.ExceptHandler (some (.Name x np)) (some n) (b₀ :: suite) pos']) _ _ _
    refine wpAny_handleBy_cons (codeAny_handlers_test ?_) (by intro q; cases q)
    refine test hc (LM.here ?_)
    refine codeAny_handlers_suite_as ?_
    refine HandSPX.lands_againZ fl3 fun h4 fl4 up4 => ?_
    have J4 : L2.Inv X pins σ' H' { s' with heap := h4 } := J.landed nb fl4.1 ((up.trans up3).trans up4) os ag
    obtain ⟨oe4, vs4, he4, hz4, hd4⟩ := fl4.there
    have S4 := J4.suite he4 hd4 na nL nF
    refine store_ok (X := X.suite a ((a, oe4) :: (X.pn ++ pins))) (v := .ref a) S4 hN hi hloc rfl (fun s5 S5 => ?_) (.inr hln)
    refine wpAny_mono ((hsu a oe4 cls d (X.pn ++ pins) hz4 ⟨_, hd4⟩).run [] s5 _ H' _ S5 (hq a na)) (fun f s6 hsp => ?_) (fun _ _ z => False.elim z)
    have end_ : ∀ {σ6 : L2.St} {H6 : Hp} {Q : Shared → Prop}, L2.Inv (X.suite a ((a, oe4) :: (X.pn ++ pins))) [] σ6 H6 s6 → (∀ s7, L2.Inv X pins (σ6.set i none) H6 s7 → Q s7) →
        wpAny (model X.prog X.w) X.A (do bindName X.env n .none; unbindBehindTheSuite X.env n pos') (fun _ s7 => Q s7) X.xe s6 := fun {σ6 H6 Q} S6 hq => gone_ok (S6.unsuite ok) hN hi hln hq
    cases f with
    | next =>
      obtain ⟨σ6, H6, S6, q6⟩ := hsp
      exact end_ S6 fun s7 J7 => ⟨_, _, J7, q6⟩
    | brk =>
      obtain ⟨σ6, H6, S6, q6⟩ := hsp
      exact end_ S6 fun s7 J7 => ⟨_, _, J7, q6⟩
    | cont =>
      obtain ⟨σ6, H6, S6, q6⟩ := hsp
      exact end_ S6 fun s7 J7 => ⟨_, _, J7, q6⟩
    | ret u =>
      obtain ⟨v6, σ6, H6, S6, r6, q6⟩ := hsp
      exact end_ S6 fun s7 J7 => ⟨_, _, _, J7, r6, q6⟩
  · cases f with
    | next =>
      obtain ⟨σ', H', J', q⟩ := hsp
      exact wpAny_execs_nil ⟨σ', H', J'.ofTry ok, q⟩
    | brk =>
      obtain ⟨σ', H', J', q⟩ := hsp
      exact ⟨σ', H', J'.ofTry ok, q⟩
    | cont =>
      obtain ⟨σ', H', J', q⟩ := hsp
      exact ⟨σ', H', J'.ofTry ok, q⟩
    | ret u =>
      obtain ⟨v, σ', H', J', r, q⟩ := hsp
      exact ⟨v, σ', H', J'.ofTry ok, r, q⟩
end
/-! ### a def called within a suite, the caught exception known -/
open L2H in
theorem fn_hot {CX : CXT} {P : Program} {w : World} {K : PySem.W.Frag} {mg : Str → Option Value} {base : Heap} {k : Nat} {f : Addr} {name qual : Str} {params : Arguments} {body : List Stmt} {scope : Scope} {dV kV doc pm cdv ct oc : Value} {an od : Option Addr}
    {osl : Array (Option Value)} {N ps : List Str} (p : Addr × Obj) (lk : K.lookup f = some ⟨oc, od, .func (PySem.W.fnOf name qual params body scope dV kV doc pm an cdv ct), osl⟩) (hcd : PySem.W.codeIn K cdv qual = true) (S : FnScope N ps scope)
    {A : Around} {outer : List Env} {s : Shared} {H : Hp} {args : Args} {us : List Value} {vs : List V} {Q : VK} {E : XK} (hr : RoomH (k + 1) A) (hot : Hot1 A p) (hpin : PinOk outer H s p) (e0 : Env0 P w K mg base A outer s H)
    (hb : BindsTo s (PySem.W.fnOf name qual params body scope dV kV doc pm an cdv ct) args (ps.zip us)) (r : Vals vs us) (hl : vs.length = ps.length)
    (hbody : ∃ t, PSs (cxH CX P w K mg base N qual scope f cdv A outer s H E p) body t ∧ t { nx := fun _ H' => Q .non H', rt := Q } (L2.start N vs) H) :
    codeAny (model P w) A (.call (.ref f) args) (L2.CR CX outer P w H s Q E) s := by
  have KX : K.In s.heap := e0.mod.kin.keeps fun b o e => (e0.bs b o e).1
  have lim : s.heap.NoLimit := e0.mod.nolimit.keeps fun b o e => (e0.bs b o e).1
  have hkind : ∀ y ∈ ps.zip us, scope.names.lookup y.1 = some .local ∨ (scope.names.lookup y.1 = some .cell ∧ ((cellsFrom (s.heap.objs.size + 1) scope.names []).lookup y.1).isSome = true) := fun ⟨n, v⟩ hy => by
    rcases S.par n (List.of_mem_zip hy).1 with q | q
    · exact .inl q
    · exact .inr ⟨q, PySem.W.cellsFrom_some _ _ _ (.inl q)⟩
  refine codeAny_call_function hr.depth (KX _ _ lk) rfl S.co S.gen rfl (PySem.W.codeRec_of KX hcd) (hb _ _ _ _ ?_)
  refine wpAny_newFunctionEnv_cells S.kind hkind fun env he s1 x => ?_
  subst he
  refine ⟨lim.keeps x.toInCall.keep, codeAny_func ?_⟩
  obtain ⟨t, ht, hq⟩ := hbody
  have I : L2.Inv (cxH CX P w K mg base N qual scope f cdv A outer s H E p) [] (L2.start N vs) H s1 := inv_startH S hpin e0 hl r x
  refine wpAny_mono (ht.run [] s1 (L2.start N vs) H _ I hq) (fun fl s' hs => ?_) fun e s' hs => hs
  have fin : ∀ {σ' : L2.St} {H' : Hp} {v : V} {u : Value}, L2.Inv (cxH CX P w K mg base N qual scope f cdv A outer s H E p) [] σ' H' s' → L2.RelV v u → Q v H' → CE outer P w H s Q u s' :=
    fun {σ' H' v u} J rv q => ⟨v, H', J.os, J.bare, J.base, J.hok, rv, q⟩
  cases fl with
  | ret u =>
    obtain ⟨v, σ', H', J, rv, q⟩ := hs
    exact fin J rv q
  | next =>
    obtain ⟨σ', H', J, q⟩ := hs
    exact fin (v := V.non) (u := Value.none) J rfl q
  | brk =>
    obtain ⟨_, _, _, q⟩ := hs
    exact False.elim q
  | cont =>
    obtain ⟨_, _, _, q⟩ := hs
    exact False.elim q
/-- isinstance(e, c), e the exception that is pinned, with its dict -/
def rIsP (K : PySem.W.Frag) (a D d : Addr) : List V → Hp → VK → Prop := fun xs H Q => ∃ (c : V) (u : Value) (fs : List (Str × V)) (b : Bool), xs = [.ref a, c] ∧ ClsV c u ∧ H d = some (.xd fs) ∧ kitOne K (.ref D) u = some b ∧ Q (.bl b) H
theorem call_isP {X : Cx} {p : Addr × Obj} {D d : Addr} (hp : p ∈ X.pn) (E : ExcC X.K D) (hc : p.2.cls = .ref D) (hd : p.2.dict = some d) (hf : ∃ vs, p.2.data = .fields vs) : CallR X (.builtin "isinstance") (rIsP X.K p.1 D d) := by
  intro pins s σ H xs us Q I r h
  obtain ⟨c, u, fs, b, rfl, k, hx, e, q⟩ := h
  obtain ⟨u1, u2, rfl, r1, r2⟩ := vals2 r
  have e2 := k.eq r2
  subst e2
  cases (show u1 = Value.ref p.1 from r1)
  obtain ⟨hget, _⟩ := I.pin p (List.mem_append.mpr (.inl hp))
  obtain ⟨vs, hv⟩ := hf
  obtain ⟨mA, hns, _⟩ := (show ObjOk X.prog X.w H s.heap d (.xd fs) from I.hok d _ hx)
  obtain ⟨od, ho, _⟩ := lookIn_ns hns
  have J : InstAt s.heap p.1 p.2 D (some od) := ⟨hget, hc, by unfold notCls; rw [hv], by rw [hd]; exact ho⟩
  exact kia_one (excKit E) I.kIn J e (fun z => nomatch z) fun tk => ⟨.bl b, H, I.tok tk, rfl, q⟩
end XE
end
section
set_option Elab.async false
set_option linter.all false
set_option maxRecDepth 100000
set_option maxHeartbeats 1000000
set_option autoImplicit false
/-! k01: an error that is raised and caught, by hand. -/
namespace DL
open PySem PySem.Spec PyProof.Rows L2 XE
/-! an except clause's answer -/
theorem mro_self {K : PySem.W.Frag} {C : Addr} (T : XCl K C) : PySem.W.subIn K (.ref C) (.ref C) = some true := by
  have h := T.ov
  unfold PySem.W.excOver at h
  show (PySem.W.clsIn K C).bind (fun cd => if cd.mro.isEmpty then none else some (cd.mro.contains (.ref C))) = some true
  cases q : PySem.W.clsIn K C with
  | none => rw [q] at h; cases h
  | some cd =>
    rw [q, Option.any_some] at h
    rw [Option.bind_some]
    split at h
    · rename_i C' bm e
      simp only [Bool.and_eq_true, beq_iff_eq] at h
      rw [e, h.1]
      simp
    · cases h
theorem exm_of {K : PySem.W.Frag} {cls C : Addr} {b : Bool} (T : XCl K cls) (E : ExcC K C) (h : PySem.W.kitOne K (.ref cls) (.ref C) = some b) : PySem.W.exmOne K (.ref cls) (.ref C) = some b := by
  have e1 : (PySem.W.subIn K (.ref C) (.type "BaseException") == some true) = true := by rw [E.hs]; rfl
  show (if (PySem.W.subIn K (.ref C) (.type "BaseException") == some true) = true then PySem.W.kitCls K (.ref cls) (.ref C) else none) = some b
  rw [if_pos e1]
  unfold PySem.W.kitOne at h
  split at h
  · rename_i q
    have e : cls = C := Value.ref.inj (beq_iff_eq.mp q)
    subst e
    cases h
    obtain ⟨cd, hc, _⟩ := PySem.W.any_some T.hd
    have e2 : ((PySem.W.clsIn K cls).isSome && PySem.W.typeIn K (.ref cls) == some (.type "type")) = true := by rw [hc, T.tyC]; rfl
    show (if ((PySem.W.clsIn K cls).isSome && PySem.W.typeIn K (.ref cls) == some (.type "type")) = true then PySem.W.subIn K (.ref cls) (.ref cls) else none) = some true
    rw [if_pos e2]
    exact mro_self T
  · exact h
/-! ### of which classes an error is, while it is handled -/
def isiE (S : SC) : List String → List Expr → Bool
  | [], [] => true
  | c :: cs, .Call (.Name y _) [.Name v _, .Name z _] [] _ :: es => gN S y "isinstance" && (decide (S.N[0]? = some v) && (visB S.sc v && (noDbg v && (gN S z c && isiE S cs es))))
  | _, _ => false
def kinds : List (List String) := [["BadBook", "BadThing", "BadRow", "BadText"], ["NotHad", "Mismatch", "BadCircle", "NoDeed"], ["Kept", "TooMany", "NothingToUndo"], ["NothingToRedo", "NoCircle", "InvalidCommand"], ["NotOpen", "Over", "NoWatcher"]]
def fnd (S : SC) (x : Str) : Bool := decide (S.N[1]? = some x) && (visB S.sc x && (locB S x && noDbg x))
def kindsB (S : SC) : List Stmt → Bool
  | [.Assign [.Name f1 _] (.List e1 _) _, .Assign [.Name f2 _] (.BinOp (.Name g2 _) .Add (.List e2 _) _) _, .Assign [.Name f3 _] (.BinOp (.Name g3 _) .Add (.List e3 _) _) _, .Assign [.Name f4 _] (.BinOp (.Name g4 _) .Add (.List e4 _) _) _, .Return (some (.BinOp (.Name g5 _) .Add (.List e5 _) _)) _] =>
    (fnd S f1 && (fnd S f2 && (fnd S f3 && fnd S f4))) && ((fnd S g2 && (fnd S g3 && (fnd S g4 && fnd S g5))) && (isiE S (kinds.getD 0 []) e1 && (isiE S (kinds.getD 1 []) e2 && (isiE S (kinds.getD 2 []) e3 && (isiE S (kinds.getD 3 []) e4 && isiE S (kinds.getD 4 []) e5)))))
  | _ => false
theorem kinds_ok : kindsB f_law_kinds_of.sc f_law_kinds_of.body = true := by kernel_rfl
def ansV (D : String) (cs : List String) : List V := cs.map fun c => .bl (xisa tabs.xsub D (.o c))
/-- the context of that def: e is pinned, of the class D, its dict at d -/
structure HotX (X : Cx) (S : SC) (C : Nat → DSp) (j : Nat) (p : Addr × Obj) (D : String) (d : Addr) : Prop where
  sc : X.env.scope = S.sc
  N : X.N = S.N
  nd : S.N.Nodup
  fn : X.fn = S.fn
  g : GF tabs C j X.prog X.w X.K X.mg X.base
  hp : p ∈ X.pn
  hD : D ∈ tabs.xcl
  cls : p.2.cls = .ref (He.ga X.K D)
  dict : p.2.dict = some d
  data : ∃ vs, p.2.data = .fields vs
section
variable {X : Cx} {S : SC} {C : Nat → DSp} {j : Nat} {p : Addr × Obj} {D : String} {d : Addr}
theorem HotX.gl (c : HotX X S C j p D d) {y : Str} {x : String} (h : gN S y x = true) : y = Str.ofString x ∧ Gl X y ∧ (y == ("__debug__" : Str)) = false ∧ y ≠ ("__name__" : Str) := by
  unfold gN at h
  simp only [Bool.and_eq_true] at h
  obtain ⟨h1, h2, h3⟩ := h
  refine ⟨isN_ok h1, ?_, (noDbg_ok h3).1, (noDbg_ok h3).2.2⟩
  show X.env.scope.names.lookup y = some .globalImplicit
  rw [c.sc]
  exact of_decide_eq_true h2
def tAns (p : Addr × Obj) (D : String) (d : Addr) (cs : List String) : TA := fun σ H Q => σ[0]? = some (some (.ref p.1)) ∧ (∃ fs, H d = some (.xd fs)) ∧ Q (ansV D cs) H
theorem pa_ans (c : HotX X S C j p D d) : ∀ {cs : List String} {es : List Expr}, (∀ x ∈ cs, (x, TN.o x) ∈ tabs.xns) → isiE S cs es = true → PA X es (tAns p D d cs)
  | [], [], _, _ => pa_weak pa_nil fun σ H Q q => q.2.2
  | [], _ :: _, _, h => by cases h
  | _ :: _, [], _, h => by cases h
  | x :: cs, e :: es, hm, h => by
    unfold isiE at h
    split at h
    · rename_i h1 h2; cases h1
    · rename_i h1 h2
      cases h1; cases h2
      rename_i y py v pv z pz pos
      obtain ⟨h1, k1⟩ := and2 h
      obtain ⟨h2, k2⟩ := and2 k1
      obtain ⟨h3, k3⟩ := and2 k2
      obtain ⟨h4, k4⟩ := and2 k3
      obtain ⟨h5, h6⟩ := and2 k4
      obtain ⟨ey, gy, dy, ny⟩ := c.gl h1
      obtain ⟨ez, gz, dz, nz⟩ := c.gl h5
      subst ey ez
      obtain ⟨d1, d2, _⟩ := noDbg_ok h4
      have hv : PE X (.Name v pv) (tVar 0) := pe_var (by rw [c.N]; exact of_decide_eq_true h2) (by rw [c.sc]; exact visB_ok h3) d1 d2
      have mem := hm x (List.mem_cons_self ..)
      have hx := c.g.xns x (.o x) mem
      have hz : PE X (.Name (Str.ofString x) pz) (tC (.ref (He.ga X.K x))) := pe_glob gz hx rfl dz
      have hk := (c.g.xcl D c.hD).2 _ mem
      have hb : bootBuiltins (Str.ofString "isinstance") = some (.builtin "isinstance") := by kernel_rfl
      have key := pe_callB (p := py) (pos := pos) (call_isP c.hp (c.g.xcl D c.hD).1 c.cls c.dict c.data) gy (c.g.free _ (by decide)) hb (pa_cons hv (pa_cons hz pa_nil)) ny dy
      refine pa_weak (pa_cons key (pa_ans c (fun x hx => hm x (List.mem_cons_of_mem _ hx)) h6) rfl) fun σ H Q ⟨q1, ⟨fs, q2⟩, q3⟩ => ?_
      exact ⟨_, q1, _, _, fs, _, rfl, .own _, q2, hk, q1, ⟨fs, q2⟩, q3⟩
    · cases h
/-- what stands still stands -/
def Hext (H H' : Hp) : Prop := ∀ b o, H b = some o → H' b = some o
theorem Hext.new {H0 H : Hp} {q : Addr} {o : HO} (e : Hext H0 H) (hq : H q = none) : Hext H0 (upd H q o) := fun b u h => by
  have h1 := e b u h
  rw [upd_ne (ne_of_none h1 hq)]
  exact h1
theorem hext_none {H0 H : Hp} {q : Addr} (e : Hext H0 H) (hq : H q = none) : H0 q = none := by
  cases z : H0 q with
  | none => rfl
  | some o => rw [e q o z] at hq; cases hq
/-- the state between the statements: the list found so far -/
def Fnd (p : Addr × Obj) (d : Addr) (H0 : Hp) (ks : List V) (σ : L2.St) (H : Hp) : Prop := ∃ l, σ = [some (.ref p.1), some (.ref l)] ∧ Hext H0 H ∧ H0 l = none ∧ (∃ fs, H0 d = some (.xd fs)) ∧ H l = some (.lst ks)
theorem add_run {K : PySem.W.Frag} {p : Addr × Obj} {D : String} {d : Addr} {H0 : Hp} {ks : List V} {cs : List String} {σ : L2.St} {H : Hp} {Q : VK} (h : Fnd p d H0 ks σ H) (h1 : ks.length ≤ 100) (h2 : cs.length ≤ 100)
    (q : ∀ l H', Hext H0 H' → H0 l = none → H' l = some (.lst (ks ++ ansV D cs)) → Q (.ref l) H') : tOp (rAddAll K) (tVar 1) (tLst (tAns p D d cs)) σ H Q := by
  obtain ⟨l, rfl, e, hl, ⟨fs, hd⟩, hH⟩ := h
  have sz : sizeLine = 16777216 := by rw [sizeLine_eq]
  have la : (ansV D cs).length = cs.length := by unfold ansV; rw [List.length_map]
  refine ⟨.ref l, rfl, rfl, ⟨fs, e _ _ hd⟩, by omega, fun p2 hp2 => ?_⟩
  refine .inr (.inr (.inr ⟨l, p2, ks, _, rfl, rfl, ?_, upd_same, by omega, fun p3 hp3 => ?_⟩))
  · rw [upd_ne (ne_of_none hH hp2)]; exact hH
  · have e2 := e.new (o := .lst (ansV D cs)) hp2
    exact q p3 _ (e2.new hp3) (hext_none e2 hp3) upd_same
theorem fnd_ok (c : HotX X S C j p D d) {x : Str} (h : fnd S x = true) : X.N[1]? = some x ∧ Vis X.env.scope x ∧ (Loc X.env.scope x ∧ (X.fn x = true ∨ X.env.scope.names.lookup x = some .local)) ∧ (x == ("__debug__" : Str)) = false ∧ (x == ("__classdict__" : Str)) = false := by
  obtain ⟨h1, h⟩ := and2 h
  obtain ⟨h2, h⟩ := and2 h
  obtain ⟨h3, h4⟩ := and2 h
  obtain ⟨d1, d2, _⟩ := noDbg_ok h4
  refine ⟨by rw [c.N]; exact of_decide_eq_true h1, by rw [c.sc]; exact visB_ok h2, ?_, d1, d2⟩
  unfold locB at h3
  rw [← c.sc, ← c.fn] at h3
  split at h3
  · rename_i q; exact ⟨.inl q, .inr q⟩
  · rename_i q; exact ⟨.inr q, .inl h3⟩
  · cases h3
/-- what the def's body does -/
theorem kinds_body (c : HotX X S C j p D d) {body : List Stmt} (h : kindsB S body = true) {H0 : Hp} {Q : VK} (hd : ∃ fs, H0 d = some (.xd fs)) (hq : ∀ l H', Hext H0 H' → H0 l = none → H' l = some (.lst (ansV D kinds.flatten)) → Q (.ref l) H') :
    ∃ t, PSs X body t ∧ t { nx := fun _ H' => Q .non H', rt := Q } [some (.ref p.1), none] H0 := by
  unfold kindsB at h
  split at h
  · obtain ⟨ha, hb⟩ := and2 h
    obtain ⟨a1, ha⟩ := and2 ha
    obtain ⟨a2, ha⟩ := and2 ha
    obtain ⟨a3, a4⟩ := and2 ha
    obtain ⟨hc, he⟩ := and2 hb
    obtain ⟨c2, hc⟩ := and2 hc
    obtain ⟨c3, hc⟩ := and2 hc
    obtain ⟨c4, c5⟩ := and2 hc
    obtain ⟨e1, he⟩ := and2 he
    obtain ⟨e2, he⟩ := and2 he
    obtain ⟨e3, he⟩ := and2 he
    obtain ⟨e4, e5⟩ := and2 he
    obtain ⟨n1, v1, ⟨l1, f1⟩, d1, d1'⟩ := fnd_ok c a1
    obtain ⟨n2, v2, ⟨l2, f2⟩, d2, d2'⟩ := fnd_ok c a2
    obtain ⟨n3, v3, ⟨l3, f3⟩, d3, d3'⟩ := fnd_ok c a3
    obtain ⟨n4, v4, ⟨l4, f4⟩, d4, d4'⟩ := fnd_ok c a4
    obtain ⟨m2, w2, _, b2, b2'⟩ := fnd_ok c c2
    obtain ⟨m3, w3, _, b3, b3'⟩ := fnd_ok c c3
    obtain ⟨m4, w4, _, b4, b4'⟩ := fnd_ok c c4
    obtain ⟨m5, w5, _, b5, b5'⟩ := fnd_ok c c5
    have nd : X.N.Nodup := by rw [c.N]; exact c.nd
    have mm : ∀ g ∈ kinds, ∀ x ∈ g, (x, TN.o x) ∈ tabs.xns := by decide
    refine ⟨_, pss_cons (ps_set nd n1 l1 (pe_lst (pa_ans c (mm _ (by decide)) e1)) rfl f1) (pss_cons (ps_set nd n2 l2 (pe_op op_addAll (pe_var m2 w2 b2 b2') (pe_lst (pa_ans c (mm _ (by decide)) e2))) rfl f2) (pss_cons (ps_set nd n3 l3 (pe_op op_addAll (pe_var m3 w3 b3 b3') (pe_lst (pa_ans c (mm _ (by decide)) e3))) rfl f3)
      (pss_cons (ps_set nd n4 l4 (pe_op op_addAll (pe_var m4 w4 b4 b4') (pe_lst (pa_ans c (mm _ (by decide)) e4))) rfl f4) (pss_cons (ps_ret (pe_op op_addAll (pe_var m5 w5 b5 b5') (pe_lst (pa_ans c (mm _ (by decide)) e5)))) pss_nil)))), ?_⟩
    have sz : sizeLine = 16777216 := by rw [sizeLine_eq]
    refine ⟨rfl, hd, by rw [sz]; show 4 ≤ 16777216; decide, fun p1 hp1 => ?_⟩
    refine add_run (H0 := H0) (ks := ansV D (kinds.getD 0 [])) ⟨p1, rfl, Hext.new (fun b o z => z) hp1, hp1, hd, upd_same⟩ (by show 4 ≤ 100; decide) (by decide) fun l2 H2 x2 y2 z2 => ?_
    refine add_run (H0 := H0) (ks := ansV D (kinds.getD 0 []) ++ ansV D (kinds.getD 1 [])) ⟨l2, rfl, x2, y2, hd, z2⟩ (by show 8 ≤ 100; decide) (by decide) fun l3 H3 x3 y3 z3 => ?_
    refine add_run (H0 := H0) (ks := ansV D (kinds.getD 0 []) ++ ansV D (kinds.getD 1 []) ++ ansV D (kinds.getD 2 [])) ⟨l3, rfl, x3, y3, hd, z3⟩ (by show 11 ≤ 100; decide) (by decide) fun l4 H4 x4 y4 z4 => ?_
    refine add_run (H0 := H0) (ks := ansV D (kinds.getD 0 []) ++ ansV D (kinds.getD 1 []) ++ ansV D (kinds.getD 2 []) ++ ansV D (kinds.getD 3 [])) ⟨l4, rfl, x4, y4, hd, z4⟩ (by show 14 ≤ 100; decide) (by decide) fun l5 H5 x5 y5 z5 => ?_
    exact hq l5 H5 x5 y5 z5
  · cases h
end
open L2H in
/-- that def is called within a suite -/
theorem pe_kinds {X : Cx} {p : Addr × Obj} {D : String} {d fK : Addr} {fd : FuncData} {C : Nat → DSp} {j i : Nat} {v : Str} {q pv pos : Pos} (hot : Hot1 X.A p) (hp : p ∈ X.pn) (hr : RoomH 1 X.A) (g : GF tabs C j X.prog X.w X.K X.mg X.base)
    (F : FunD X.K f_law_kinds_of.name f_law_kinds_of.qual f_law_kinds_of.params f_law_kinds_of.body f_law_kinds_of.scope [] [] fK fd) (hok : f_law_kinds_of.ok tabs = true) (hg : Gl X (Str.ofString "_law_kinds_of")) (hm : X.mg (Str.ofString "_law_kinds_of") = some (.ref fK)) (hk : PySem.W.keepIn X.K (.ref fK) = true)
    (hD : D ∈ tabs.xcl) (cls : p.2.cls = .ref (He.ga X.K D)) (dict : p.2.dict = some d) (data : ∃ vs, p.2.data = .fields vs) (hN : X.N[i]? = some v) (hv : Vis X.env.scope v) (d1 : (v == ("__debug__" : Str)) = false) (d2 : (v == ("__classdict__" : Str)) = false) :
    PE X (.Call (.Name (Str.ofString "_law_kinds_of") q) [.Name v pv] [] pos) (fun σ H Q => σ[i]? = some (some (.ref p.1)) ∧ (∃ fs, H d = some (.xd fs)) ∧ ∀ l H', Hext H H' → H l = none → H' l = some (.lst (ansV D kinds.flatten)) → Q (.ref l) H') := by
  refine ⟨fun pins s σ H Q I ⟨hs, hd, hq⟩ => ?_⟩
  refine wpAny_Call_Name_kw (ld_glob I hg hm ?_ (by decide))
  have ha : PA X [.Name v pv] (tCons (tVar i) tNil) := pa_cons (pe_var hN hv d1 d2) pa_nil
  refine PySem.W.callWith_K (h₀ := X.base) I.ok.mod.kin hk (thn (ha.run pos pins s σ H (fun vs H1 => vs = [.ref p.1] ∧ H1 = H) I ⟨_, hs, rfl, rfl⟩) fun us s1 ⟨vs, H1, I1, r, e1, e2⟩ => ⟨I1.kIn, ?_⟩) rfl rfl
  subst e1 e2
  unfold FD.ok at hok
  obtain ⟨h1, h⟩ := and2 hok
  obtain ⟨h2, h3⟩ := and2 h
  have sc := C8.fnScope_by h1
  have hb : Binds X.K fd f_law_kinds_of.ps [] := F.bindsN fun kV doc pm an cdv ct us hl => bind_plain h2 rfl hl
  obtain ⟨oc, od, dV, kV, doc, pm, an, cdv, ct, osl, rfl, lk, hcd, _, _⟩ := F.ex
  have hl : us.length = f_law_kinds_of.ps.length := r.length.symm
  have b := hb s1 us I1.kIn (by rw [List.append_nil]; exact hl)
  rw [List.append_nil] at b
  have P1 := I1.pin p (List.mem_append_left _ hp)
  have hpin : PinOk X.stack H1 s1 p := ⟨P1.1, P1.2.1, fun hm => (List.mem_cons.mp (I1.stkSub p.1 hm)).elim P1.2.2.1 P1.2.2.2.1, P1.2.2.2.2⟩
  refine wpAny_call (codeAny_mono (fn_hot (CX := L2.CX X.prog X.w) (Q := Q) (E := fun _ _ _ => False) (k := 0) (mg := X.mg) (base := X.base) (args := ⟨us, []⟩) (us := us) (vs := [.ref p.1]) p lk hcd sc hr hot hpin I1.env0 b r rfl ?_) fun r s' z => ?_)
  · have c : HotX (cxH (L2.CX X.prog X.w) X.prog X.w X.K X.mg X.base f_law_kinds_of.N f_law_kinds_of.qual f_law_kinds_of.scope fK cdv X.A X.stack s1 H1 (fun _ _ _ => False) p) f_law_kinds_of.sc C j p D d := {
      sc := rfl, N := rfl, nd := sc.nd, fn := rfl, g := g, hp := List.mem_singleton.mpr rfl, hD := hD, cls := cls, dict := dict, data := data }
    exact kinds_body c kinds_ok hd hq
  · cases r with
    | error er =>
      obtain ⟨_, _, _, _, _, _, _, _, _, _, _, _, z⟩ := z
      exact z.elim
    | ok fl =>
      cases fl with
      | ret u => exact I1.after z
      | next => exact z.elim
      | brk => exact z.elim
      | cont => exact z.elim
end DL
end
section
set_option Elab.async false
set_option linter.all false
set_option maxRecDepth 100000
set_option maxHeartbeats 1000000
set_option autoImplicit false
namespace DL
open PySem PySem.Spec PyProof.Rows L2 XE
def nmB (S : SC) (i : Nat) (x : Str) : Bool := decide (S.N[i]? = some x) && (visB S.sc x && (locB S x && noDbg x))
def tryB (S : SC) (r a b : String) (xB : Expr → Bool) : Stmt → Bool
  | .Try [.Raise (some (.Call (.Name r1 _) [.Name v _] [] _)) none _] [.ExceptHandler (some (.Name a1 _)) none _ _, .ExceptHandler (some (.Name b1 _)) (some n) [.Expr (.Call (.Attribute (.Name f _) m ap) [x] [] p) _] _] [] [] _ =>
    gN S r1 r && (nmB S 0 v && (gN S a1 a && (gN S b1 b && (nmB S 2 n && (decide (S.sc.names.lookup n = some .local) && (nmB S 1 f && (isN m "append" && ((ap.endLine == p.line) && (notStar x && xB x)))))))))
  | _ => false
def lineB (S : SC) : Expr → Bool
  | .Attribute (.Name w _) l _ => nmB S 2 w && isN l "line"
  | _ => false
def eightB (S : SC) : Expr → Bool
  | .Subscript (.Call (.Name k _) [.Name w _] [] _) (.Constant (.int i) _ _) _ => gN S k "_law_kinds_of" && (nmB S 2 w && decide (i = 8))
  | _ => false
def caughtB (S : SC) : List Stmt → Bool
  | [.Assign [.Name f _] (.List [] _) _, t1, t2, .Return (some (.Name g _))  _] => nmB S 1 f && (nmB S 1 g && (tryB S "BadText" "NotHad" "BadText" (lineB S) t1 && tryB S "Kept" "BadCircle" "CircleError" (eightB S) t2))
  | _ => false
theorem caught_ok : caughtB f_law_caught.sc f_law_caught.body = true := by kernel_rfl
section
variable {S : SC} {C : Nat → DSp} {j : Nat} {X : Cx} {ξ : XP}
theorem nm_ok (c : Cok tabs S C j X ξ) {i : Nat} {x : Str} (h : nmB S i x = true) : X.N[i]? = some x ∧ Vis X.env.scope x ∧ Loc X.env.scope x ∧ (X.fn x = true ∨ X.env.scope.names.lookup x = some .local) ∧ (x == ("__debug__" : Str)) = false ∧ (x == ("__classdict__" : Str)) = false := by
  obtain ⟨h1, h⟩ := and2 h
  obtain ⟨h2, h⟩ := and2 h
  obtain ⟨h3, h4⟩ := and2 h
  obtain ⟨d1, d2, _⟩ := noDbg_ok h4
  obtain ⟨l, f⟩ := locB_ok c h3
  exact ⟨by rw [c.N]; exact of_decide_eq_true h1, by rw [c.sc]; exact visB_ok h2, l, f, d1, d2⟩
theorem ps_tryK (c : Cok tabs S C j X ξ) (hs : X.stack = X.env :: X.outer) (hf : X.env.frame = some X.env.locals) {st : Stmt} {r a b fR : String} {ir : Nat} {xB : Expr → Bool} {tx : Addr → Value → Option Addr → TE} (h : tryB S r a b xB st = true) (hR : (r, r, fR, ir) ∈ tabs.xks) (hna : (a, TN.o a) ∈ tabs.xns) (hnb : (b, TN.o b) ∈ tabs.xns)
    (hrc : r ∈ tabs.xcl) (hac : a ∈ tabs.xcl) (hbc : b ∈ tabs.xcl) (na : xisa tabs.xsub r (.o a) = false) (yb : xisa tabs.xsub r (.o b) = true)
    (hx : ∀ x, xB x = true → notStar x = true → ∀ (q : Addr) (oe : Obj) (cls : Value) (d : Option Addr) (pn : List (Addr × Obj)), L2N.Zn cls d oe → (∃ vs, oe.data = .fields vs) → PE (X.suite q ((q, oe) :: pn)) x (tx q cls d)) :
    PS X st (fun D σ H => ∃ v l xs, σ[0]? = some (some v) ∧ σ[1]? = some (some (.ref l)) ∧ H l = some (.lst xs) ∧ ∀ d, H d = none → ∀ q, upd H d (.xd [(Str.ofString fR, v)]) q = none →
      tx q (.ref (He.ga X.K r)) (some d) (σ.set 2 (some (.ref q))) (upd H d (.xd [(Str.ofString fR, v)])) (fun y H2 => rAppend (.ref l) [y] H2 fun _ H3 => D.nx ((σ.set 2 (some (.ref q))).set 2 none) H3)) := by
  unfold tryB at h
  split at h
  · rename_i r1 rp v vp cp rpos a1 ap1 s1 p1 b1 bp n f fp m ap x p ep hp tp
    obtain ⟨h1, k⟩ := and2 h
    obtain ⟨h2, k⟩ := and2 k
    obtain ⟨h3, k⟩ := and2 k
    obtain ⟨h4, k⟩ := and2 k
    obtain ⟨h5, k⟩ := and2 k
    obtain ⟨h6, k⟩ := and2 k
    obtain ⟨h7, k⟩ := and2 k
    obtain ⟨h8, k⟩ := and2 k
    obtain ⟨h9, k⟩ := and2 k
    obtain ⟨h10, h11⟩ := and2 k
    obtain ⟨er, gr, dr, _⟩ := gN_ok c h1
    obtain ⟨ea, ga', da, _⟩ := gN_ok c h3
    obtain ⟨eb, gb, db, _⟩ := gN_ok c h4
    have em := isN_ok h8
    subst er ea eb em
    obtain ⟨n0, v0, _, _, d0, d0'⟩ := nm_ok c h2
    obtain ⟨n2, v2, l2, f2, d2, d2'⟩ := nm_ok c h5
    obtain ⟨n1, v1, l1, f1, d1, d1'⟩ := nm_ok c h7
    obtain ⟨fI, fd, ps, q1, q2, q3, q4, q5, q6, _⟩ := c.g.xks r r fR ir hR
    have qa := c.g.xns a (.o a) hna
    have qb := c.g.xns b (.o b) hnb
    have hroom : Room 2 X.A := c.room.mono (by have := c.g.jj; omega)
    have exa := exm_of q2 (c.g.xcl a hac).1 (by have := (c.g.xcl r hrc).2 _ hna; rw [na] at this; exact this)
    have exb := exm_of q2 (c.g.xcl b hbc).1 (by have := (c.g.xcl r hrc).2 _ hnb; rw [yb] at this; exact this)
    refine ps_weak (ps_try_two (i := 2) (ts := fun q cls d => tSeq (tDrop (tBM X.K "list" rAppend (tVar 1) (tCons (tx q cls d) tNil))) tNext) (c1 := .ref (He.ga X.K a)) (c := .ref (He.ga X.K b)) hs hf (by rw [c.N]; exact c.nd) n2 (show X.env.scope.names.lookup n = some .local by rw [c.sc]; exact of_decide_eq_true h6) ⟨ga', da, .inl qa⟩ ⟨gb, db, .inl qb⟩
      (fun W pn xe tk po => pss_cons (L2N.ps_raise (X := X.tr pn xe) c.calm tk (pmk_xN (X := X.tr pn xe) q2 q3 q4 q5 hroom q6 (fun pins σ H s e s' I ⟨_, _, _, _, _, _, _, _, _, _, _, _, z⟩ => z.elim) gr q1 (pa_cons (pe_var (X := X.tr pn xe) n0 v0 d0 d0') pa_nil) dr rfl)) pss_nil)
      (fun q oe cls d pn hz hfd => pss_cons (ps_expr (pe_bm (X := X.suite q ((q, oe) :: pn)) PySem.F.plainAttrs_list PySem.F.slot_list_append PySem.F.type_list_append mt_append (pe_var (X := X.suite q ((q, oe) :: pn)) n1 v1 d1 d1') (pa_cons (hx x h11 h10 q oe cls d pn hz hfd) pa_nil (star_cons h10)) rfl ?hfew h9 (star_cons h10) rfl) rfl) pss_nil)) fun D σ H ⟨vv, l, xs, s0, s1, hl, q⟩ => ?_
    case hfew =>
      have hst : ([x] : List Expr).all notStar = true := by simp [h10]
      rw [star_none hst]
      simp [keywordEach, backToKw]
    · refine ⟨vv, s0, vv, rfl, fun d hd => ⟨exa, exb, fun qq hq => ?_⟩⟩
      have e1 : (σ.set 2 (some (.ref qq)))[1]? = some (some (.ref l)) := by rw [List.getElem?_set_ne (by decide)]; exact s1
      have hl2 : upd H d (.xd [(Str.ofString fR, vv)]) l = some (.lst xs) := by rw [upd_ne (ne_of_none hl hd)]; exact hl
      refine ⟨.ref l, e1, .inl ⟨rfl, xs, .inl (.inl hl2)⟩, ?_⟩
      exact q d hd qq hq
  · cases h
theorem pe_line (c : Cok tabs S C j X ξ) {x : Expr} (h : lineB S x = true) {q : Addr} {oe : Obj} {cls : Value} {d : Option Addr} {pn : List (Addr × Obj)} (hz : L2N.Zn cls d oe) (hf : ∃ vs, oe.data = .fields vs) :
    PE (X.suite q ((q, oe) :: pn)) x (tXf q cls d (He.ga X.K "BadText") (Str.ofString "line") (tVar 2)) := by
  unfold lineB at h
  split at h
  · obtain ⟨h1, h2⟩ := and2 h
    have e := isN_ok h2
    subst e
    obtain ⟨n2, v2, _, _, d2, d2'⟩ := nm_ok c h1
    obtain ⟨f1, f2⟩ := c.g.xfs "BadText" "line" (by decide)
    exact pe_xf f1 f2 hz.zc hf (pe_var (X := X.suite q ((q, oe) :: pn)) n2 v2 d2 d2') rfl
  · cases h
def tEight (K : PySem.W.Frag) (q : Addr) (cls : Value) (d : Option Addr) : TE := fun σ H Q => cls = .ref (He.ga K "Kept") ∧ ∃ dd, d = some dd ∧
  tOp (rIx K) (fun σ H Q => σ[2]? = some (some (.ref q)) ∧ (∃ fs, H dd = some (.xd fs)) ∧ ∀ l H', Hext H H' → H l = none → H' l = some (.lst (ansV "Kept" kinds.flatten)) → Q (.ref l) H') (tC (.int 8)) σ H Q
theorem pe_eight (c : Cok tabs S C j X ξ) {fK : Addr} {fd : FuncData} (F : FunD X.K f_law_kinds_of.name f_law_kinds_of.qual f_law_kinds_of.params f_law_kinds_of.body f_law_kinds_of.scope [] [] fK fd) (hok : f_law_kinds_of.ok tabs = true)
    (hm : X.mg (Str.ofString "_law_kinds_of") = some (.ref fK)) {x : Expr} (h : eightB S x = true) {q : Addr} {oe : Obj} {cls : Value} {d : Option Addr} {pn : List (Addr × Obj)} (hz : L2N.Zn cls d oe) (hf : ∃ vs, oe.data = .fields vs) :
    PE (X.suite q ((q, oe) :: pn)) x (tEight X.K q cls d) := by
  unfold eightB at h
  split at h
  · rename_i kf kp w wp cp ii kk ip sp
    obtain ⟨h1, k2⟩ := and2 h
    obtain ⟨h2, h3⟩ := and2 k2
    clear h k2
    obtain ⟨ek, gk, dk, _⟩ := gN_ok c h1
    subst ek
    cases of_decide_eq_true h3
    obtain ⟨n2, v2, _, _, d2, d2'⟩ := nm_ok c h2
    have hroom : Room 1 X.A := c.room.mono (by omega)
    obtain ⟨vs, hv⟩ := hf
    refine ⟨fun pins s σ H Q I ⟨e1, dd, e2, t⟩ => ?_⟩
    have key := pe_kinds (X := X.suite q ((q, oe) :: pn)) (p := (q, oe)) (D := "Kept") (d := dd) (i := 2) (q := kp) (pv := wp) (pos := cp) (v := w) ⟨rfl, vs, hv, hz.2.2 vs hv⟩ (List.mem_cons_self ..) ⟨hroom.dp, hroom.un⟩ c.g F hok gk hm F.kp (by decide) (by show oe.cls = _; rw [hz.1, e1]) (by show oe.dict = _; rw [hz.2.1, e2]) ⟨vs, hv⟩ n2 v2 d2 d2'
    exact (pe_ix (X := X.suite q ((q, oe) :: pn)) (pos := sp) ix_seq key (pe_int (pos := ip)) (ix_of rfl)).run pins s σ H Q I t
  · cases h
end
/-! ### the def -/
def S_caught : DSp := fun ds G P EX => ∃ x, ds = [x] ∧ ∀ l, G l = none → P (.ref l) (updD G l (.lst [x, .bl true]))
theorem hext_rel {K : PySem.W.Frag} {G : DH} {H H' : Hp} (r : Rel K G H) (e : Hext H H') : Rel K G H' ∧ Frame G H G H' := by
  have k : Keeps H H' := ⟨fun a xs h => e a _ h, fun a o u h => e a _ h, fun a p h => e a _ h⟩
  refine ⟨⟨fun a o g => ?_, r.tab.ext e⟩, fun a o h g _ => ⟨e a o h, g⟩⟩
  have h := r.rep a o g
  cases o with
  | lst xs => obtain ⟨vs, h, z⟩ := h; exact ⟨vs, e _ _ h, z.mono k⟩
  | dK kvs => obtain ⟨vs, h, z⟩ := h; exact ⟨vs, e _ _ h, z.mono k⟩
  | ins c fs => obtain ⟨dx, gs, h, z⟩ := h; exact ⟨dx, gs, e _ _ h, z.mono k⟩
theorem updD_updD {G : DH} {a : Addr} {o o' : DO} : updD (updD G a o) a o' = updD G a o' := by
  funext b
  unfold updD
  split <;> rfl
theorem hand_caught {C : Nat → DSp} : HandOk pt C (f_law_caught, lc (Str.ofString "_law_caught") none) S_caught := by
  intro j P w K mg base fd O KX GB g F
  have hok := List.all_eq_true.mp O.dok (f_law_caught, lc (Str.ofString "_law_caught") none) (List.mem_of_getElem? (show pt.ds[4]? = some _ from rfl))
  have hokK := List.all_eq_true.mp O.dok (f_law_kinds_of, lc (Str.ofString "_law_kinds_of") none) (List.mem_of_getElem? (show pt.ds[6]? = some _ from rfl))
  obtain ⟨fdK, FK, _⟩ := O.fun_ (f_law_kinds_of, lc (Str.ofString "_law_kinds_of") none) (List.mem_of_getElem? (show pt.ds[6]? = some _ from rfl))
  have hmK : mg (Str.ofString "_law_kinds_of") = some (.ref (He.fAd K (lc (Str.ofString "_law_kinds_of") none))) := by
    have h1 := O.gf
    unfold gfB at h1
    have h2 := (and2 (and2 (and2 h1).2).2).1
    exact He.glo_ok KX GB (and2 (List.all_eq_true.mp h2 ("_law_kinds_of", 6, 1) (by decide +kernel))).1
  unfold FD.ok at hok
  obtain ⟨h1, h⟩ := and2 hok
  obtain ⟨h2, _⟩ := and2 h
  obtain ⟨oc, od, dV, kV, doc, pm, an, cdv, ct, osl, rfl, lk, hcd, _, _⟩ := F.ex
  have sc := C8.fnScope_by h1
  refine fn_ofG lk hcd sc (fun vs H Q E ⟨ds, G, P, EX, r, _, e, _⟩ => by rw [r.length, e]) fun A outer s H vs Q E gd hr ⟨ds, G, Pd, EX, r, rl, e, ⟨x, eds, q⟩, k, xr⟩ => ?_
  subst eds
  obtain ⟨v, rfl, zx⟩ := repL_one.mp r
  have tk := takes_of (X := cxOf (L2.CX P w) P w K mg base f_law_caught.N f_law_caught.qual f_law_caught.scope (He.fAd K (lc (Str.ofString "_law_caught") none)) cdv A outer s H E) rfl rfl rfl rfl
  have c : Cok tabs f_law_caught.sc C j (cxOf (L2.CX P w) P w K mg base f_law_caught.N f_law_caught.qual f_law_caught.scope (He.fAd K (lc (Str.ofString "_law_caught") none)) cdv A outer s H E) ⟨EX, E⟩ := {
    sc := rfl
    N := rfl
    nd := sc.nd
    calm := rfl
    fn := rfl
    room := hr
    gd := gd
    g := g
    pass := passes_call tk fun _ _ _ _ z => z
    lam := fun hl => by cases hl }
  have hb := caught_ok
  show ∃ t, PSs _ f_law_caught.body t ∧ _
  generalize f_law_caught.body = body at hb
  unfold caughtB at hb
  split at hb
  · rename_i f fp lp ap t1 t2 gg gp rp
    obtain ⟨b1, hb⟩ := and2 hb
    obtain ⟨b2, hb⟩ := and2 hb
    obtain ⟨b3, b4⟩ := and2 hb
    obtain ⟨n1, v1, l1, f1, d1, d1'⟩ := nm_ok c b1
    obtain ⟨m1, w1, _, _, e1, e1'⟩ := nm_ok c b2
    refine ⟨_, pss_cons (ps_set (by rw [c.N]; exact c.nd) n1 l1 (pe_lst pa_nil) rfl f1) (pss_cons (ps_tryK (ir := 14) c rfl rfl b3 (fR := "line") (by decide) (by decide) (by decide) (by decide) (by decide) (by decide) rfl rfl fun x hx _ q oe cls d pn hz hf => pe_line c hx hz hf)
      (pss_cons (ps_tryK (ir := 19) c rfl rfl b4 (fR := "paper") (by decide) (by decide) (by decide) (by decide) (by decide) (by decide) rfl rfl fun x hx _ q oe cls d pn hz hf => pe_eight c FK hokK hmK hx hz hf) (pss_cons (ps_ret (pe_var m1 w1 e1 e1')) pss_nil))), ?_⟩
    refine ⟨Nat.zero_le _, fun l hl => ?_⟩
    refine ⟨v, l, [], rfl, rfl, upd_same, fun d hd q1 hq1 => ?_⟩
    have nl : l ≠ d := ne_of_none (upd_same (H := H) (a := l) (o := .lst [])) hd
    refine ⟨.ref q1, rfl, rfl, rfl, d, _, v, rfl, upd_same, by rw [List.lookup_cons, beq_self_eq_true], l, [], v, rfl, rfl, by rw [upd_ne nl]; exact upd_same, by decide, ?_⟩
    refine ⟨v, l, [v], rfl, rfl, upd_same, fun d2 hd2 q2 hq2 => ?_⟩
    have nl2 : l ≠ d2 := ne_of_none (upd_same (a := l) (o := .lst ([] ++ [v]))) hd2
    refine ⟨rfl, d2, rfl, rfl, ⟨_, upd_same⟩, fun l8 H5 x5 y5 z5 => ?_⟩
    refine .inl ⟨l8, _, 8, .bl true, rfl, rfl, .inl (.inl z5), rfl, ?_⟩
    refine ⟨l, [v], .bl true, rfl, rfl, x5 _ _ (by rw [upd_ne nl2]; exact upd_same), by show 1 < sizeLine; decide, ?_⟩
    refine ⟨.ref l, rfl, ?_⟩
    obtain ⟨r1, g1⟩ := rl.new (p := l) (u := .lst []) (o := .lst []) hl ⟨[], upd_same, repL_nil.mpr rfl⟩
    obtain ⟨r2, g2⟩ := r1.aside (u := .xd [(Str.ofString "line", v)]) hd
    have z2 := zx.mono ((g1.trans g2).keeps rl)
    obtain ⟨r3, g3⟩ := r2.write (p := l) (o := .lst []) (o' := .lst [x]) (u := .lst ([] ++ [v])) updD_same ⟨[v], upd_same, repL_one.mpr ⟨v, rfl, z2.mono (r2.keepsW updD_same)⟩⟩
    obtain ⟨r4, g4⟩ := r3.aside (u := .xd [(Str.ofString "paper", v)]) hd2
    obtain ⟨r5, g5⟩ := hext_rel r4 x5
    have fr := g1.trans (g2.trans (g3.trans (g4.trans g5)))
    have z5' := zx.mono (fr.keeps rl)
    obtain ⟨r6, g6⟩ := r5.write (p := l) (o := .lst [x]) (o' := .lst [x, .bl true]) (u := .lst ([v] ++ [.bl true])) updD_same ⟨[v, .bl true], upd_same, repL_cons.mpr ⟨v, [.bl true], rfl, z5'.mono (r5.keepsW updD_same), repL_one.mpr ⟨_, rfl, rep_bl.mpr rfl⟩⟩⟩
    refine k (.ref l) _ (.ref l) _ (rep_ref.mpr rfl) r6 (fr.trans g6) ?_
    rw [updD_updD, updD_updD]
    exact q l (rl.fresh hl)
  · cases hb
end DL
end
section
set_option Elab.async false
set_option linter.all false
set_option maxRecDepth 100000
set_option autoImplicit false
namespace DL
open PySem PySem.Spec PyProof.Rows L2
/-! ### heaps that grow; a deck whose draws change it -/
abbrev Dk := Option (Addr × Addr)
def inD : Dk → Addr → Prop
  | none, _ => False
  | some p, a => a = p.1 ∨ a = p.2
abbrev kS (s : String) : Key := .inr (Str.ofString s)
def deckO (l : Addr) (m k : Int) : DO := .dK [(kS "cells", .ref l), (kS "blend", .int m), (kS "draws", .int k)]
def okD : Dk → DH → Prop
  | none, _ => True
  | some p, G => p.1 ≠ p.2 ∧ ∃ (zs : List Int) (m k : Int), zs.length ≤ 63 ∧ G p.1 = some (deckO p.2 m k) ∧ G p.2 = some (.lst (zs.map .int))
structure Ext (D : Dk) (G G' : DH) : Prop where
  k : ∀ a o, ¬ inD D a → G a = some o → G' a = some o
  d : okD D G → okD D G'
def Kn (D : Dk) (G : DH) (a : Addr) (o : DO) : Prop := ¬ inD D a ∧ G a = some o
section
variable {D : Dk} {G G1 G2 : DH} {a b p : Addr} {o o' : DO}
theorem Ext.refl (D : Dk) (G : DH) : Ext D G G := ⟨fun _ _ _ h => h, id⟩
theorem Ext.trans (e : Ext D G G1) (f : Ext D G1 G2) : Ext D G G2 := ⟨fun a o n h => f.k a o n (e.k a o n h), fun h => f.d (e.d h)⟩
theorem Kn.mono (h : Kn D G a o) (e : Ext D G G1) : Kn D G1 a o := ⟨h.1, e.k a o h.1 h.2⟩
theorem Kn.uniq (h : Kn D G a o) (h2 : Kn D G a o') : o = o' := by have := h.2.symm.trans h2.2; cases this; rfl
theorem okD.notIn (ok : okD D G) (h : G p = none) : ¬ inD D p := by
  cases D with
  | none => exact id
  | some q =>
    obtain ⟨_, zs, m, k, _, h1, h2⟩ := ok
    rintro (e | e)
    · subst e; rw [h1] at h; cases h
    · subst e; rw [h2] at h; cases h
theorem okD.upd (ok : okD D G) (n : ¬ inD D p) : okD D (updD G p o) := by
  cases D with
  | none => trivial
  | some q =>
    obtain ⟨h0, zs, m, k, hl, h1, h2⟩ := ok
    exact ⟨h0, zs, m, k, hl, by rw [updD_ne (fun e => n (.inl e.symm))]; exact h1, by rw [updD_ne (fun e => n (.inr e.symm))]; exact h2⟩
theorem Ext.new (ok : okD D G) (h : G p = none) : Ext D G (updD G p o) :=
  ⟨fun a ob n q => by rw [updD_ne (fun e => by rw [e, h] at q; cases q)]; exact q, fun h1 => h1.upd (ok.notIn h)⟩
theorem Kn.new (ok : okD D G) (h : G p = none) : Kn D (updD G p o) p o := ⟨ok.notIn h, updD_same⟩
theorem Ext.fresh (e : Ext D G G1) (ok : okD D G1) (h : G1 p = none) : G p = none := by
  cases q : G p with
  | none => rfl
  | some o => rw [e.k p o (ok.notIn h) q] at h; cases h
theorem Ext.wr (e : Ext D G G1) (ok : okD D G) (h : G p = none) : Ext D G (updD G1 p o) :=
  ⟨fun a ob n q => by rw [updD_ne (fun e => by rw [e, h] at q; cases q)]; exact e.k a ob n q, fun h1 => (e.d h1).upd (ok.notIn h)⟩
theorem Kn.wr (h : Kn D G p o) : Kn D (updD G p o') p o' := ⟨h.1, updD_same⟩
theorem Kn.wrN (h : Kn D G a o) (n : a ≠ p) : Kn D (updD G p o') a o := ⟨h.1, by rw [updD_ne n]; exact h.2⟩
theorem Kn.ne (h : Kn D G a o) (hb : G b = none) : a ≠ b := fun e => by rw [e, Kn] at h; rw [h.2] at hb; cases hb
theorem okD.wr (ok : okD D G) (h : Kn D G p o) : okD D (updD G p o') := ok.upd h.1
end
/-! ### specs -/
def SP {α : Type} (pre : Dk → α → DH → List DV → Prop) (post : Dk → α → DH → DV → Prop) : DSp := fun ds G P _ => ∃ D x, okD D G ∧ pre D x G ds ∧ ∀ v G2, Ext D G G2 → okD D G2 → post D x G2 v → P v G2
abbrev Has (C : Nat → DSp) (f : Nat) (S : DSp) : Prop := ∀ ds G P EX, S ds G P EX → C f ds G P EX
section
variable {α : Type} {pre : Dk → α → DH → List DV → Prop} {post : Dk → α → DH → DV → Prop} {C : Nat → DSp} {f : Nat} {D : Dk} {G : DH} {ds : List DV} {P : DK} {EX : DXK} {T : GT} {d : FD}
theorem SP.use (h : Has C f (SP pre post)) (x : α) (ok : okD D G) (hp : pre D x G ds) (k : ∀ v G2, Ext D G G2 → okD D G2 → post D x G2 v → P v G2) : C f ds G P EX := h _ _ _ _ ⟨D, x, ok, hp, k⟩
theorem SP.serves (h : ∀ D x ds G EX (P : DK), okD D G → pre D x G ds → (∀ v G2, Ext D G G2 → okD D G2 → post D x G2 v → P v G2) → denSs T C EX d.ys { nx := fun _ G' => P .non G', rt := P } (startD d.N.length ds) G) : Serves T C d (SP pre post) :=
  fun ds G P EX hl ⟨D, x, ok, hp, k⟩ => h D x ds G EX P ok hp k
end
/-- a new object -/
def NewO (o : DO) (G : DH) (P : DK) : Prop := ∀ p, G p = none → P (.ref p) (updD G p o)
theorem NewO.run {D : Dk} {G : DH} {P : DK} {o : DO} (ok : okD D G) (k : ∀ p G2, Ext D G G2 → okD D G2 → Kn D G2 p o → G p = none → P (.ref p) G2) : NewO o G P :=
  fun p hp => k p _ (Ext.new ok hp) (ok.upd (ok.notIn hp)) (Kn.new ok hp) hp
/-- a new instance -/
def MkO (C : Nat → DSp) (f n : Nat) (c : String) (E : DXK) (ds : List DV) (G : DH) (P : DK) : Prop := ∀ a, G a = none → (.ref a :: ds : List DV).length = n ∧ C f (.ref a :: ds) (updD G a (.ins c [])) (fun v G2 => v = .non ∧ P (.ref a) G2) E
/-! ### one step of what is computed -/
section
variable {T : GT} {C : Nat → DSp} {E : DXK} {τ : DSt} {G : DH} {P : DK} {PT' : Bool → DH → Prop} {PA : List DV → DH → Prop} {Dn : DEnds} {ta tb tc te : DTE} {tt tu : DTT} {tr : DTA} {r r' : DR2} {v x y z : DV} {xs ys : List DV}
theorem e_nil : denSs T C E [] Dn τ G = Dn.nx τ G := by simp only [denSs, dNext]
theorem e_cons {s : DY} {ss : List DY} : denSs T C E (s :: ss) Dn τ G = denS T C E s { Dn with nx := denSs T C E ss Dn } τ G := by simp only [denSs, dSeq]
theorem s_asg {tg : Tg} {e : DX} : denS T C E (.asg tg e) Dn τ G = den T C E e τ G fun d G1 => ∃ τ2, asgD tg d τ = some τ2 ∧ Dn.nx τ2 G1 := by simp only [denS, dAsg]
theorem s_par2 {i j : Nat} {a b : DX} : denS T C E (.par2 i j a b) Dn τ G = den T C E a τ G fun x G1 => den T C E b τ G1 fun y G2 => Dn.nx ((τ.set i (some x)).set j (some y)) G2 := by
  simp only [denS, dPar, denA, dCons, dNil, List.cons.injEq, and_true]
  congr; funext x G1; congr; funext y G2
  exact propext ⟨fun ⟨_, _, ⟨e1, e2⟩, h⟩ => by subst e1 e2; exact h, fun h => ⟨_, _, ⟨rfl, rfl⟩, h⟩⟩
theorem s_expr {e : DX} : denS T C E (.expr e) Dn τ G = den T C E e τ G fun _ G1 => Dn.nx τ G1 := by simp only [denS, dDrop]
theorem s_ret {e : DX} : denS T C E (.ret e) Dn τ G = den T C E e τ G Dn.rt := by simp only [denS, dRet]
theorem s_ifs {c : DX} {a b : List DY} : denS T C E (.ifs c a b) Dn τ G = denT T C E c τ G fun k G1 => if k = true then denSs T C E a Dn τ G1 else denSs T C E b Dn τ G1 := by simp only [denS, dIf]
theorem s_never : denS T C E .never Dn τ G = False := by simp only [denS, dNever]
theorem s_set {o i e : DX} : denS T C E (.set o i e) Dn τ G = den T C E e τ G fun v G1 => den T C E o τ G1 fun w G2 => den T C E i τ G2 fun j G3 => dSet w j v G3 fun G4 => Dn.nx τ G4 := by simp only [denS, dSetS]
theorem s_fset {o e : DX} {f : String} : denS T C E (.fset o f e) Dn τ G = den T C E e τ G fun v G1 => den T C E o τ G1 fun x G2 => ∃ a c fs, x = .ref a ∧ G2 a = some (.ins c fs) ∧ c ∈ T.clsOf f ∧ fs.length < 1000 ∧ Dn.nx τ (updD G2 a (.ins c (putFD f v fs))) := by simp only [denS, dFldS]
def ForK (xs : List DV) (live : DH → Prop) (tg : Tg) (tb : DTS) : DTS := fun E τ G => ∃ Pv : Nat → DSt → DH → Prop, Pv 0 τ G ∧ ∀ i τ G, i ≤ xs.length → Pv i τ G → live G ∧
  match xs[i]? with
  | some x => ∃ τ2, asgD tg x τ = some τ2 ∧ tb { E with nx := Pv (i + 1), ct := Pv (i + 1), bk := E.nx } τ2 G
  | none => E.nx τ G
theorem s_for {tg : Tg} {ik : IK} {it : List DX} {body : List DY} : denS T C E (.for_ tg ik it body) Dn τ G = dIter ik (denL T C E it) (denA T C E it) τ G fun xs live G1 => ForK xs live tg (denSs T C E body) Dn τ G1 := by simp only [denS]; rfl
theorem s_tset {o i : DX} {n : Nat} {a b : DX} : denS T C E (.tset o i n a b) Dn τ G = den T C E a τ G fun x G1 => den T C E b τ G1 fun y G2 => den T C E o τ G2 fun w G3 => den T C E i τ G3 fun j G4 => dSet w j x G4 fun G5 => Dn.nx (τ.set n (some y)) G5 := by
  simp only [denS, dTset, denA, dCons, dNil, List.cons.injEq, and_true]
  congr; funext x G1; congr; funext y G2
  exact propext ⟨fun ⟨_, _, ⟨e1, e2⟩, h⟩ => by subst e1 e2; exact h, fun h => ⟨_, _, ⟨rfl, rfl⟩, h⟩⟩
/-! expressions -/
theorem d_v {i : Nat} : den T C E (.v i) τ G P = ∃ d, τ[i]? = some (some d) ∧ P d G := by simp only [den, dVar]
theorem d_int {i : Int} : den T C E (.int i) τ G P = P (.int i) G := by simp only [den, dC]
theorem d_bl {i : Bool} : den T C E (.bl i) τ G P = P (.bl i) G := by simp only [den, dC]
theorem d_non : den T C E .non τ G P = P .non G := by simp only [den, dC]
theorem d_str {i : String} : den T C E (.str i) τ G P = P (.str (Str.ofString i)) G := by simp only [den, dC]
theorem d_bin {o : BO} {a b : DX} : den T C E (.bin o a b) τ G P = den T C E a τ G fun x G1 => den T C E b τ G1 fun y G2 => boR o x y G2 P := by simp only [den, dOp]
theorem d_neg {a : DX} : den T C E (.neg a) τ G P = den T C E a τ G fun x G1 => dNeg x G1 P := by simp only [den, dOp1]
theorem d_cmp {o : CO} {a b : DX} : den T C E (.cmp o a b) τ G P = den T C E a τ G fun x G1 => den T C E b τ G1 fun y G2 => coR o x y G2 P := by simp only [den, dOp]
theorem d_chain {o o' : CO} {a b c : DX} : den T C E (.chain o o' a b c) τ G P = den T C E a τ G fun x G1 => den T C E b τ G1 fun y G2 => coR o x y G2 fun z G3 => ∃ k, z = .bl k ∧ if k = true then den T C E c τ G3 fun w G4 => coR o' y w G4 P else P (.bl false) G3 := by simp only [den, dChain]
theorem d_not {a : DX} : den T C E (.not a) τ G P = den T C E a τ G fun x G1 => ∃ c, x = .bl c ∧ P (.bl (!c)) G1 := by simp only [den, dNotV]
theorem d_and1 {a : DX} : den T C E (.and [a]) τ G P = den T C E a τ G P := by simp only [den, denAnd]
theorem d_and {a b : DX} {l : List DX} : den T C E (.and (a :: b :: l)) τ G P = den T C E a τ G fun x G1 => ∃ c, x = .bl c ∧ if c = true then den T C E (.and (b :: l)) τ G1 P else P (.bl false) G1 := by
  cases l <;> simp only [den, denAnd, dAndV]
theorem d_or1 {a : DX} : den T C E (.or [a]) τ G P = den T C E a τ G P := by simp only [den, denOr]
theorem d_or {a b : DX} {l : List DX} : den T C E (.or (a :: b :: l)) τ G P = den T C E a τ G fun x G1 => ∃ c, x = .bl c ∧ if c = true then P (.bl true) G1 else den T C E (.or (b :: l)) τ G1 P := by
  cases l <;> simp only [den, denOr, dOrV]
theorem d_ite {c a b : DX} : den T C E (.ite c a b) τ G P = denT T C E c τ G fun k G1 => if k = true then den T C E a τ G1 P else den T C E b τ G1 P := by simp only [den, dIte]
theorem d_ix {a b : DX} : den T C E (.ix a b) τ G P = den T C E a τ G fun x G1 => den T C E b τ G1 fun y G2 => dIx x y G2 P := by simp only [den, dOp]
theorem d_slL {a b : DX} : den T C E (.slL a b) τ G P = den T C E a τ G fun x G1 => den T C E b τ G1 fun y G2 => ∃ i, y = .int i ∧ dSlR x (some i) none G2 P := by simp only [den, dSl, dPart, dNoPart]
theorem d_slH {a b : DX} : den T C E (.slH a b) τ G P = den T C E a τ G fun x G1 => den T C E b τ G1 fun y G2 => ∃ i, y = .int i ∧ dSlR x none (some i) G2 P := by simp only [den, dSl, dPart, dNoPart]
theorem d_rev {a : DX} : den T C E (.rev a) τ G P = den T C E a τ G fun x G1 => (match x with
  | .tup xs => P (.tup xs.reverse) G1
  | x => ∃ xs, (∀ ys, x ≠ .tup ys) ∧ seqD G1 x = some xs ∧ NewO (.lst xs.reverse) G1 P) := by simp only [den]; rfl
theorem a_nil {K : List DV → DH → Prop} : denA T C E [] τ G K = K [] G := by simp only [denA, dNil]
theorem a_cons {K : List DV → DH → Prop} {a : DX} {l : List DX} : denA T C E (a :: l) τ G K = den T C E a τ G fun x G1 => denA T C E l τ G1 fun xs G2 => K (x :: xs) G2 := by simp only [denA, dCons]
theorem d_tup {l : List DX} : den T C E (.tup l) τ G P = denA T C E l τ G fun xs G1 => xs.length ≤ sizeLine ∧ P (.tup xs) G1 := by simp only [den, dTup]
theorem d_xtup {l : List DX} : den T C E (.xtup l) τ G P = denA T C E l τ G fun xs G1 => xs.length ≤ sizeLine ∧ P (.xt xs) G1 := by simp only [den, dXTup]
theorem d_lst {l : List DX} : den T C E (.lst l) τ G P = denA T C E l τ G fun xs G1 => xs.length ≤ sizeLine ∧ NewO (.lst xs) G1 P := by simp only [den, dLst, NewO]
theorem d_fg {a : DX} : den T C E (.fg a) τ G P = den T C E a τ G fun x G1 => P (fgD x) G1 := by simp only [den, dFg]
theorem d_call {s : String} {f n : Nat} {l : List DX} : den T C E (.call s f n l) τ G P = denA T C E l τ G fun ds G1 => ds.length = n ∧ C f ds G1 P E := by simp only [den, dCall]
theorem d_callK {s : String} {f n m : Nat} {pm : List Nat} {ps ks : List String} {l kl : List DX} : den T C E (.callK s f n m pm ps ks l kl) τ G P = denA T C E l τ G fun ds G1 => denA T C E kl τ G1 fun zs G2 => ds.length = m ∧ zs.length = ks.length ∧ (pmV pm ds zs).length = n ∧ C f (pmV pm ds zs) G2 P E := by simp only [den, dCallKN]
theorem d_bf {b : BF} {l : List DX} : den T C E (.bf b l) τ G P = denA T C E l τ G fun xs G1 => bfD b xs G1 P := by simp only [den, dCB]
theorem d_bm {b : BM} {o : DX} {l : List DX} : den T C E (.bm b o l) τ G P = den T C E o τ G fun x G1 => tyD G1 x = some (bmT b) ∧ denA T C E l τ G1 fun xs G2 => bmD b x xs G2 P := by simp only [den, dBM]
theorem d_own {c m : String} {f n : Nat} {o : DX} {l : List DX} : den T C E (.own c m f n o l) τ G P = den T C E o τ G fun x G1 => ∃ a fs, x = .ref a ∧ G1 a = some (.ins c fs) ∧ fs.lookup m = none ∧ denA T C E l τ G1 fun ds G2 => (x :: ds).length = n ∧ C f (x :: ds) G2 P E := by simp only [den, dOwn]
theorem d_mk {s c : String} {f n : Nat} {l : List DX} : den T C E (.mk s c f n l) τ G P = denA T C E l τ G fun ds G1 => MkO C f n c E ds G1 P := by simp only [den, dMk, MkO]
theorem d_isi {s : String} {c : TN} {a : DX} : den T C E (.isi s c a) τ G P = den T C E a τ G fun x G1 => ∃ t, tyN G1 x = some t ∧ t ∈ T.tys ∧ P (.bl (isa T.sub t c)) G1 := by simp only [den, dIsi]
theorem d_fld {f : String} {a : DX} : den T C E (.fld f a) τ G P = den T C E a τ G fun x G1 => ∃ a c fs d, x = .ref a ∧ G1 a = some (.ins c fs) ∧ c ∈ T.clsOf f ∧ fs.lookup f = some d ∧ P d G1 := by simp only [den, dFld]
theorem d_lam {i : Nat} : den T C E (.lam i) τ G P = (match T.lams[i]? with
    | some p => P (.fv p.1) G
    | none => False) := by
  simp only [den]
  cases T.lams[i]? <;> rfl
theorem d_callV {i : Nat} {l : List DX} : den T C E (.callV i l) τ G P = ∃ L f n, τ[i]? = some (some (.fv L)) ∧ (L, f, n) ∈ T.lams ∧ denA T C E l τ G fun ds G1 => ds.length = n ∧ C f ds G1 P E := by simp only [den, dCallF]
theorem d_kget {s : String} {e : DX} : den T C E (.kget s e) τ G P = den T C E e τ G fun y G1 => ∃ z l, y = .str z ∧ T.kds.lookup s = some l ∧ P ((kdAt l z).getD .non) G1 := by simp only [den, dKget]
theorem d_lzip {l : List DX} : den T C E (.lzip l) τ G P = denA T C E l τ G fun ds G1 => ∃ x y xs ys, ds = [x, y] ∧ ((x = .tup xs ∧ y = .tup ys) ∨ ((∀ us, x ≠ .tup us) ∧ (∀ us, y ≠ .tup us) ∧ seqD G1 x = some xs ∧ seqD G1 y = some ys)) ∧
  NewO (.lst (zipD xs ys)) G1 P := by simp only [den, dLzip, NewO]
theorem d_dct0 : den T C E (.dct [] []) τ G P = NewO (.dK []) G P := by simp only [den, dNewK, NewO]
theorem d_dct {k : DX} {ks vs : List DX} : den T C E (.dct (k :: ks) vs) τ G P = dDisp ((denL T C E (k :: ks)).zip (denL T C E vs)) τ G P := by simp only [den]
def LcK (xs : List DV) (live : DH → Prop) (tg : Tg) (tt : DTT) (te : DTE) (vs : List Nat) : DTE := fun τ G P => ∀ D, G D = none → ∃ Pv : Nat → List DV → DH → Prop, Pv 0 [] (updD G D (.lst [])) ∧ ∀ i acc G, i ≤ xs.length → Pv i acc G → G D = some (.lst acc) ∧ live G ∧
  match xs[i]? with
  | some x => ∃ τ2, asgD tg x (wipeD τ vs) = some τ2 ∧ tt τ2 G fun b G3 => if b = true then te τ2 G3 fun y G4 => G4 D = some (.lst acc) ∧ acc.length < sizeLine ∧ Pv (i + 1) (acc ++ [y]) (updD G4 D (.lst (acc ++ [y]))) else Pv (i + 1) acc G3
  | none => P (.ref D) G
theorem d_lc {vs : List Nat} {tg : Tg} {ik : IK} {it cs : List DX} {e : DX} : den T C E (.lc vs tg ik it cs e) τ G P = dIter ik (denL T C E it) (denA T C E it) τ G fun xs live G1 => LcK xs live tg (denC T C EX0 cs) (den T C EX0 e) vs τ G1 P := by simp only [den]; rfl
def DcK (xs : List DV) (live : DH → Prop) (tg : Tg) (tt : DTT) (tk tv : DTE) (vs : List Nat) : DTE := fun τ G P => ∀ D, G D = none → ∃ Pv : Nat → List (Key × DV) → DH → Prop, Pv 0 [] (updD G D (.dK [])) ∧ ∀ i acc G, i ≤ xs.length → Pv i acc G → G D = some (.dK acc) ∧ live G ∧
  match xs[i]? with
  | some x => ∃ τ2, asgD tg x (wipeD τ vs) = some τ2 ∧ tt τ2 G fun b G3 => if b = true then tk τ2 G3 fun y G4 => tv τ2 G4 fun z G5 => ∃ k, keyD y = some k ∧ G5 D = some (.dK acc) ∧ acc.length < sizeLine ∧ Pv (i + 1) (putD acc k z) (updD G5 D (.dK (putD acc k z))) else Pv (i + 1) acc G3
  | none => P (.ref D) G
theorem d_dc {vs : List Nat} {tg : Tg} {ik : IK} {it cs : List DX} {k e : DX} : den T C E (.dc vs tg ik it cs k e) τ G P = dIter ik (denL T C E it) (denA T C E it) τ G fun xs live G1 => DcK xs live tg (denC T C EX0 cs) (den T C EX0 k) (den T C EX0 e) vs τ G1 P := by simp only [den]; rfl
theorem d_mkx {s c f : String} {i : Nat} {kw : Bool} {a : DX} : den T C E (.mkx s c f i kw a) τ G P = den T C E a τ G fun x G1 => P (.xo c f x) G1 := by
  simp only [den, dMkV, dCons, dNil, List.cons.injEq, and_true]
  congr; funext x G1
  exact propext ⟨fun ⟨_, e, h⟩ => by subst e; exact h, fun h => ⟨_, rfl, h⟩⟩
theorem d_mkb {s c : String} : den T C E (.mkb s c) τ G P = P (.xb c) G := by simp only [den, dMkB]
theorem d_xfld {f : String} {a : DX} : den T C E (.xfld f a) τ G P = den T C E a τ G fun x G1 => ∃ c v, x = .xo c f v ∧ (c, f) ∈ T.xfs ∧ P v G1 := by simp only [den, dXfld]
theorem d_xisi {b : Bool} {ns : List (String × TN)} {a : DX} : den T C E (.xisi b ns a) τ G P = den T C E a τ G fun x G1 => ∃ c, xcls x = some c ∧ c ∈ T.xcl ∧ P (.bl ((ns.map (·.2)).any (xisa T.xsub c))) G1 := by simp only [den, dXisi]
theorem d_lrng {a : DX} : den T C E (.lrng a) τ G P = den T C E a τ G fun x G1 => ∃ n : Nat, x = .int n ∧ n ≤ 2 ^ 20 ∧ NewO (.lst ((List.range n).map fun i => .int (i : Nat))) G1 P := by simp only [den, dLrng, NewO]
/-! iterables -/
theorem i_seq {e : DX} {K : List DV → (DH → Prop) → DH → Prop} : dIter .seq (denL T C E [e]) (denA T C E [e]) τ G K = den T C E e τ G fun x G1 => ∃ xs, itOf G1 x = some xs ∧ K xs (fun G' => itOf G' x = some xs) G1 := by simp only [dIter, denL, dSeqI]
theorem i_rng1 {it : List DX} {K : List DV → (DH → Prop) → DH → Prop} : dIter .rng1 (denL T C E it) (denA T C E it) τ G K = denA T C E it τ G fun ds G1 => ∃ j : Int, ds = [.int j] ∧ -(2 ^ 62) ≤ j ∧ j < 2 ^ 62 ∧ K (rngD 0 j.toNat) (fun _ => True) G1 := by simp only [dIter, dRng1]
theorem i_zip {it : List DX} {K : List DV → (DH → Prop) → DH → Prop} : dIter .zip (denL T C E it) (denA T C E it) τ G K = dZip (denA T C E it) τ G K := by simp only [dIter]
theorem i_enum {e : DX} {K : List DV → (DH → Prop) → DH → Prop} : dIter .enum (denL T C E [e]) (denA T C E [e]) τ G K = den T C E e τ G fun x G1 => ∃ xs, seqD G1 x = some xs ∧ K (enumD xs) (fun G' => seqD G' x = some xs) G1 := by
  simp only [dIter, dEnum, denA, dCons, dNil]
  congr; funext x G1
  exact propext ⟨fun ⟨y, xs, e, h⟩ => by cases e; exact ⟨xs, h⟩, fun ⟨xs, h⟩ => ⟨x, xs, rfl, h⟩⟩
/-! tests -/
variable {K : Bool → DH → Prop}
theorem t_not {a : DX} : denT T C E (.not a) τ G K = denT T C E a τ G fun c G1 => K (!c) G1 := by simp only [denT, dNotT]
theorem t_and1 {a : DX} : denT T C E (.and [a]) τ G K = denT T C E a τ G K := by simp only [denT, denAndT]
theorem t_and {a b : DX} {l : List DX} : denT T C E (.and (a :: b :: l)) τ G K = denT T C E a τ G fun c G1 => if c = true then denT T C E (.and (b :: l)) τ G1 K else K false G1 := by
  cases l <;> simp only [denT, denAndT, dAndT]
theorem t_or1 {a : DX} : denT T C E (.or [a]) τ G K = denT T C E a τ G K := by simp only [denT, denOrT]
theorem t_or {a b : DX} {l : List DX} : denT T C E (.or (a :: b :: l)) τ G K = denT T C E a τ G fun c G1 => if c = true then K true G1 else denT T C E (.or (b :: l)) τ G1 K := by
  cases l <;> simp only [denT, denOrT, dOrT]
theorem t_cmp {o : CO} {a b : DX} : denT T C E (.cmp o a b) τ G K = den T C E (.cmp o a b) τ G fun x G1 => ∃ c, x = .bl c ∧ K c G1 := by simp only [denT, den, dTest]
theorem t_chain {o o' : CO} {a b c : DX} : denT T C E (.chain o o' a b c) τ G K = den T C E (.chain o o' a b c) τ G fun x G1 => ∃ c, x = .bl c ∧ K c G1 := by simp only [denT, den, dTest]
theorem t_v {i : Nat} : denT T C E (.v i) τ G K = den T C E (.v i) τ G fun x G1 => ∃ c, x = .bl c ∧ K c G1 := by simp only [denT, den, dTest]
theorem t_call {s : String} {f n : Nat} {l : List DX} : denT T C E (.call s f n l) τ G K = den T C E (.call s f n l) τ G fun x G1 => ∃ c, x = .bl c ∧ K c G1 := by simp only [denT, den, dTest]
theorem t_callV {i : Nat} {l : List DX} : denT T C E (.callV i l) τ G K = den T C E (.callV i l) τ G fun x G1 => ∃ c, x = .bl c ∧ K c G1 := by simp only [denT, den, dTest]
theorem t_own {c m : String} {f n : Nat} {o : DX} {l : List DX} : denT T C E (.own c m f n o l) τ G K = den T C E (.own c m f n o l) τ G fun x G1 => ∃ c, x = .bl c ∧ K c G1 := by simp only [denT, den, dTest]
theorem t_bf {b : BF} {l : List DX} : denT T C E (.bf b l) τ G K = den T C E (.bf b l) τ G fun x G1 => ∃ c, x = .bl c ∧ K c G1 := by simp only [denT, den, dTest]
theorem t_isi {s : String} {c : TN} {a : DX} : denT T C E (.isi s c a) τ G K = den T C E (.isi s c a) τ G fun x G1 => ∃ c, x = .bl c ∧ K c G1 := by simp only [denT, den, dTest]
theorem t_xisi {b : Bool} {ns : List (String × TN)} {a : DX} : denT T C E (.xisi b ns a) τ G K = den T C E (.xisi b ns a) τ G fun x G1 => ∃ c, x = .bl c ∧ K c G1 := by simp only [denT, den, dTest]
theorem t_ite {c a b : DX} : denT T C E (.ite c a b) τ G K = denT T C E c τ G fun k G1 => if k = true then denT T C E a τ G1 K else denT T C E b τ G1 K := by simp only [denT, dIteT]
theorem c_nil : denC T C E [] τ G K = K true G := by simp only [denC, dYes]
theorem c_one {a : DX} : denC T C E [a] τ G K = denT T C E a τ G K := by simp only [denC]
/-! operators by kinds -/
theorem o_addI {i j : Int} : dAdd (.int i) (.int j) G P = P (.int (i + j)) G := rfl
theorem o_addT : dAdd (.tup xs) (.tup ys) G P = (xs.length + ys.length ≤ sizeLine ∧ P (.tup (xs ++ ys)) G) := rfl
theorem o_addS {a b : Str} : dAdd (.str a) (.str b) G P = (a.length + b.length ≤ sizeLine ∧ P (.str (a ++ b)) G) := rfl
theorem o_subI {i j : Int} : dSub (.int i) (.int j) G P = P (.int (i - j)) G := propext ⟨fun ⟨_, _, e1, e2, _, h⟩ => by cases e1; cases e2; exact h, fun h => ⟨_, _, rfl, rfl, trivial, h⟩⟩
theorem o_mulI {i j : Int} : dMul (.int i) (.int j) G P = (CMul i j ∧ P (.int (i * j)) G) := rfl
theorem o_mulT {k : Int} : dMul (.tup xs) (.int k) G P = (-(2 ^ 62) ≤ k ∧ k ≤ 1000 ∧ xs.length ≤ 1000 ∧ P (.tup (List.replicate k.toNat xs).flatten) G) := rfl
theorem o_mulS {s : Str} {k : Int} : dMul (.str s) (.int k) G P = (-(2 ^ 62) ≤ k ∧ k ≤ 1000 ∧ s.length ≤ 1000 ∧ P (.str (strRep s k)) G) := rfl
theorem o_fdivI {i j : Int} : dFdiv (.int i) (.int j) G P = (CDivN i j ∧ P (.int (i.fdiv j)) G) := propext ⟨fun ⟨_, _, e1, e2, c, h⟩ => by cases e1; cases e2; exact ⟨c, h⟩, fun ⟨c, h⟩ => ⟨_, _, rfl, rfl, c, h⟩⟩
theorem o_modI {i j : Int} : dMod (.int i) (.int j) G P = (0 < j ∧ P (.int (i % j)) G) := propext ⟨fun ⟨_, _, e1, e2, c, h⟩ => by cases e1; cases e2; exact ⟨c, h⟩, fun ⟨c, h⟩ => ⟨_, _, rfl, rfl, c, h⟩⟩
theorem o_powI {i j : Int} : dPow (.int i) (.int j) G P = (CPow i j ∧ P (.int (i ^ j.toNat)) G) := propext ⟨fun ⟨_, _, e1, e2, c, h⟩ => by cases e1; cases e2; exact ⟨c, h⟩, fun ⟨c, h⟩ => ⟨_, _, rfl, rfl, c, h⟩⟩
theorem o_ltI {i j : Int} : dLt (.int i) (.int j) G P = P (.bl (decide (i < j))) G := rfl
theorem o_ltS {i j : Str} : dLt (.str i) (.str j) G P = P (.bl (sLt i j)) G := rfl
theorem o_leI {i j : Int} : dLe (.int i) (.int j) G P = P (.bl (decide (i ≤ j))) G := rfl
theorem o_gtI {i j : Int} : dGt (.int i) (.int j) G P = P (.bl (decide (j < i))) G := rfl
theorem o_geI {i j : Int} : dGe (.int i) (.int j) G P = P (.bl (decide (j ≤ i))) G := rfl
theorem o_isN {n : Bool} : dIs n x .non G P = P (.bl (xor n (isNonD x))) G := rfl
theorem o_isB {n a b : Bool} : dIs n (.bl a) (.bl b) G P = P (.bl (xor n (decide (a = b)))) G := propext ⟨fun ⟨_, e, h⟩ => by cases e; exact h, fun h => ⟨_, rfl, h⟩⟩
theorem o_neg {i : Int} : dNeg (.int i) G P = P (.int (-i)) G := propext ⟨fun ⟨_, e, h⟩ => by cases e; exact h, fun h => ⟨_, rfl, h⟩⟩
theorem o_ixT {i : Int} : dIx (.tup xs) (.int i) G P = ∃ v, atI xs i = some v ∧ P v G := propext ⟨fun ⟨_, _, e, h⟩ => by cases e; exact ⟨_, h⟩, fun ⟨v, h⟩ => ⟨_, v, rfl, h⟩⟩
theorem o_lenT : dLen [.tup xs] G P = P (.int xs.length) G := rfl
theorem o_lenS {s : Str} : dLen [.str s] G P = (s.length ≤ sizeLine ∧ P (.int s.length) G) := rfl
theorem o_intI {i : Int} : dInt [.int i] G P = P (.int i) G := rfl
theorem o_intB {b : Bool} : dInt [.bl b] G P = P (.int (if b then 1 else 0)) G := rfl
theorem o_max {i j : Int} : dMax2 [.int i, .int j] G P = P (.int (if j > i then j else i)) G := rfl
theorem o_strI {i : Int} : dStrI [.int i] G P = (i.natAbs.log2 < 1920 ∧ P (.str (toString i)) G) := rfl
theorem o_slT {lo hi : Option Int} : dSlR (.tup xs) lo hi G P = P (.tup (cutD xs lo hi)) G := rfl
theorem o_slS {s : Str} {lo hi : Option Int} : dSlR (.str s) lo hi G P = (s.length ≤ sizeLine ∧ P (.str (cutS s lo hi)) G) := rfl
theorem o_inS {n : Bool} {a b : Str} : dIn n (.str a) (.str b) G P = P (.bl (xor n (inStr a b))) G := propext ⟨fun ⟨_, e, h⟩ => by cases e; exact h, fun h => ⟨_, rfl, h⟩⟩
theorem o_inT {n : Bool} : dIn n x (.tup xs) G P = ((toF x).isSome = true ∧ flats xs = true ∧ P (.bl (xor n (inFlat x xs))) G) := rfl
theorem o_ixD {a : Addr} {kvs : List (Key × DV)} (h : G a = some (.dK kvs)) : dIx (.ref a) y G P = ∃ k v, keyD y = some k ∧ valD kvs k = some v ∧ P v G := by unfold dIx; dsimp only; rw [h]
theorem o_ixL {a : Addr} {i : Int} (h : G a = some (.lst xs)) : dIx (.ref a) (.int i) G P = ∃ v, atI xs i = some v ∧ P v G := by
  unfold dIx; dsimp only; rw [h]
  exact propext ⟨fun ⟨_, _, e, h⟩ => by cases e; exact ⟨_, h⟩, fun ⟨v, h⟩ => ⟨_, v, rfl, h⟩⟩
theorem o_inD {n : Bool} {a : Addr} {kvs : List (Key × DV)} (h : G a = some (.dK kvs)) : dIn n x (.ref a) G P = ∃ k, keyD x = some k ∧ P (.bl (xor n (valD kvs k).isSome)) G := by unfold dIn; dsimp only; rw [h]
theorem o_inL {n : Bool} {a : Addr} (h : G a = some (.lst xs)) : dIn n x (.ref a) G P = ((toF x).isSome = true ∧ flats xs = true ∧ P (.bl (xor n (inFlat x xs))) G) := by unfold dIn; dsimp only; rw [h]
theorem o_lenL {a : Addr} (h : G a = some (.lst xs)) : dLen [.ref a] G P = P (.int xs.length) G := by unfold dLen; dsimp only; rw [h]
theorem o_slL {a : Addr} {lo hi : Option Int} (h : G a = some (.lst xs)) : dSlR (.ref a) lo hi G P = NewO (.lst (cutD xs lo hi)) G P := by unfold dSlR; dsimp only; rw [h]; rfl
theorem o_addL {a b : Addr} (h : G a = some (.lst xs)) (h2 : G b = some (.lst ys)) (hl : xs.length + ys.length ≤ sizeLine) (k : NewO (.lst (xs ++ ys)) G P) : dAdd (.ref a) (.ref b) G P := by
  unfold dAdd; dsimp only; rw [h, h2]; first | exact ⟨hl, k⟩ | exact ⟨_, _, rfl, rfl, hl, k⟩
theorem o_list {ys : List DV} (h : seqD G x = some ys) : dListOf [x] G P = NewO (.lst ys) G P := by
  unfold dListOf NewO
  exact propext ⟨fun ⟨a, b, e, h2, k⟩ => by cases e; rw [h] at h2; cases h2; exact k, fun k => ⟨_, _, rfl, h, k⟩⟩
theorem o_tupO {ys : List DV} (h : seqD G x = some ys) : dTupOf [x] G P = P (.tup ys) G := by
  unfold dTupOf
  exact propext ⟨fun ⟨a, b, e, h2, k⟩ => by cases e; rw [h] at h2; cases h2; exact k, fun k => ⟨_, _, rfl, h, k⟩⟩
theorem o_app {a : Addr} {ys : List DV} (h : G a = some (.lst ys)) (hl : ys.length < sizeLine) (k : P .non (updD G a (.lst (ys ++ [y])))) : dAppend (.ref a) [y] G P := ⟨a, ys, y, rfl, rfl, h, hl, k⟩
theorem o_eqF {f g : V} (h1 : toF x = some f) (h2 : toF y = some g) (h3 : scal f g = true) (k : P (.bl (decide (f = g))) G) : dEq x y G P := .inl ⟨f, g, h1, h2, h3, k⟩
theorem o_neF {f g : V} (h1 : toF x = some f) (h2 : toF y = some g) (h3 : scal f g = true) (k : P (.bl (!decide (f = g))) G) : dNe x y G P := .inl ⟨f, g, h1, h2, h3, k⟩
theorem o_eqI {i j : Int} (k : P (.bl (decide (i = j))) G) : dEq (.int i) (.int j) G P := o_eqF rfl rfl rfl (by rw [show decide (V.int i = V.int j) = decide (i = j) from by rw [Bool.eq_iff_iff]; simp]; exact k)
theorem o_neI {i j : Int} (k : P (.bl (!decide (i = j))) G) : dNe (.int i) (.int j) G P := o_neF rfl rfl rfl (by rw [show decide (V.int i = V.int j) = decide (i = j) from by rw [Bool.eq_iff_iff]; simp]; exact k)
theorem o_eqS {i j : Str} (k : P (.bl (decide (i = j))) G) : dEq (.str i) (.str j) G P := o_eqF rfl rfl rfl (by rw [show decide (V.str i = V.str j) = decide (i = j) from by rw [Bool.eq_iff_iff]; simp]; exact k)
theorem o_eqE {xs : List DV} {ps : List PyData} (h : omap (toPD G 59) xs = some ps) (hc : PyData.canLayAll0 ps = true) (k : P (.bl xs.isEmpty) G) : dEq (.tup xs) (.tup []) G P := by
  refine .inr ⟨.tuple ps, .tuple [], by unfold toPD; rw [h]; rfl, by unfold toPD omap; rfl, by simpa [PyData.canLay0] using hc, by simp [PyData.canLay0, PyData.canLayAll0], ?_⟩
  have : PyData.eqv (.tuple ps) (.tuple []) = xs.isEmpty := by
    cases xs with
    | nil => cases h; simp [PyData.eqv, PyData.eqvAll]
    | cons x xs =>
      unfold omap at h
      split at h
      · cases h; simp [PyData.eqv, PyData.eqvAll]
      · cases h
  rw [this]; exact k
end
end DL
end
section
set_option Elab.async false
set_option linter.all false
set_option maxRecDepth 100000
set_option autoImplicit false
namespace DL
open PySem PySem.Spec PyProof.Rows L2
section
variable {D : Dk} {xs : List DV} {live : DH → Prop} {tg : Tg} {tb : DTS} {E : DEnds} {τ : DSt} {G : DH} {tt : DTT} {te tk tv : DTE} {vs : List Nat} {P : DK}
theorem ForK.run (J : Nat → DSt → DH → Prop) (h0 : J 0 τ G) (hl : ∀ i τ' G', J i τ' G' → live G')
    (hs : ∀ i τ' G' x, xs[i]? = some x → J i τ' G' → ∃ τ2, asgD tg x τ' = some τ2 ∧ tb { E with nx := J (i + 1), ct := J (i + 1), bk := E.nx } τ2 G')
    (he : ∀ τ' G', J xs.length τ' G' → E.nx τ' G') : ForK xs live tg tb E τ G :=
  ⟨J, h0, fun i τ' G' hle j => ⟨hl i τ' G' j, by
    cases q : xs[i]? with
    | some x => exact hs i τ' G' x q j
    | none =>
      have : xs.length ≤ i := List.getElem?_eq_none_iff.mp q
      have e : i = xs.length := by omega
      subst e
      exact he τ' G' j⟩⟩
theorem LcK.run (A : Nat → List DV → Prop) (ok : okD D G) (hl : xs.length < sizeLine) (lv : ∀ G', Ext D G G' → live G') (h0 : A 0 [])
    (hs : ∀ i acc G1 x, Ext D G G1 → okD D G1 → xs[i]? = some x → A i acc → ∃ τ2, asgD tg x (wipeD τ vs) = some τ2 ∧ ∀ (K1 : DV → DH → Prop) (K2 : DH → Prop), (∀ y G4, Ext D G1 G4 → okD D G4 → A (i + 1) (acc ++ [y]) → K1 y G4) → (∀ G4, Ext D G1 G4 → okD D G4 → A (i + 1) acc → K2 G4) → tt τ2 G1 fun b G3 => if b = true then te τ2 G3 K1 else K2 G3)
    (hP : ∀ p G2 acc, Ext D G G2 → okD D G2 → Kn D G2 p (.lst acc) → acc.length ≤ xs.length → G p = none → A xs.length acc → P (.ref p) G2) : LcK xs live tg tt te vs τ G P := fun p hp => by
  have nD := ok.notIn hp
  refine ⟨fun i acc G' => Ext D G G' ∧ okD D G' ∧ A i acc ∧ acc.length ≤ i ∧ G' p = some (.lst acc), ⟨Ext.new ok hp, ok.upd nD, h0, Nat.le_refl 0, updD_same⟩, fun i acc G' hle ⟨e, ok', ha, hlen, hg⟩ => ⟨hg, lv G' e, ?_⟩⟩
  cases q : xs[i]? with
  | none =>
    have : xs.length ≤ i := List.getElem?_eq_none_iff.mp q
    have ei : i = xs.length := by omega
    subst ei
    exact hP p G' acc e ok' ⟨nD, hg⟩ hlen hp ha
  | some x =>
    have hlt : i < xs.length := (List.getElem?_eq_some_iff.mp q).1
    obtain ⟨τ2, h1, h2⟩ := hs i acc G' x e ok' q ha
    refine ⟨τ2, h1, h2 _ _ (fun y G4 e4 ok4 a4 => ⟨e4.k _ _ nD hg, by omega, (e.trans e4).wr ok hp, ok4.upd nD, a4, by rw [List.length_append, List.length_singleton]; omega, updD_same⟩) fun G4 e4 ok4 a4 => ⟨e.trans e4, ok4, a4, by omega, e4.k _ _ nD hg⟩⟩
/-- what comes out is known -/
theorem LcK.map (f : DV → DV) (kp : DV → Bool) (ok : okD D G) (hl : xs.length < sizeLine) (lv : ∀ G', Ext D G G' → live G')
    (hs : ∀ x ∈ xs, ∃ τ2, asgD tg x (wipeD τ vs) = some τ2 ∧ ∀ G1, Ext D G G1 → okD D G1 → ∀ (K1 : DV → DH → Prop) (K2 : DH → Prop), (∀ G4, Ext D G1 G4 → okD D G4 → kp x = true → K1 (f x) G4) → (∀ G4, Ext D G1 G4 → okD D G4 → kp x = false → K2 G4) → tt τ2 G1 fun b G3 => if b = true then te τ2 G3 K1 else K2 G3)
    (hP : ∀ p G2, Ext D G G2 → okD D G2 → Kn D G2 p (.lst ((xs.filter kp).map f)) → G p = none → P (.ref p) G2) : LcK xs live tg tt te vs τ G P := by
  refine LcK.run (D := D) (fun i acc => acc = ((xs.take i).filter kp).map f) ok hl lv (by simp) (fun i acc G1 x e1 ok1 hx ha => ?_) fun p G2 acc e2 ok2 kn _ hp ha => hP p G2 e2 ok2 (by rw [ha, List.take_length] at kn; exact kn) hp
  obtain ⟨τ2, h1, h2⟩ := hs x (List.mem_of_getElem? hx)
  have htk : xs.take (i + 1) = xs.take i ++ [x] := by rw [List.take_succ, hx]; rfl
  refine ⟨τ2, h1, fun K1 K2 k1 k2 => h2 G1 e1 ok1 K1 K2 (fun G4 e4 ok4 hk => k1 _ G4 e4 ok4 ?_) fun G4 e4 ok4 hk => k2 G4 e4 ok4 ?_⟩
  · rw [htk, List.filter_append, List.map_append, ← ha]; simp [List.filter, hk]
  · rw [htk, List.filter_append, List.map_append, ← ha]; simp [List.filter, hk]
/-- all(..) of truths -/
theorem LcK.all (g : DV → Bool) (ok : okD D G) (hl : xs.length < sizeLine) (lv : ∀ G', Ext D G G' → live G')
    (hs : ∀ x ∈ xs, ∃ τ2, asgD tg x (wipeD τ vs) = some τ2 ∧ ∀ G1, Ext D G G1 → okD D G1 → ∀ (K1 : DV → DH → Prop) (K2 : DH → Prop), (∀ G4, Ext D G1 G4 → okD D G4 → K1 (.bl (g x)) G4) → tt τ2 G1 fun b G3 => if b = true then te τ2 G3 K1 else K2 G3)
    (hP : ∀ G2, Ext D G G2 → okD D G2 → P (.bl (xs.all g)) G2) : LcK xs live tg tt te vs τ G fun x G1 => dAll [x] G1 P := by
  refine LcK.map (D := D) (fun x => .bl (g x)) (fun _ => true) ok hl lv (fun x hx => ?_) fun p G2 e2 ok2 kn hp => ⟨p, xs.map g, rfl, ?_, ?_⟩
  · obtain ⟨τ2, h1, h2⟩ := hs x hx
    exact ⟨τ2, h1, fun G1 e1 ok1 K1 K2 k1 k2 => h2 G1 e1 ok1 K1 K2 fun G4 e4 ok4 => k1 G4 e4 ok4 rfl⟩
  · rw [kn.2, List.filter_eq_self.mpr (fun _ _ => rfl), List.map_map]; rfl
  · have e : (xs.map g).all id = xs.all g := by rw [List.all_map]; rfl
    rw [e]; exact hP G2 e2 ok2
theorem DcK.run (A : Nat → List (Key × DV) → Prop) (ok : okD D G) (hl : xs.length < sizeLine) (lv : ∀ G', Ext D G G' → live G') (h0 : A 0 []) (hA : ∀ i acc, A i acc → acc.length ≤ i)
    (hs : ∀ i acc G1 x, Ext D G G1 → okD D G1 → xs[i]? = some x → A i acc → ∃ τ2, asgD tg x (wipeD τ vs) = some τ2 ∧ ∀ (K1 : DV → DV → DH → Prop) (K2 : DH → Prop), (∀ y k z G4, Ext D G1 G4 → okD D G4 → keyD y = some k → A (i + 1) (putD acc k z) → K1 y z G4) → (∀ G4, Ext D G1 G4 → okD D G4 → A (i + 1) acc → K2 G4) → tt τ2 G1 fun b G3 => if b = true then tk τ2 G3 fun y G4 => tv τ2 G4 fun z G5 => K1 y z G5 else K2 G3)
    (hP : ∀ p G2 acc, Ext D G G2 → okD D G2 → Kn D G2 p (.dK acc) → G p = none → A xs.length acc → P (.ref p) G2) : DcK xs live tg tt tk tv vs τ G P := fun p hp => by
  have nD := ok.notIn hp
  refine ⟨fun i acc G' => Ext D G G' ∧ okD D G' ∧ A i acc ∧ G' p = some (.dK acc), ⟨Ext.new ok hp, ok.upd nD, h0, updD_same⟩, fun i acc G' hle ⟨e, ok', ha, hg⟩ => ⟨hg, lv G' e, ?_⟩⟩
  cases q : xs[i]? with
  | none =>
    have : xs.length ≤ i := List.getElem?_eq_none_iff.mp q
    have ei : i = xs.length := by omega
    subst ei
    exact hP p G' acc e ok' ⟨nD, hg⟩ hp ha
  | some x =>
    have hlt : i < xs.length := (List.getElem?_eq_some_iff.mp q).1
    obtain ⟨τ2, h1, h2⟩ := hs i acc G' x e ok' q ha
    refine ⟨τ2, h1, h2 _ _ (fun y k z G4 e4 ok4 hk a4 => ⟨k, hk, e4.k _ _ nD hg, ?_, (e.trans e4).wr ok hp, ok4.upd nD, a4, updD_same⟩) fun G4 e4 ok4 a4 => ⟨e.trans e4, ok4, a4, e4.k _ _ nD hg⟩⟩
    have := hA i acc ha
    omega
theorem asg_n {i : Nat} {d : DV} : asgD (.n i) d τ = some (τ.set i (some d)) := by simp only [asgD]
theorem asg_t {ts : List Tg} : asgD (.t ts) (.tup xs) τ = asgDs ts xs τ := by simp only [asgD]
theorem asgs_nil : asgDs [] [] τ = some τ := by simp only [asgDs]
theorem asgs_cons {i : Nat} {ts : List Tg} {d : DV} : asgDs (.n i :: ts) (d :: xs) τ = asgDs ts xs (τ.set i (some d)) := by simp only [asgDs, asgD]
theorem n_non : isNonD .non = true := rfl
theorem n_tup : isNonD (.tup xs) = false := rfl
theorem n_xt : isNonD (.xt xs) = false := rfl
theorem n_int {i : Int} : isNonD (.int i) = false := rfl
theorem n_str {i : Str} : isNonD (.str i) = false := rfl
theorem n_bl {i : Bool} : isNonD (.bl i) = false := rfl
theorem n_ref {i : Addr} : isNonD (.ref i) = false := rfl
theorem fg_x : fgD (.xt xs) = .tup xs := rfl
theorem fg_t : fgD (.tup xs) = .tup xs := rfl
theorem it_kn {a : Addr} (h : Kn D G a (.lst xs)) : ∀ G', Ext D G G' → itOf G' (.ref a) = some xs := fun G' e => by
  show (match G' a with | some (.lst xs) => some xs | _ => none) = some xs
  rw [(h.mono e).2]
theorem seq_kn {a : Addr} (h : Kn D G a (.lst xs)) : seqD G (.ref a) = some xs := by
  show (match G a with | some (.lst xs) => some xs | _ => none) = some xs
  rw [h.2]
theorem it_str {G : DH} {s : Str} : itOf G (.str s) = some (chrs s) := rfl
theorem it_tup {G : DH} : itOf G (.tup xs) = some xs := rfl
theorem seq_tup {G : DH} : seqD G (.tup xs) = some xs := rfl
theorem z_tup {it : DTA} {τ : DSt} {xs ys : List DV} {G : DH} {K : List DV → (DH → Prop) → DH → Prop} (h : it τ G fun ds G1 => ds = [.tup xs, .tup ys] ∧ K (zipD xs ys) (fun _ => True) G1) (hm : ∀ (A B : List DV → DH → Prop), (∀ ds G, A ds G → B ds G) → it τ G A → it τ G B) : dZip it τ G K := hm _ _ (fun ds G ⟨e, k⟩ => ⟨_, _, e, .inl ⟨xs, ys, rfl, rfl, k⟩⟩) h
theorem y_tup {G : DH} : tyN G (.tup xs) = some (.b "tuple") := rfl
theorem y_int {G : DH} {i : Int} : tyN G (.int i) = some (.b "int") := rfl
theorem y_str {G : DH} {i : Str} : tyN G (.str i) = some (.b "str") := rfl
theorem y_bl {G : DH} {i : Bool} : tyN G (.bl i) = some (.b "bool") := rfl
theorem y_non {G : DH} : tyN G .non = some (.b "NoneType") := rfl
theorem y_lk {G : DH} : tyN G (.lk xs) = some (.b "list") := rfl
theorem y_xt {G : DH} : tyN G (.xt xs) = some (.b "tuple") := rfl
theorem y_ref {G : DH} {a : Addr} (h : G a = some (.lst xs)) : tyN G (.ref a) = some (.b "list") := by unfold tyN; dsimp only; rw [h]
theorem y_dK {G : DH} {a : Addr} {kvs : List (Key × DV)} (h : G a = some (.dK kvs)) : tyN G (.ref a) = some (.b "dict") := by unfold tyN; dsimp only; rw [h]
theorem y_ins {G : DH} {a : Addr} {c : String} {fs : List (String × DV)} (h : G a = some (.ins c fs)) : tyN G (.ref a) = some (.o c) := by unfold tyN; dsimp only; rw [h]
theorem at0 {α : Type} {x : α} {l : List α} : atI (x :: l) 0 = some x := by simp [atI, ixN]
theorem at1 {α : Type} {x y : α} {l : List α} : atI (x :: y :: l) 1 = some y := by unfold atI ixN; rw [if_pos (by decide), if_pos (by simp only [List.length_cons]; omega)]; rfl
theorem at2 {α : Type} {x y z : α} {l : List α} : atI (x :: y :: z :: l) 2 = some z := by unfold atI ixN; rw [if_pos (by decide), if_pos (by simp only [List.length_cons]; omega)]; rfl
theorem at3 {α : Type} {x y z w : α} {l : List α} : atI (x :: y :: z :: w :: l) 3 = some w := by unfold atI ixN; rw [if_pos (by decide), if_pos (by simp only [List.length_cons]; omega)]; rfl
theorem atN {α : Type} {xs : List α} {i : Int} (h0 : 0 ≤ i) (h1 : i < xs.length) : ∃ x, atI xs i = some x ∧ x ∈ xs ∧ xs[i.toNat]? = some x := by
  have hi : i.toNat < xs.length := by omega
  exact ⟨xs[i.toNat], by unfold atI ixN; rw [if_pos h0, if_pos h1]; exact List.getElem?_eq_getElem hi, List.getElem_mem hi, List.getElem?_eq_getElem hi⟩
theorem cut_le (xs : List DV) (lo hi : Option Int) : (cutD xs lo hi).length ≤ xs.length := by unfold cutD; simp; omega
theorem cut_sub {xs : List DV} {lo hi : Option Int} : ∀ x ∈ cutD xs lo hi, x ∈ xs := fun x h => List.mem_of_mem_drop (List.mem_of_mem_take h)
theorem cut_from (xs : List DV) (k : Nat) : cutD xs (some (k : Int)) none = xs.drop k := by
  unfold cutD
  rw [HT.sIx_nat, HT.sIx_none]
  rcases Nat.le_total k xs.length with h | h
  · rw [Nat.min_eq_left h, ← List.length_drop, List.take_length]
  · rw [Nat.min_eq_right h, List.drop_eq_nil_of_le h]; simp
theorem cut_1 (xs : List DV) : cutD xs (some 1) none = xs.tail := by
  rw [show (1 : Int) = ((1 : Nat) : Int) from rfl, cut_from]; simp
end
def dZ := And.intro @s_asg <| And.intro @s_par2 <| And.intro @s_expr <| And.intro @s_ret <| And.intro @s_ifs <| And.intro @s_set <| And.intro @s_fset <| And.intro @s_for <| And.intro @s_tset <| And.intro @d_v <| And.intro @d_int <| And.intro @d_bl <| And.intro @d_non <| And.intro @d_str <| And.intro @d_bin <| And.intro @d_neg <| And.intro @d_cmp <| And.intro @d_chain <| And.intro @d_not <| And.intro @d_and1 <| And.intro @d_and <| And.intro @d_or1 <| And.intro @d_or <| And.intro @d_ite <| And.intro @d_ix <| And.intro @d_slL <| And.intro @d_slH <| And.intro @d_rev <| And.intro @a_nil <| And.intro @a_cons <| And.intro @d_tup <| And.intro @d_xtup <| And.intro @d_lst <| And.intro @d_fg <| And.intro @d_call <| And.intro @d_callK <| And.intro @d_bf <| And.intro @d_bm <| And.intro @d_own <| And.intro @d_mk <| And.intro @d_mkx <| And.intro @d_mkb <| And.intro @d_xfld <| And.intro @d_xisi <| And.intro @d_lrng <| And.intro @t_xisi <| And.intro @d_isi <| And.intro @d_fld <| And.intro @d_callV <| And.intro @d_kget <| And.intro @d_lzip <| And.intro @d_dct0 <| And.intro @d_lc <| And.intro @d_dc <| And.intro @i_seq <| And.intro @i_rng1 <| And.intro @i_zip <| And.intro @i_enum <| And.intro @t_not <| And.intro @t_and1 <| And.intro @t_and <| And.intro @t_or1 <| And.intro @t_or <| And.intro @t_ite <| And.intro @t_cmp <| And.intro @t_chain <| And.intro @t_v <| And.intro @t_call <| And.intro @t_callV <| And.intro @t_own <| And.intro @t_bf <| And.intro @t_isi <| And.intro @c_nil <| And.intro @c_one <| And.intro @o_addI <| And.intro @o_addT <| And.intro @o_addS <| And.intro @o_subI <| And.intro @o_mulI <| And.intro @o_mulT <| And.intro @o_mulS <| And.intro @o_fdivI <| And.intro @o_modI <| And.intro @o_powI <| And.intro @o_ltI <| And.intro @o_ltS <| And.intro @o_leI <| And.intro @o_gtI <| And.intro @o_geI <| And.intro @o_isN <| And.intro @o_isB <| And.intro @o_neg <| And.intro @o_ixT <| And.intro @o_lenT <| And.intro @o_lenS <| And.intro @o_intI <| And.intro @o_intB <| And.intro @o_max <| And.intro @o_strI <| And.intro @o_slT <| And.intro @o_slS <| And.intro @o_inS <| And.intro @it_str <| And.intro @it_tup <| And.intro @seq_tup <| And.intro @y_tup <| And.intro @y_int <| And.intro @y_str <| And.intro @y_bl <| And.intro @y_non <| And.intro @y_lk <| And.intro @y_xt <| And.intro @n_non <| And.intro @n_tup <| And.intro @n_int <| And.intro @n_str <| And.intro @n_bl <| And.intro @n_ref <| And.intro @n_xt <| And.intro @fg_x <| And.intro @fg_t <| And.intro @asg_n <| And.intro @asg_t <| And.intro @asgs_nil <| And.intro @asgs_cons <| And.intro @at0 <| And.intro @at1 <| And.intro @at2 <| And.intro @at3 <| And.intro @List.getElem?_cons_zero.{0} <| And.intro @List.getElem?_cons_succ.{0} <| And.intro @Option.some.injEq.{0} <| And.intro @exists_eq_left'.{1} <| And.intro @exists_eq_left.{1} <| And.intro @exists_eq'.{1} <| And.intro @List.set_cons_zero.{0} <| And.intro @List.set_cons_succ.{0} <| And.intro @List.length_cons.{0} <| And.intro @List.length_nil.{0} <| And.intro @List.cons.injEq.{0} <| And.intro @DV.bl.injEq <| And.intro @DV.int.injEq <| And.intro @DV.str.injEq <| And.intro @DV.tup.injEq <| And.intro @Bool.not_true <| And.intro @Bool.not_false <| And.intro @Bool.false_xor <| And.intro @Bool.true_xor <| And.intro @Bool.xor_false <| And.intro @Bool.xor_true <| And.intro @Bool.false_eq_true <| And.intro @Nat.zero_add <| And.intro @true_and <| And.intro @and_true <| And.intro @Bool.true_and <| And.intro @Bool.and_true <| And.intro @Bool.false_and <| And.intro @Bool.and_false <| And.intro @Bool.or_true <| And.intro @Bool.true_or <| And.intro @Bool.false_or <| And.intro @Bool.or_false <| And.intro @decide_true <| And.intro @decide_false <| And.intro @Bool.not_not <| And.intro @if_true.{1} <| @if_false.{1}
end DL
end
section
set_option Elab.async false
set_option linter.all false
set_option maxRecDepth 100000
set_option autoImplicit false
namespace DL
open PySem PySem.Spec PyProof.Rows L2
/-! data without dicts -/
def PDk (G : DH) (n : Nat) (x : DV) : Prop := ∃ p, toPD G n x = some p ∧ p.canLay0 = true
section
variable {G : DH} {n m : Nat} {x : DV} {xs : List DV}
theorem omap_pd {f : DV → Option PyData} : ∀ {xs : List DV}, (∀ x ∈ xs, ∃ p, f x = some p ∧ p.canLay0 = true) → ∃ ps, omap f xs = some ps ∧ PyData.canLayAll0 ps = true
  | [], _ => ⟨[], rfl, by simp [PyData.canLayAll0]⟩
  | x :: xs, h => by
    obtain ⟨p, h1, h2⟩ := h x List.mem_cons_self
    obtain ⟨ps, h3, h4⟩ := omap_pd fun y hy => h y (List.mem_cons_of_mem _ hy)
    exact ⟨p :: ps, by unfold omap; rw [h1, h3], by simp [PyData.canLayAll0, h2, h4]⟩
theorem PDk.int {i : Int} : PDk G n (.int i) := ⟨.int i, by cases n <;> rfl, by simp [PyData.canLay0]⟩
theorem PDk.bl {i : Bool} : PDk G n (.bl i) := ⟨.bool i, by cases n <;> rfl, by simp [PyData.canLay0]⟩
end
theorem toPD_lst {G : DH} {b : Addr} {xs : List DV} {ps : List PyData} (hb : G b = some (.lst xs)) (h : omap (toPD G 59) xs = some ps) : toPD G 60 (.ref b) = some (.list ps) := by
  unfold toPD; rw [hb]; dsimp only; rw [h]; rfl
theorem toPD_nil {G : DH} {b : Addr} (hb : G b = some (.lst [])) : toPD G 60 (.ref b) = some (.list []) := toPD_lst hb rfl
theorem eqv_emptyL {ps : List PyData} : PyData.eqv (.list ps) (.list []) = ps.isEmpty := by cases ps <;> simp [PyData.eqv, PyData.eqvAll]
theorem omap_empty {α β : Type} {f : α → Option β} {xs : List α} {ys : List β} (h : omap f xs = some ys) : ys.isEmpty = xs.isEmpty := by
  cases xs with
  | nil => cases h; rfl
  | cons x xs =>
    unfold omap at h
    split at h
    · cases h; rfl
    · cases h
section
variable {G : DH} {P : DK} {a b : Addr} {xs : List DV}
theorem o_neLE (ha : G a = some (.lst xs)) (hb : G b = some (.lst [])) (h : ∀ x ∈ xs, PDk G 59 x) (k : P (.bl (!xs.isEmpty)) G) : dNe (.ref a) (.ref b) G P := by
  obtain ⟨ps, h1, h2⟩ := omap_pd h
  exact .inr ⟨_, _, toPD_lst ha h1, toPD_nil hb, by simpa [PyData.canLay0] using h2, by simp [PyData.canLay0, PyData.canLayAll0], by rw [eqv_emptyL, omap_empty h1]; exact k⟩
/-- lists of the same truths -/
theorem omap_bls (G : DH) (n : Nat) : ∀ bs : List Bool, omap (toPD G n) (bs.map .bl) = some (bs.map .bool)
  | [] => rfl
  | b :: bs => by
    rw [List.map_cons, List.map_cons]
    unfold omap
    rw [omap_bls G n bs]
    have : toPD G n (.bl b) = some (.bool b) := by cases n <;> rfl
    rw [this]
theorem eqv_bls : ∀ bs : List Bool, PyData.eqvAll (bs.map .bool) (bs.map .bool) = true
  | [] => by simp [PyData.eqvAll]
  | b :: bs => by
    rw [List.map_cons]
    unfold PyData.eqvAll
    rw [eqv_bls bs]
    cases b <;> rfl
theorem lay_bls : ∀ bs : List Bool, PyData.canLayAll0 (bs.map .bool) = true
  | [] => by simp [PyData.canLayAll0]
  | b :: bs => by simp [PyData.canLayAll0, PyData.canLay0, lay_bls bs]
theorem o_eqB {bs : List Bool} (ha : G a = some (.lst (bs.map .bl))) (hb : G b = some (.lst (bs.map .bl))) (k : P (.bl true) G) : dEq (.ref a) (.ref b) G P := by
  refine .inr ⟨_, _, toPD_lst ha (omap_bls G 59 bs), toPD_lst hb (omap_bls G 59 bs), by simpa [PyData.canLay0] using lay_bls bs, by simpa [PyData.canLay0] using lay_bls bs, ?_⟩
  rw [show PyData.eqv (.list (bs.map .bool)) (.list (bs.map .bool)) = true from by
    unfold PyData.eqv
    exact eqv_bls bs]
  exact k
end
theorem at_map {α : Type} {f : α → DV} {l : List α} {i : Nat} {x : DV} (h : (l.map f)[i]? = some x) : ∃ a, x = f a ∧ a ∈ l ∧ l[i]? = some a := by
  rw [List.getElem?_map] at h
  obtain ⟨a, h1, h2⟩ := Option.map_eq_some_iff.mp h
  exact ⟨a, h2.symm, List.mem_of_getElem? h1, h1⟩
theorem cmulL {i j : Int} (h0 : 0 ≤ i) (h1 : i ≤ 100000000) : CMul i j := .inl ⟨by omega, by omega⟩
theorem ext_deck {d l : Addr} {G G' : DH} (h : ∀ a o, a ≠ d → a ≠ l → G a = some o → G' a = some o) (ok : okD (some (d, l)) G') : Ext (some (d, l)) G G' :=
  ⟨fun a o n q => h a o (fun e => n (.inl e)) (fun e => n (.inr e)) q, fun _ => ok⟩
end DL
end
section
set_option Elab.async false
set_option linter.all false
set_option maxRecDepth 100000
set_option autoImplicit false
namespace DL
open PySem PySem.Spec PyProof.Rows L2
/-! ### the deck -/
theorem put_draws (l : Addr) (m k : Int) : putD [(kS "cells", .ref l), (kS "blend", .int m), (kS "draws", .int k)] (kS "draws") (.int (k + 1)) = [(kS "cells", .ref l), (kS "blend", .int m), (kS "draws", .int (k + 1))] := rfl
theorem val_draws (l : Addr) (m k : Int) : valD [(kS "cells", DV.ref l), (kS "blend", .int m), (kS "draws", .int k)] (kS "draws") = some (.int k) := rfl
theorem val_mixed (l : Addr) (m k : Int) : valD [(kS "cells", DV.ref l), (kS "blend", .int m), (kS "draws", .int k)] (kS "blend") = some (.int m) := rfl
theorem val_left (l : Addr) (m k : Int) : valD [(kS "cells", DV.ref l), (kS "blend", .int m), (kS "draws", .int k)] (kS "cells") = some (.ref l) := rfl
theorem ix_deck {d l : Addr} {m k : Int} {G : DH} {P : DK} {s : String} {v : DV} (h : G d = some (deckO l m k)) (hv : valD [(kS "cells", DV.ref l), (kS "blend", .int m), (kS "draws", .int k)] (kS s) = some v) (p : P v G) : dIx (.ref d) (.str (Str.ofString s)) G P := by
  rw [o_ixD h]
  exact ⟨_, _, rfl, hv, p⟩
abbrev S_draw : DSp := SP (α := (Addr × Addr) × Int) (fun D x G ds => D = some x.1 ∧ ds = [.ref x.1.1, .int x.2] ∧ 0 < x.2 ∧ x.2 < 1073741824) (fun D x G v => ∃ i, v = .int i ∧ 0 ≤ i ∧ i < x.2)
theorem sv_draw {C : Nat → DSp} : Serves tabs C f_law_draw S_draw := SP.serves fun D x ds G EX P ok ⟨eD, e, h1, h2⟩ k => by
  obtain ⟨⟨d, l⟩, many⟩ := x
  dsimp only at eD e h1 h2 k
  subst eD e
  obtain ⟨dl, zs, m, dr, hz, hd, hL⟩ := ok
  dsimp only at dl hd hL
  show denSs tabs C EX _ _ [some _, some _, none, none] G
  rw [f_law_draw]
  ((first | rw [e_cons] | (dsimp only; rw [e_cons])); try simp only [dZ, boR, coR, bfD, bmD, bmT, wipeD, sizeLine, Nat.reduceAdd, Nat.reducePow, Nat.reduceLeDiff, reduceIte, String.reduceBEq])
  refine ix_deck hd (val_draws l m dr) ?_
  (try simp only [dZ, boR, coR, bfD, bmD, bmT, wipeD, sizeLine, Nat.reduceAdd, Nat.reducePow, Nat.reduceLeDiff, reduceIte, String.reduceBEq])
  unfold dSet
  dsimp only
  rw [hd]
  refine ⟨_, rfl, by show 3 < sizeLine; decide, ?_⟩
  rw [put_draws]
  have hd1 : updD G d (deckO l m (dr + 1)) d = some (deckO l m (dr + 1)) := updD_same
  have hL1 : updD G d (deckO l m (dr + 1)) l = some (.lst (zs.map .int)) := by rw [updD_ne (Ne.symm dl)]; exact hL
  have e1 : Ext (some (d, l)) G (updD G d (deckO l m (dr + 1))) := ext_deck (fun a o n _ q => by rw [updD_ne n]; exact q) ⟨dl, zs, m, dr + 1, hz, hd1, hL1⟩
  have ok1 : okD (some (d, l)) (updD G d (deckO l m (dr + 1))) := ⟨dl, zs, m, dr + 1, hz, hd1, hL1⟩
  change denSs tabs C EX _ _ _ (updD G d (deckO l m (dr + 1)))
  revert hd1 hL1 e1 ok1
  generalize updD G d (deckO l m (dr + 1)) = G1
  intro hd1 hL1 e1 ok1
  generalize dr + 1 = dr1 at hd1
  ((first | rw [e_cons] | (dsimp only; rw [e_cons])); try simp only [dZ, boR, coR, bfD, bmD, bmT, wipeD, sizeLine, Nat.reduceAdd, Nat.reducePow, Nat.reduceLeDiff, reduceIte, String.reduceBEq])
  refine ix_deck hd1 (val_mixed l m dr1) ?_
  refine ix_deck hd1 (val_draws l m dr1) ?_
  (try simp only [dZ, boR, coR, bfD, bmD, bmT, wipeD, sizeLine, Nat.reduceAdd, Nat.reducePow, Nat.reduceLeDiff, reduceIte, String.reduceBEq])
  refine ⟨cmulL (by omega) (by omega), ?_⟩
  -- the rest, from a figure on
  have rest : ∀ (fg : Int) (c : Option DV) (G2 : DH), Ext (some (d, l)) G G2 → okD (some (d, l)) G2 → denSs tabs C EX [
    .asg (.n 2) (.bin .mod (.bf .int [.bin .add (.bin .mul (.v 2) (.int 40692)) (.int 31)]) (.int 2147483647)),
    .asg (.n 2) (.bin .mod (.bf .int [.bin .add (.bin .add (.bin .mul (.v 2) (.v 2)) (.bin .mul (.int 52711) (.ix (.v 0) (.str "draws")))) (.int 31)]) (.int 2147483587)),
    .ret (.bin .mod (.bin .fdiv (.bin .mod (.bf .int [.bin .mul (.v 2) (.int 39373)]) (.int 2147483563)) (.int 64)) (.v 1))] { nx := fun _ G' => P .non G', rt := P } [some (.ref d), some (.int many), some (.int fg), c] G2 := fun fg c G2 e2 ok2 => by
    have ok2' := ok2
    obtain ⟨_, zs2, m2, dr2, hz2, hd2, hL2⟩ := ok2'
    ((first | rw [e_cons] | (dsimp only; rw [e_cons])); try simp only [dZ, boR, coR, bfD, bmD, bmT, wipeD, sizeLine, Nat.reduceAdd, Nat.reducePow, Nat.reduceLeDiff, reduceIte, String.reduceBEq])
    refine ⟨.inr ⟨by decide, by decide⟩, by decide, ?_⟩
    ((first | rw [e_cons] | (dsimp only; rw [e_cons])); try simp only [dZ, boR, coR, bfD, bmD, bmT, wipeD, sizeLine, Nat.reduceAdd, Nat.reducePow, Nat.reduceLeDiff, reduceIte, String.reduceBEq])
    have b1 : 0 ≤ (fg * 40692 + 31) % 2147483647 := Int.emod_nonneg _ (by decide)
    have b2 : (fg * 40692 + 31) % 2147483647 < 2147483647 := Int.emod_lt_of_pos _ (by decide)
    refine ⟨.inl ⟨by omega, by omega⟩, ?_⟩
    refine ix_deck hd2 (val_draws l m2 dr2) ?_
    (try simp only [dZ, boR, coR, bfD, bmD, bmT, wipeD, sizeLine, Nat.reduceAdd, Nat.reducePow, Nat.reduceLeDiff, reduceIte, String.reduceBEq])
    refine ⟨cmulL (by omega) (by omega), by decide, ?_⟩
    ((first | rw [e_cons] | (dsimp only; rw [e_cons])); try simp only [dZ, boR, coR, bfD, bmD, bmT, wipeD, sizeLine, Nat.reduceAdd, Nat.reducePow, Nat.reduceLeDiff, reduceIte, String.reduceBEq])
    refine ⟨.inr ⟨by decide, by decide⟩, by decide, ⟨by decide, by decide⟩, h1, ?_⟩
    exact k _ _ e2 ok2 ⟨_, rfl, Int.emod_nonneg _ (by omega), Int.emod_lt_of_pos _ h1⟩
  ((first | rw [e_cons] | (dsimp only; rw [e_cons])); try simp only [dZ, boR, coR, bfD, bmD, bmT, wipeD, sizeLine, Nat.reduceAdd, Nat.reducePow, Nat.reduceLeDiff, reduceIte, String.reduceBEq])
  refine ix_deck hd1 (val_left l m dr1) ?_
  refine NewO.run ok1 fun q G2 e2 ok2 kq fq => ?_
  -- the list of the deck after a new object is still there
  have ok2' := ok2
  obtain ⟨_, zs2, m2, dr2, hz2, hd2, hL2⟩ := ok2'
  dsimp only at hd2 hL2
  refine o_neLE hL2 kq.2 (fun z hz => ?_) ?_
  · obtain ⟨i, _, rfl⟩ := List.mem_map.mp hz
    exact PDk.int
  refine ⟨_, rfl, ?_⟩
  rcases List.eq_nil_or_concat zs2 with rfl | ⟨r, c, hrc⟩
  · rw [List.map_nil, List.isEmpty_nil]
    (try simp only [dZ, boR, coR, bfD, bmD, bmT, wipeD, sizeLine, Nat.reduceAdd, Nat.reducePow, Nat.reduceLeDiff, reduceIte, String.reduceBEq])
    rw [e_nil]
    exact rest _ _ G2 (e1.trans e2) ok2
  · rw [List.concat_eq_append] at hrc
    subst hrc
    rw [show ((r ++ [c]).map DV.int).isEmpty = false from by cases r <;> rfl]
    (try simp only [dZ, boR, coR, bfD, bmD, bmT, wipeD, sizeLine, Nat.reduceAdd, Nat.reducePow, Nat.reduceLeDiff, reduceIte, String.reduceBEq])
    ((first | rw [e_cons] | (dsimp only; rw [e_cons])); try simp only [dZ, boR, coR, bfD, bmD, bmT, wipeD, sizeLine, Nat.reduceAdd, Nat.reducePow, Nat.reduceLeDiff, reduceIte, String.reduceBEq])
    refine ix_deck hd2 (val_left l m2 dr2) ?_
    refine ⟨by unfold tyD; dsimp only; rw [hL2], ?_⟩
    refine ⟨l, _, .int c, rfl, rfl, hL2, by simp, ?_⟩
    rw [List.map_append, List.map_cons, List.map_nil, List.dropLast_concat]
    have hr : r.length + 1 ≤ 63 := by simpa using hz2
    have hd3 : updD G2 l (.lst (r.map .int)) d = some (deckO l m2 dr2) := by rw [updD_ne dl]; exact hd2
    have hL3 : updD G2 l (.lst (r.map .int)) l = some (.lst (r.map .int)) := updD_same
    have ok3 : okD (some (d, l)) (updD G2 l (.lst (r.map .int))) := ⟨dl, r, m2, dr2, by omega, hd3, hL3⟩
    have e3 : Ext (some (d, l)) G (updD G2 l (.lst (r.map .int))) := (e1.trans e2).trans (ext_deck (fun a o _ n q => by rw [updD_ne n]; exact q) ok3)
    revert hd3 hL3 e3 ok3
    generalize updD G2 l (.lst (r.map .int)) = G3
    intro hd3 hL3 ok3 e3
    (try simp only [dZ, boR, coR, bfD, bmD, bmT, wipeD, sizeLine, Nat.reduceAdd, Nat.reducePow, Nat.reduceLeDiff, reduceIte, String.reduceBEq])
    ((first | rw [e_cons] | (dsimp only; rw [e_cons])); try simp only [dZ, boR, coR, bfD, bmD, bmT, wipeD, sizeLine, Nat.reduceAdd, Nat.reducePow, Nat.reduceLeDiff, reduceIte, String.reduceBEq])
    refine ⟨⟨by decide, by decide, by decide⟩, ?_⟩
    cases hc : decide ((10 : Int) ^ (Int.toNat 18) ≤ c) with
    | true =>
      (try simp only [dZ, boR, coR, bfD, bmD, bmT, wipeD, sizeLine, Nat.reduceAdd, Nat.reducePow, Nat.reduceLeDiff, reduceIte, String.reduceBEq])
      ((first | rw [e_cons] | (dsimp only; rw [e_cons])); try simp only [dZ, boR, coR, bfD, bmD, bmT, wipeD, sizeLine, Nat.reduceAdd, Nat.reducePow, Nat.reduceLeDiff, reduceIte, String.reduceBEq])
      refine ix_deck hd3 (val_left l m2 dr2) ?_
      refine ⟨by unfold tyD; dsimp only; rw [hL3], ?_⟩
      refine ⟨⟨by omega, by omega⟩, ?_⟩
      refine o_app hL3 (by rw [List.length_map]; have : sizeLine = 16777216 := rfl; omega) ?_
      rw [show r.map DV.int ++ [DV.int (c.fdiv many)] = (r ++ [c.fdiv many]).map .int from by rw [List.map_append]; rfl]
      have ok4 : okD (some (d, l)) (updD G3 l (.lst ((r ++ [c.fdiv many]).map .int))) := ⟨dl, r ++ [c.fdiv many], m2, dr2, by rw [List.length_append, List.length_singleton]; exact hr, by rw [updD_ne dl]; exact hd3, updD_same⟩
      have e4 := e3.trans (ext_deck (fun a o _ n q => by rw [updD_ne n]; exact q) ok4)
      ((first | rw [e_cons] | (dsimp only; rw [e_cons])); try simp only [dZ, boR, coR, bfD, bmD, bmT, wipeD, sizeLine, Nat.reduceAdd, Nat.reducePow, Nat.reduceLeDiff, reduceIte, String.reduceBEq])
      refine ⟨h1, k _ _ e4 ok4 ⟨_, rfl, Int.emod_nonneg _ (by omega), Int.emod_lt_of_pos _ h1⟩⟩
    | false =>
      (try simp only [dZ, boR, coR, bfD, bmD, bmT, wipeD, sizeLine, Nat.reduceAdd, Nat.reducePow, Nat.reduceLeDiff, reduceIte, String.reduceBEq])
      (first | (rw [e_nil]; try dsimp only) | (dsimp only; rw [e_nil]; try dsimp only))
      ((first | rw [e_cons] | (dsimp only; rw [e_cons])); try simp only [dZ, boR, coR, bfD, bmD, bmT, wipeD, sizeLine, Nat.reduceAdd, Nat.reducePow, Nat.reduceLeDiff, reduceIte, String.reduceBEq])
      refine ⟨by decide, ?_⟩
      repeat (first | (rw [e_nil]; try dsimp only) | (dsimp only; rw [e_nil]; try dsimp only))
      exact rest _ _ G3 e3 ok3
theorem draw_use {C : Nat → DSp} (h5 : Has C 9 S_draw) {d l : Addr} {m : Int} {G : DH} {P : DK} {EX : DXK} (h1 : 0 < m) (h2 : m < 1073741824) (ok : okD (some (d, l)) G) (k : ∀ i G2, Ext (some (d, l)) G G2 → okD (some (d, l)) G2 → 0 ≤ i → i < m → P (.int i) G2) : C 9 [.ref d, .int m] G P EX :=
  SP.use h5 ((d, l), m) ok ⟨rfl, rfl, h1, h2⟩ fun v G2 e2 ok2 ⟨i, hv, i0, i1⟩ => by subst hv; exact k i G2 e2 ok2 i0 i1
abbrev S_pick : DSp := SP (α := (Addr × Addr) × DV × List DV) (fun D x G ds => D = some x.1 ∧ ds = [.ref x.1.1, x.2.1] ∧ (x.2.1 = .tup x.2.2 ∨ ∃ a, x.2.1 = .ref a ∧ Kn D G a (.lst x.2.2)) ∧ x.2.2 ≠ [] ∧ x.2.2.length ≤ 100000) (fun D x G v => v ∈ x.2.2)
theorem sv_pick {C : Nat → DSp} (h5 : Has C 9 S_draw) : Serves tabs C f_law_pick S_pick := SP.serves fun D x ds G EX P ok ⟨eD, e, h1, h2, h3⟩ k => by
  obtain ⟨⟨d, l⟩, s, xs⟩ := x
  dsimp only at eD e h1 h2 h3 k
  subst eD e
  have hx : 0 < xs.length := by cases xs with
    | nil => exact absurd rfl h2
    | cons _ _ => simp
  show denSs tabs C EX _ _ [some _, some _] G
  rw [f_law_pick]
  rcases h1 with rfl | ⟨a, rfl, kn⟩
  · ((first | rw [e_cons] | (dsimp only; rw [e_cons])); try simp only [dZ, boR, coR, bfD, bmD, bmT, wipeD, sizeLine, Nat.reduceAdd, Nat.reducePow, Nat.reduceLeDiff, reduceIte, String.reduceBEq])
    refine SP.use h5 ((d, l), (xs.length : Int)) ok ⟨rfl, rfl, by simp only []; omega, by simp only []; omega⟩ fun v G2 e2 ok2 ⟨i, hv, i0, i1⟩ => ?_
    subst hv
    rw [o_ixT]
    obtain ⟨y, h1, h2, _⟩ := atN i0 i1
    exact ⟨y, h1, k _ _ e2 ok2 h2⟩
  · ((first | rw [e_cons] | (dsimp only; rw [e_cons])); try simp only [dZ, boR, coR, bfD, bmD, bmT, wipeD, sizeLine, Nat.reduceAdd, Nat.reducePow, Nat.reduceLeDiff, reduceIte, String.reduceBEq])
    rw [o_lenL kn.2]
    refine SP.use h5 ((d, l), (xs.length : Int)) ok ⟨rfl, rfl, by simp only []; omega, by simp only []; omega⟩ fun v G2 e2 ok2 ⟨i, hv, i0, i1⟩ => ?_
    subst hv
    rw [o_ixL (kn.mono e2).2]
    obtain ⟨y, h1, h2, _⟩ := atN i0 i1
    exact ⟨y, h1, k _ _ e2 ok2 h2⟩
theorem pick_use {C : Nat → DSp} (h7 : Has C 8 S_pick) {d l : Addr} {s : DV} {xs : List DV} {G : DH} {P : DK} {EX : DXK} (hs : s = .tup xs ∨ ∃ a, s = .ref a ∧ Kn (some (d, l)) G a (.lst xs)) (h1 : xs ≠ []) (h2 : xs.length ≤ 100000) (ok : okD (some (d, l)) G) (k : ∀ v G2, Ext (some (d, l)) G G2 → okD (some (d, l)) G2 → v ∈ xs → P v G2) : C 8 [.ref d, s] G P EX :=
  SP.use h7 ((d, l), s, xs) ok ⟨rfl, rfl, hs, h1, h2⟩ k
/-! the deck is made -/
theorem mrg_deck (a b c : DV) : mergeD [] [(kS "cells", a), (kS "blend", b), (kS "draws", c)] = [(kS "cells", a), (kS "blend", b), (kS "draws", c)] := rfl
abbrev S_deck : DSp := SP (α := DV × List Int) (fun D x G ds => D = none ∧ ds = [x.1] ∧ (x.1 = .lk (x.2.map .int) ∨ ∃ a, x.1 = .ref a ∧ G a = some (.lst (x.2.map .int))) ∧ x.2.length ≤ 63) (fun D x G v => ∃ d l, v = .ref d ∧ okD (some (d, l)) G)
theorem cut_ints (ns : List Int) (lo hi : Option Int) : ∃ ms : List Int, cutD (ns.map DV.int) lo hi = ms.map .int ∧ ms.length ≤ ns.length := by
  unfold cutD
  rw [← List.map_drop, ← List.map_take]
  exact ⟨_, rfl, by simp; omega⟩
theorem sl_lk {G : DH} {P : DK} {xs : List DV} {lo hi : Option Int} : dSlR (.lk xs) lo hi G P = NewO (.lst (cutD xs lo hi)) G P := rfl
theorem sv_deck {C : Nat → DSp} : Serves tabs C f_law_deck S_deck := SP.serves fun D x ds G EX P ok ⟨eD, e, h1, h2⟩ k => by
  obtain ⟨s, ns⟩ := x
  dsimp only at eD e h1 h2 k
  subst eD e
  show denSs tabs C EX _ _ [some _, none, none] G
  rw [f_law_deck]
  have sl : ∀ (G' : DH) (P : DK), Ext none G G' → NewO (.lst (cutD (ns.map DV.int) none (some 63))) G' P → dSlR s none (some 63) G' P := fun G' P e' k => by
    rcases h1 with rfl | ⟨a, rfl, hg⟩
    · rw [sl_lk]; exact k
    · rw [o_slL (e'.k a _ id hg)]; exact k
  obtain ⟨ms, em, hm⟩ := cut_ints ns none (some 63)
  have hl : (ms.map DV.int).length < sizeLine := by rw [List.length_map]; have : sizeLine = 16777216 := rfl; omega
  ((first | rw [e_cons] | (dsimp only; rw [e_cons])); try simp only [dZ, boR, coR, bfD, bmD, bmT, wipeD, sizeLine, Nat.reduceAdd, Nat.reducePow, Nat.reduceLeDiff, reduceIte, String.reduceBEq])
  ((first | rw [e_cons] | (dsimp only; rw [e_cons])); try simp only [dZ, boR, coR, bfD, bmD, bmT, wipeD, sizeLine, Nat.reduceAdd, Nat.reducePow, Nat.reduceLeDiff, reduceIte, String.reduceBEq])
  refine sl G _ (Ext.refl none G) ?_
  rw [em]
  refine NewO.run (D := none) trivial fun p G1 e1 ok1 kn _ => ⟨_, it_kn kn G1 (Ext.refl _ _), ?_⟩
  refine ForK.run (fun i τ' G' => ∃ sd : Int, ∃ c, τ' = [some s, some (.int sd), c] ∧ Ext none G1 G') ⟨_, _, rfl, Ext.refl _ _⟩ (fun _ _ G' ⟨_, _, _, e'⟩ => it_kn kn G' e') (fun i τ' G' x hx ⟨sd, c, eτ, e'⟩ => ?_) fun τ' G' ⟨sd, c, eτ, e'⟩ => ?_
  · obtain ⟨z, rfl, _⟩ := at_map hx
    subst eτ
    (try simp only [dZ, boR, coR, bfD, bmD, bmT, wipeD, sizeLine, Nat.reduceAdd, Nat.reducePow, Nat.reduceLeDiff, reduceIte, String.reduceBEq])
    ((first | rw [e_cons] | (dsimp only; rw [e_cons])); try simp only [dZ, boR, coR, bfD, bmD, bmT, wipeD, sizeLine, Nat.reduceAdd, Nat.reducePow, Nat.reduceLeDiff, reduceIte, String.reduceBEq])
    refine ⟨.inr ⟨by decide, by decide⟩, by decide, by decide, ?_⟩
    (first | (rw [e_nil]; try dsimp only) | (dsimp only; rw [e_nil]; try dsimp only))
    exact ⟨_, _, rfl, e'⟩
  · subst eτ
    ((first | rw [e_cons] | (dsimp only; rw [e_cons])); try simp only [dZ, boR, coR, bfD, bmD, bmT, wipeD, sizeLine, Nat.reduceAdd, Nat.reducePow, Nat.reduceLeDiff, reduceIte, String.reduceBEq])
    have e0 := e1.trans e'
    simp only [d_dct, denL, List.zip_cons_cons, List.zip_nil_left, dDisp, dPairs]
    (try simp only [dZ, boR, coR, bfD, bmD, bmT, wipeD, sizeLine, Nat.reduceAdd, Nat.reducePow, Nat.reduceLeDiff, reduceIte, String.reduceBEq])
    intro d hd
    have e2 : Ext none G' (updD G' d (.dK [])) := Ext.new trivial hd
    have kd : Kn none (updD G' d (.dK [])) d (.dK []) := Kn.new trivial hd
    have fd := (e0.fresh trivial hd)
    revert e2 kd
    generalize updD G' d (.dK []) = G2
    intro e2 kd
    refine sl G2 _ (e0.trans e2) ?_
    rw [em]
    refine NewO.run (D := none) trivial fun q G3 e3 ok3 kq fq => ?_
    rw [o_list (seq_kn kq)]
    refine NewO.run (D := none) trivial fun l0 G4 e4 ok4 kl0 _ => ?_
    refine ⟨_, by simp, seq_kn kl0, ?_⟩
    rw [← List.map_reverse]
    refine NewO.run (D := none) ok4 fun l G5 e5 ok5 kl fl => ?_
    have kd5 := kd.mono (e3.trans (e4.trans e5))
    have dl : d ≠ l := (kd.mono (e3.trans e4)).ne fl
    refine ⟨kd5.2, _, rfl, by show 3 ≤ 15; decide, ?_⟩
    rw [mrg_deck]
    have e6 : Ext none G G5 := e0.trans (e2.trans (e3.trans (e4.trans e5)))
    refine k _ _ (e6.wr trivial fd) trivial ⟨d, l, rfl, dl, ms.reverse, _, _, by rw [List.length_reverse]; omega, updD_same, ?_⟩
    rw [updD_ne (Ne.symm dl)]
    exact kl.2
end DL
end
section
set_option Elab.async false
set_option linter.all false
set_option maxRecDepth 100000
set_option autoImplicit false
namespace DL
open PySem PySem.Spec PyProof.Rows L2
/-! ### values that are shown -/
def VP (D : Dk) (G : DH) (k L : Nat) (x : DV) : Prop := ∃ p : PyData, p.showable = true ∧ p.shown.length ≤ L ∧ ∀ m, k ≤ m → ∀ G', Ext D G G' → toRD G' m x = some p
section
variable {D : Dk} {G G1 : DH} {k k' L L' : Nat} {x y : DV}
theorem VP.mono (h : VP D G k L x) (e : Ext D G G1) : VP D G1 k L x := let ⟨p, h1, h2, h3⟩ := h; ⟨p, h1, h2, fun m hm G' e' => h3 m hm G' (e.trans e')⟩
theorem VP.up (h : VP D G k L x) (a : k ≤ k') (b : L ≤ L') : VP D G k' L' x := let ⟨p, h1, h2, h3⟩ := h; ⟨p, h1, Nat.le_trans h2 b, fun m hm G' e' => h3 m (Nat.le_trans a hm) G' e'⟩
theorem VP.sc {p : PyData} (h1 : p.showable = true) (h2 : p.shown.length ≤ L) (h3 : ∀ m G', toRD G' m x = some p) : VP D G k L x := ⟨p, h1, h2, fun m _ G' _ => h3 m G'⟩
theorem VP.non : VP D G 0 100 .non := .sc (p := .none) (by decide +kernel) (by decide +kernel) fun m G' => by cases m <;> rfl
theorem VP.bl {b : Bool} : VP D G 0 100 (.bl b) := .sc (p := .bool b) (by cases b <;> decide +kernel) (by cases b <;> decide +kernel) fun m G' => by cases m <;> rfl
theorem VP.int {i : Int} (h1 : PyData.showable (.int i) = true) (h2 : (PyData.shown (.int i)).length ≤ 100) : VP D G 0 100 (.int i) := .sc (p := .int i) h1 h2 fun m G' => by cases m <;> rfl
theorem VP.str {s : Str} (h2 : (PyData.shown (.str s)).length ≤ 100) : VP D G 0 100 (.str s) := .sc (p := .str s) (by simp [PyData.showable]) h2 fun m G' => by cases m <;> rfl
theorem omap1 {α β : Type} {f : α → Option β} {x : α} {p : β} (h : f x = some p) : omap f [x] = some [p] := by simp [omap, h]
theorem omap2 {α β : Type} {f : α → Option β} {x y : α} {p q : β} (h : f x = some p) (h2 : f y = some q) : omap f [x, y] = some [p, q] := by simp [omap, h, h2]
theorem suc_of {m k : Nat} (h : k + 1 ≤ m) : ∃ n, m = n + 1 ∧ k ≤ n := ⟨m - 1, by omega, by omega⟩
theorem VP.t0 : VP D G 1 100 (.tup []) := ⟨.tuple [], by decide +kernel, by decide +kernel, fun m hm G' _ => by
  obtain ⟨n, rfl, _⟩ := suc_of hm
  unfold toRD; rfl⟩
theorem VP.l0 {a : Addr} (h : Kn D G a (.lst [])) : VP D G 1 100 (.ref a) := ⟨.list [], by decide +kernel, by decide +kernel, fun m hm G' e => by
  obtain ⟨n, rfl, _⟩ := suc_of hm
  unfold toRD
  rw [(h.mono e).2]; rfl⟩
theorem VP.d0 {a : Addr} (h : Kn D G a (.dK [])) : VP D G 1 100 (.ref a) := ⟨.dict [], by decide +kernel, by decide +kernel, fun m hm G' e => by
  obtain ⟨n, rfl, _⟩ := suc_of hm
  unfold toRD
  rw [(h.mono e).2]; rfl⟩
theorem VP.t1 (h : VP D G k L x) : VP D G (k + 1) (L + 4) (.tup [x]) := by
  obtain ⟨p, h1, h2, h3⟩ := h
  refine ⟨.tuple [p], by simpa [PyData.showable, PyData.showableAll] using h1, ?_, fun m hm G' e => ?_⟩
  · have : (PyData.shown (.tuple [p])).length = 1 + p.shown.length + 2 := by
      simp only [PyData.shown, PyData.shownAll, tupleText]
      rw [strLen_append, strLen_append]; rfl
    omega
  · obtain ⟨n, rfl, hn⟩ := suc_of hm
    unfold toRD
    rw [omap1 (h3 n hn G' e)]; rfl
theorem VP.t2 {L2 : Nat} (h : VP D G k L x) (g : VP D G k L2 y) : VP D G (k + 1) (L + L2 + 4) (.tup [x, y]) := by
  obtain ⟨p, h1, h2, h3⟩ := h
  obtain ⟨q, g1, g2, g3⟩ := g
  refine ⟨.tuple [p, q], by simp [PyData.showable, PyData.showableAll, h1, g1], ?_, fun m hm G' e => ?_⟩
  · have : (PyData.shown (.tuple [p, q])).length = 1 + (p.shown.length + 2 + q.shown.length) + 1 := by
      simp only [PyData.shown, PyData.shownAll, tupleText]
      rw [strLen_append, strLen_append]
      show 1 + (p.shown ++ (", " : Str) ++ q.shown).length + 1 = _
      rw [strLen_append, strLen_append]; rfl
    omega
  · obtain ⟨n, rfl, hn⟩ := suc_of hm
    unfold toRD
    rw [omap2 (h3 n hn G' e) (g3 n hn G' e)]; rfl
theorem VP.l1 {a : Addr} (hk : Kn D G a (.lst [x])) (h : VP D G k L x) : VP D G (k + 1) (L + 4) (.ref a) := by
  obtain ⟨p, h1, h2, h3⟩ := h
  refine ⟨.list [p], by simpa [PyData.showable, PyData.showableAll] using h1, ?_, fun m hm G' e => ?_⟩
  · have : (PyData.shown (.list [p])).length = 1 + 0 + p.shown.length + 1 := by
      simp only [PyData.shown, PyData.shownAll, listText, textFrom]
      rw [strLen_append, strLen_append, strLen_append]; rfl
    omega
  · obtain ⟨n, rfl, hn⟩ := suc_of hm
    unfold toRD
    rw [(hk.mono e).2]
    dsimp only
    rw [omap1 (h3 n hn G' e)]; rfl
theorem VP.l2 {a : Addr} {L2 : Nat} (hk : Kn D G a (.lst [x, y])) (h : VP D G k L x) (g : VP D G k L2 y) : VP D G (k + 1) (L + L2 + 4) (.ref a) := by
  obtain ⟨p, h1, h2, h3⟩ := h
  obtain ⟨q, g1, g2, g3⟩ := g
  refine ⟨.list [p, q], by simp [PyData.showable, PyData.showableAll, h1, g1], ?_, fun m hm G' e => ?_⟩
  · have : (PyData.shown (.list [p, q])).length = 1 + 0 + p.shown.length + 2 + q.shown.length + 1 := by
      simp only [PyData.shown, PyData.shownAll, listText, textFrom]
      rw [strLen_append, strLen_append, strLen_append, strLen_append, strLen_append]; rfl
    omega
  · obtain ⟨n, rfl, hn⟩ := suc_of hm
    unfold toRD
    rw [(hk.mono e).2]
    dsimp only
    rw [omap2 (h3 n hn G' e) (g3 n hn G' e)]; rfl
theorem VP.d1 {a : Addr} (hk : Kn D G a (.dK [(kS "a", x)])) (h : VP D G k L x) : VP D G (k + 1) (L + 20) (.ref a) := by
  obtain ⟨p, h1, h2, h3⟩ := h
  refine ⟨.dict [(.str (Str.ofString "a"), p)], by simp [PyData.showable, PyData.showableKv, h1], ?_, fun m hm G' e => ?_⟩
  · have e1 : (reprText (Str.ofString "a")).length = 3 := by decide +kernel
    have : (PyData.shown (.dict [(.str (Str.ofString "a"), p)])).length = 1 + (3 + 2 + p.shown.length) + 1 := by
      simp only [PyData.shown, PyData.shownKv, dictText]
      rw [strLen_append, strLen_append]
      show 1 + (reprText (Str.ofString "a") ++ (": " : Str) ++ p.shown).length + 1 = _
      rw [strLen_append, strLen_append, e1]; rfl
    omega
  · obtain ⟨n, rfl, hn⟩ := suc_of hm
    unfold toRD
    rw [(hk.mono e).2]
    dsimp only
    rw [show List.map (fun x : Key × DV => x.snd) [(kS "a", x)] = [x] from rfl, omap1 (h3 n hn G' e)]; rfl
/-- repr(x) -/
theorem VP.rep (h : VP D G k L x) (hk : k ≤ 60) (hL : L ≤ sizeLine) : ∃ s : Str, ∀ G', Ext D G G' → ∀ P : DK, P (.str s) G' → dRepr [x] G' P := by
  obtain ⟨p, h1, h2, h3⟩ := h
  exact ⟨p.shown, fun G' e P q => ⟨x, p, rfl, h3 60 hk G' e, h1, Nat.le_trans h2 hL, q⟩⟩
end
end DL
end
section
set_option Elab.async false
set_option linter.all false
set_option maxRecDepth 100000
set_option autoImplicit false
namespace DL
open PySem PySem.Spec PyProof.Rows L2
def LL : Nat → Nat
  | 0 => 300
  | n + 1 => 4 * LL n
theorem LL_ge (n : Nat) : 300 ≤ LL n := by induction n with
  | zero => exact Nat.le_refl _
  | succ n ih => show 300 ≤ 4 * LL n; omega
abbrev S_value (dep : Nat) : DSp := SP (α := Addr × Addr) (fun D x G ds => D = some x ∧ ds = [.ref x.1, .int dep]) (fun D x G v => VP D G (3 + dep) (LL dep) v)
theorem sv_value {C : Nat → DSp} (dep : Nat) (h9 : Has C 9 S_draw) (h8 : Has C 8 S_pick) (h2 : ∀ m, m < dep → Has C 2 (S_value m)) : Serves tabs C f_law_value (S_value dep) := SP.serves fun D x ds G EX P ok ⟨eD, e⟩ k => by
  obtain ⟨d, l⟩ := x
  dsimp only at eD e k
  subst eD e
  show denSs tabs C EX _ _ [some _, some _, none, none] G
  rw [f_law_value]
  ((first | rw [e_cons] | (dsimp only; rw [e_cons])); try simp only [dZ, boR, coR, bfD, bmD, bmT, wipeD, sizeLine, Nat.reduceAdd, Nat.reducePow, Nat.reduceLeDiff, reduceIte, String.reduceBEq])
  refine ⟨⟨by decide, by decide, by decide⟩, ?_⟩
  refine NewO.run ok fun a1 G1 e1 ok1 k1 _ => ?_
  refine NewO.run ok1 fun a2 G2 e2 ok2 k2 _ => ?_
  refine NewO.run ok2 fun a3 G3 e3 ok3 k3 _ => ?_
  have e0 := e1.trans (e2.trans e3)
  have hL := LL_ge dep
  have base : ∀ v ∈ [DV.non, DV.bl true, DV.bl false, DV.int 0, DV.int 1, DV.int (-1), DV.int (10 ^ Int.toNat 39), DV.str (Str.ofString ""), DV.str (Str.ofString "a"), DV.str (Str.ofString "K"), DV.str (Str.ofString "kinds"), DV.str (Str.ofString "line 2"), DV.tup [], .ref a1, .ref a2,
      DV.tup [DV.str (Str.ofString "had"), DV.tup []], DV.tup [DV.tup []]], VP (some (d, l)) G3 (3 + dep) (LL dep) v := fun v hv => by
    have up : ∀ {k L : Nat}, VP (some (d, l)) G3 k L v → k ≤ 3 → L ≤ 300 → VP (some (d, l)) G3 (3 + dep) (LL dep) v := fun h hk hl => h.up (by omega) (by omega)
    simp only [List.mem_cons, List.not_mem_nil, or_false] at hv
    rcases hv with rfl | rfl | rfl | rfl | rfl | rfl | rfl | rfl | rfl | rfl | rfl | rfl | rfl | rfl | rfl | rfl | rfl
    · exact up .non (by decide) (by decide)
    · exact up .bl (by decide) (by decide)
    · exact up .bl (by decide) (by decide)
    · exact up (.int (by decide +kernel) (by decide +kernel)) (by decide) (by decide)
    · exact up (.int (by decide +kernel) (by decide +kernel)) (by decide) (by decide)
    · exact up (.int (by decide +kernel) (by decide +kernel)) (by decide) (by decide)
    · exact up (.int (by decide +kernel) (by decide +kernel)) (by decide) (by decide)
    · exact up (.str (by decide +kernel)) (by decide) (by decide)
    · exact up (.str (by decide +kernel)) (by decide) (by decide)
    · exact up (.str (by decide +kernel)) (by decide) (by decide)
    · exact up (.str (by decide +kernel)) (by decide) (by decide)
    · exact up (.str (by decide +kernel)) (by decide) (by decide)
    · exact up .t0 (by decide) (by decide)
    · exact up (VP.l0 (k1.mono (e2.trans e3))) (by decide) (by decide)
    · exact up (VP.d0 (k2.mono e3)) (by decide) (by decide)
    · exact up (VP.t2 ((VP.str (by decide +kernel)).up (k' := 1) (L' := 100) (by decide) (by decide)) VP.t0) (by decide) (by decide)
    · exact up (VP.t1 VP.t0) (by decide) (by decide)
  have last : ∀ (G4 : DH) (w : Option DV), Ext (some (d, l)) G3 G4 → okD (some (d, l)) G4 → denSs tabs C EX [.ret (.call "_law_pick" 8 2 [.v 0, .v 2])] { nx := fun _ G' => P .non G', rt := P } [some (.ref d), some (.int dep), some (.ref a3), w] G4 := fun G4 w e4 ok4 => by
    ((first | rw [e_cons] | (dsimp only; rw [e_cons])); try simp only [dZ, boR, coR, bfD, bmD, bmT, wipeD, sizeLine, Nat.reduceAdd, Nat.reducePow, Nat.reduceLeDiff, reduceIte, String.reduceBEq])
    exact pick_use h8 (.inr ⟨a3, rfl, k3.mono e4⟩) (by simp) (by simp) ok4 fun v G5 e5 ok5 hv => k v G5 (e0.trans (e4.trans e5)) ok5 ((base v hv).mono (e4.trans e5))
  ((first | rw [e_cons] | (dsimp only; rw [e_cons])); try simp only [dZ, boR, coR, bfD, bmD, bmT, wipeD, sizeLine, Nat.reduceAdd, Nat.reducePow, Nat.reduceLeDiff, reduceIte, String.reduceBEq])
  cases dep with
  | zero =>
    (try simp only [dZ, boR, coR, bfD, bmD, bmT, wipeD, sizeLine, Nat.reduceAdd, Nat.reducePow, Nat.reduceLeDiff, reduceIte, String.reduceBEq])
    (first | (rw [e_nil]; try dsimp only) | (dsimp only; rw [e_nil]; try dsimp only))
    exact last G3 none (Ext.refl _ _) ok3
  | succ n =>
    rw [show decide ((0 : Int) < ((n + 1 : Nat) : Int)) = true from by simp]
    (try simp only [dZ, boR, coR, bfD, bmD, bmT, wipeD, sizeLine, Nat.reduceAdd, Nat.reducePow, Nat.reduceLeDiff, reduceIte, String.reduceBEq])
    refine draw_use h9 (by decide) (by decide) ok3 fun i G4 e4 ok4 _ _ => ?_
    refine o_eqI ?_
    refine ⟨_, rfl, ?_⟩
    split
    · ((first | rw [e_cons] | (dsimp only; rw [e_cons])); try simp only [dZ, boR, coR, bfD, bmD, bmT, wipeD, sizeLine, Nat.reduceAdd, Nat.reducePow, Nat.reduceLeDiff, reduceIte, String.reduceBEq])
      rw [show ((n + 1 : Nat) : Int) - 1 = (n : Int) from by omega]
      refine SP.use (h2 n (by omega)) (d, l) ok4 ⟨rfl, rfl⟩ fun v G5 e5 ok5 hv => ?_
      ((first | rw [e_cons] | (dsimp only; rw [e_cons])); try simp only [dZ, boR, coR, bfD, bmD, bmT, wipeD, sizeLine, Nat.reduceAdd, Nat.reducePow, Nat.reduceLeDiff, reduceIte, String.reduceBEq])
      simp only [d_dct, denL, List.zip_cons_cons, List.zip_nil_left, dDisp, dPairs]
      (try simp only [dZ, boR, coR, bfD, bmD, bmT, wipeD, sizeLine, Nat.reduceAdd, Nat.reducePow, Nat.reduceLeDiff, reduceIte, String.reduceBEq])
      refine NewO.run ok5 fun b1 G6 e6 ok6 kb1 _ => ?_
      intro b2 hb2
      refine ⟨updD_same, [(kS "a", v)], rfl, by show 1 ≤ 15; decide, ?_⟩
      rw [updD_updD, show mergeD [] [(kS "a", v)] = [(kS "a", v)] from rfl]
      have e7 : Ext (some (d, l)) G6 (updD G6 b2 (.dK [(kS "a", v)])) := Ext.new ok6 hb2
      have ok7 : okD (some (d, l)) (updD G6 b2 (.dK [(kS "a", v)])) := ok6.upd (ok6.notIn hb2)
      have kb2 : Kn (some (d, l)) (updD G6 b2 (.dK [(kS "a", v)])) b2 (.dK [(kS "a", v)]) := Kn.new ok6 hb2
      revert e7 ok7 kb2
      generalize updD G6 b2 (.dK [(kS "a", v)]) = G7
      intro e7 ok7 kb2
      refine NewO.run ok7 fun b3 G8 e8 ok8 kb3 _ => ?_
      have lg := LL_ge n
      have le : LL (n + 1) = 4 * LL n := rfl
      have up : ∀ {w : DV} {L : Nat}, VP (some (d, l)) G8 (3 + n + 1) L w → L ≤ 2 * LL n + 100 → VP (some (d, l)) G8 (3 + (n + 1)) (LL (n + 1)) w := fun h hl => h.up (by omega) (by omega)
      have hv8 := hv.mono (e6.trans (e7.trans e8))
      refine pick_use h8 (.inr ⟨b3, rfl, kb3⟩) (by simp) (by simp) ok8 fun w G9 e9 ok9 hw => k w G9 (e0.trans (e4.trans (e5.trans (e6.trans (e7.trans (e8.trans e9)))))) ok9 (VP.mono ?_ e9)
      simp only [List.mem_cons, List.not_mem_nil, or_false] at hw
      rcases hw with rfl | rfl | rfl | rfl
      · exact up (VP.t2 hv8 hv8) (by omega)
      · exact up (VP.l1 (kb1.mono (e7.trans e8)) hv8) (by omega)
      · exact up (VP.d1 (kb2.mono e8) hv8) (by omega)
      · exact up (VP.t1 hv8) (by omega)
    · (first | (rw [e_nil]; try dsimp only) | (dsimp only; rw [e_nil]; try dsimp only))
      exact last G4 none e4 ok4
end DL
end
section
set_option Elab.async false
set_option linter.all false
set_option maxRecDepth 100000
set_option autoImplicit false
namespace DL
open PySem PySem.Spec PyProof.Rows L2
/-! ### the errors of the ways -/
def wayT : List (Int × String × String) := [(0, "BadBook", "part"), (1, "BadThing", "thing"), (2, "BadRow", "part"), (3, "BadText", "line"), (4, "NotHad", "paper"), (5, "Mismatch", "part"), (6, "BadCircle", "part"), (7, "NoDeed", "name"), (8, "Kept", "paper"), (9, "TooMany", "most"), (14, "NotOpen", "name")]
abbrev S_made : DSp := SP (α := (Int × String × String) × DV × Bool) (fun D x G ds => x.1 ∈ wayT ∧ ds = [.int x.1.1, x.2.1, .bl x.2.2]) (fun D x G v => v = .xo x.1.2.1 x.1.2.2 x.2.1)
theorem sv_made {C : Nat → DSp} : Serves tabs C f_law_made S_made := SP.serves fun D x ds G EX P ok ⟨hw, e⟩ k => by
  obtain ⟨⟨w, c, f⟩, v, b⟩ := x
  dsimp only at hw e k
  subst e
  show denSs tabs C EX _ _ [some _, some _, some _] G
  rw [f_law_made]
  simp only [wayT, List.mem_cons, List.not_mem_nil, or_false, Prod.mk.injEq] at hw
  rcases hw with ⟨rfl, rfl, rfl⟩ | ⟨rfl, rfl, rfl⟩ | ⟨rfl, rfl, rfl⟩ | ⟨rfl, rfl, rfl⟩ | ⟨rfl, rfl, rfl⟩ | ⟨rfl, rfl, rfl⟩ | ⟨rfl, rfl, rfl⟩ | ⟨rfl, rfl, rfl⟩ | ⟨rfl, rfl, rfl⟩ | ⟨rfl, rfl, rfl⟩ | ⟨rfl, rfl, rfl⟩
  all_goals
    repeat (((first | rw [e_cons] | (dsimp only; rw [e_cons])); try simp only [dZ, boR, coR, bfD, bmD, bmT, wipeD, sizeLine, Nat.reduceAdd, Nat.reducePow, Nat.reduceLeDiff, reduceIte, String.reduceBEq]); refine o_eqI ?_; refine ⟨_, rfl, ?_⟩; rw [if_neg (by decide)]; (first | (rw [e_nil]; try dsimp only) | (dsimp only; rw [e_nil]; try dsimp only)))
    first
      | (((first | rw [e_cons] | (dsimp only; rw [e_cons])); try simp only [dZ, boR, coR, bfD, bmD, bmT, wipeD, sizeLine, Nat.reduceAdd, Nat.reducePow, Nat.reduceLeDiff, reduceIte, String.reduceBEq]); refine o_eqI ?_; refine ⟨_, rfl, ?_⟩; rw [if_pos (by decide)]; ((first | rw [e_cons] | (dsimp only; rw [e_cons])); try simp only [dZ, boR, coR, bfD, bmD, bmT, wipeD, sizeLine, Nat.reduceAdd, Nat.reducePow, Nat.reduceLeDiff, reduceIte, String.reduceBEq]); cases b <;> (try simp only [dZ, boR, coR, bfD, bmD, bmT, wipeD, sizeLine, Nat.reduceAdd, Nat.reducePow, Nat.reduceLeDiff, reduceIte, String.reduceBEq]) <;> exact k _ _ (Ext.refl D G) ok rfl)
      | (((first | rw [e_cons] | (dsimp only; rw [e_cons])); try simp only [dZ, boR, coR, bfD, bmD, bmT, wipeD, sizeLine, Nat.reduceAdd, Nat.reducePow, Nat.reduceLeDiff, reduceIte, String.reduceBEq]); cases b <;> (try simp only [dZ, boR, coR, bfD, bmD, bmT, wipeD, sizeLine, Nat.reduceAdd, Nat.reducePow, Nat.reduceLeDiff, reduceIte, String.reduceBEq]) <;> exact k _ _ (Ext.refl D G) ok rfl)
abbrev S_borne : DSp := SP (α := (Int × String × String) × DV) (fun D x G ds => x.1 ∈ wayT ∧ ds = [.int x.1.1, .xo x.1.2.1 x.1.2.2 x.2]) (fun D x G v => v = x.2)
theorem sv_borne {C : Nat → DSp} : Serves tabs C f_law_borne S_borne := SP.serves fun D x ds G EX P ok ⟨hw, e⟩ k => by
  obtain ⟨⟨w, c, f⟩, v⟩ := x
  dsimp only at hw e k
  subst e
  show denSs tabs C EX _ _ [some _, some _] G
  rw [f_law_borne]
  simp only [wayT, List.mem_cons, List.not_mem_nil, or_false, Prod.mk.injEq] at hw
  have fin := k v G (Ext.refl D G) ok rfl
  rcases hw with ⟨rfl, rfl, rfl⟩ | ⟨rfl, rfl, rfl⟩ | ⟨rfl, rfl, rfl⟩ | ⟨rfl, rfl, rfl⟩ | ⟨rfl, rfl, rfl⟩ | ⟨rfl, rfl, rfl⟩ | ⟨rfl, rfl, rfl⟩ | ⟨rfl, rfl, rfl⟩ | ⟨rfl, rfl, rfl⟩ | ⟨rfl, rfl, rfl⟩ | ⟨rfl, rfl, rfl⟩
  all_goals
    ((first | rw [e_cons] | (dsimp only; rw [e_cons])); try simp only [dZ, boR, coR, bfD, bmD, bmT, wipeD, sizeLine, Nat.reduceAdd, Nat.reducePow, Nat.reduceLeDiff, reduceIte, String.reduceBEq])
    rw [o_inT]
    refine ⟨rfl, rfl, _, rfl, ?_⟩
    first
      | (rw [if_pos (by decide +kernel)]; ((first | rw [e_cons] | (dsimp only; rw [e_cons])); try simp only [dZ, boR, coR, bfD, bmD, bmT, wipeD, sizeLine, Nat.reduceAdd, Nat.reducePow, Nat.reduceLeDiff, reduceIte, String.reduceBEq]); exact ⟨_, _, rfl, by decide, fin⟩)
      | (rw [if_neg (by decide +kernel)]; (first | (rw [e_nil]; try dsimp only) | (dsimp only; rw [e_nil]; try dsimp only))
         ((first | rw [e_cons] | (dsimp only; rw [e_cons])); try simp only [dZ, boR, coR, bfD, bmD, bmT, wipeD, sizeLine, Nat.reduceAdd, Nat.reducePow, Nat.reduceLeDiff, reduceIte, String.reduceBEq])
         rw [o_inT]
         refine ⟨rfl, rfl, _, rfl, ?_⟩
         first
           | (rw [if_pos (by decide +kernel)]; ((first | rw [e_cons] | (dsimp only; rw [e_cons])); try simp only [dZ, boR, coR, bfD, bmD, bmT, wipeD, sizeLine, Nat.reduceAdd, Nat.reducePow, Nat.reduceLeDiff, reduceIte, String.reduceBEq]); exact ⟨_, _, rfl, by decide, fin⟩)
           | (rw [if_neg (by decide +kernel)]; (first | (rw [e_nil]; try dsimp only) | (dsimp only; rw [e_nil]; try dsimp only))
              ((first | rw [e_cons] | (dsimp only; rw [e_cons])); try simp only [dZ, boR, coR, bfD, bmD, bmT, wipeD, sizeLine, Nat.reduceAdd, Nat.reducePow, Nat.reduceLeDiff, reduceIte, String.reduceBEq])
              refine o_eqI ?_
              refine ⟨_, rfl, ?_⟩
              first
                | (rw [if_pos (by decide)]; ((first | rw [e_cons] | (dsimp only; rw [e_cons])); try simp only [dZ, boR, coR, bfD, bmD, bmT, wipeD, sizeLine, Nat.reduceAdd, Nat.reducePow, Nat.reduceLeDiff, reduceIte, String.reduceBEq]); exact ⟨_, _, rfl, by decide, fin⟩)
                | (rw [if_neg (by decide)]; (first | (rw [e_nil]; try dsimp only) | (dsimp only; rw [e_nil]; try dsimp only))
                   ((first | rw [e_cons] | (dsimp only; rw [e_cons])); try simp only [dZ, boR, coR, bfD, bmD, bmT, wipeD, sizeLine, Nat.reduceAdd, Nat.reducePow, Nat.reduceLeDiff, reduceIte, String.reduceBEq])
                   refine o_eqI ?_
                   refine ⟨_, rfl, ?_⟩
                   first
                     | (rw [if_pos (by decide)]; ((first | rw [e_cons] | (dsimp only; rw [e_cons])); try simp only [dZ, boR, coR, bfD, bmD, bmT, wipeD, sizeLine, Nat.reduceAdd, Nat.reducePow, Nat.reduceLeDiff, reduceIte, String.reduceBEq]); exact ⟨_, _, rfl, by decide, fin⟩)
                     | (rw [if_neg (by decide)]; (first | (rw [e_nil]; try dsimp only) | (dsimp only; rw [e_nil]; try dsimp only))
                        ((first | rw [e_cons] | (dsimp only; rw [e_cons])); try simp only [dZ, boR, coR, bfD, bmD, bmT, wipeD, sizeLine, Nat.reduceAdd, Nat.reducePow, Nat.reduceLeDiff, reduceIte, String.reduceBEq])
                        rw [o_inT]
                        refine ⟨rfl, rfl, _, rfl, ?_⟩
                        first
                          | (rw [if_pos (by decide +kernel)]; (try simp only [dZ, boR, coR, bfD, bmD, bmT, wipeD, sizeLine, Nat.reduceAdd, Nat.reducePow, Nat.reduceLeDiff, reduceIte, String.reduceBEq]); exact ⟨_, _, rfl, by decide, fin⟩)
                          | (rw [if_neg (by decide +kernel)]; (try simp only [dZ, boR, coR, bfD, bmD, bmT, wipeD, sizeLine, Nat.reduceAdd, Nat.reducePow, Nat.reduceLeDiff, reduceIte, String.reduceBEq]); exact ⟨_, _, rfl, by decide, fin⟩)))))
/-! ### of which classes an error is -/
def KL : List String := kinds.flatten
def kB (c : String) (cs : List String) : List DV := cs.map fun d => .bl (xisa tabs.xsub c (.o d))
abbrev S_kinds : DSp := SP (α := String × DV) (fun D x G ds => ds = [x.2] ∧ xcls x.2 = some x.1 ∧ x.1 ∈ tabs.xcl) (fun D x G v => ∃ p, v = .ref p ∧ Kn D G p (.lst (kB x.1 KL)))
theorem sv_kinds {C : Nat → DSp} : Serves tabs C f_law_kinds_of S_kinds := SP.serves fun D x ds G EX P ok ⟨e, hx, hc⟩ k => by
  obtain ⟨c, x⟩ := x
  dsimp only at e hx hc k
  subst e
  show denSs tabs C EX _ _ [some _, none] G
  rw [f_law_kinds_of]
  ((first | rw [e_cons] | (dsimp only; rw [e_cons])); try simp only [dZ, boR, coR, bfD, bmD, bmT, wipeD, sizeLine, Nat.reduceAdd, Nat.reducePow, Nat.reduceLeDiff, reduceIte, String.reduceBEq])
  simp only [hx, hc, Option.some.injEq, exists_eq_left', true_and]
  simp only [List.map_cons, List.map_nil, List.any_cons, List.any_nil, Bool.or_false]
  refine NewO.run ok fun p1 G1 e1 ok1 k1 _ => ?_
  ((first | rw [e_cons] | (dsimp only; rw [e_cons])); try simp only [dZ, boR, coR, bfD, bmD, bmT, wipeD, sizeLine, Nat.reduceAdd, Nat.reducePow, Nat.reduceLeDiff, reduceIte, String.reduceBEq])
  simp only [hx, hc, Option.some.injEq, exists_eq_left', true_and, List.map_cons, List.map_nil, List.any_cons, List.any_nil, Bool.or_false]
  refine NewO.run ok1 fun q2 G2 e2 ok2 kq2 _ => ?_
  refine o_addL (k1.mono e2).2 kq2.2 (by show 8 ≤ sizeLine; decide) (NewO.run ok2 fun p3 G3 e3 ok3 k3 _ => ?_)
  ((first | rw [e_cons] | (dsimp only; rw [e_cons])); try simp only [dZ, boR, coR, bfD, bmD, bmT, wipeD, sizeLine, Nat.reduceAdd, Nat.reducePow, Nat.reduceLeDiff, reduceIte, String.reduceBEq])
  simp only [hx, hc, Option.some.injEq, exists_eq_left', true_and, List.map_cons, List.map_nil, List.any_cons, List.any_nil, Bool.or_false]
  refine NewO.run ok3 fun q4 G4 e4 ok4 kq4 _ => ?_
  refine o_addL (k3.mono e4).2 kq4.2 (by show 11 ≤ sizeLine; decide) (NewO.run ok4 fun p5 G5 e5 ok5 k5 _ => ?_)
  ((first | rw [e_cons] | (dsimp only; rw [e_cons])); try simp only [dZ, boR, coR, bfD, bmD, bmT, wipeD, sizeLine, Nat.reduceAdd, Nat.reducePow, Nat.reduceLeDiff, reduceIte, String.reduceBEq])
  simp only [hx, hc, Option.some.injEq, exists_eq_left', true_and, List.map_cons, List.map_nil, List.any_cons, List.any_nil, Bool.or_false]
  refine NewO.run ok5 fun q6 G6 e6 ok6 kq6 _ => ?_
  refine o_addL (k5.mono e6).2 kq6.2 (by show 14 ≤ sizeLine; decide) (NewO.run ok6 fun p7 G7 e7 ok7 k7 _ => ?_)
  ((first | rw [e_cons] | (dsimp only; rw [e_cons])); try simp only [dZ, boR, coR, bfD, bmD, bmT, wipeD, sizeLine, Nat.reduceAdd, Nat.reducePow, Nat.reduceLeDiff, reduceIte, String.reduceBEq])
  simp only [hx, hc, Option.some.injEq, exists_eq_left', true_and, List.map_cons, List.map_nil, List.any_cons, List.any_nil, Bool.or_false]
  refine NewO.run ok7 fun q8 G8 e8 ok8 kq8 _ => ?_
  refine o_addL (k7.mono e8).2 kq8.2 (by show 17 ≤ sizeLine; decide) (NewO.run ok8 fun p9 G9 e9 ok9 k9 _ => ?_)
  exact k _ _ (e1.trans (e2.trans (e3.trans (e4.trans (e5.trans (e6.trans (e7.trans (e8.trans e9)))))))) ok9 ⟨p9, rfl, k9⟩
theorem kinds_row : ∀ i : Fin 17, ∀ c ∈ KL[i.val]?, KL.map (fun d => xisa tabs.xsub c (.o d)) = (List.range 17).map fun k : Nat => decide ((k : Int) = (i.val : Int)) := by decide +kernel
theorem kl_facts : ∀ c ∈ KL, c ∈ tabs.xcl ∧ xisa tabs.xsub c (.o "CircleError") = true := by decide +kernel
def eqI (i : Nat) : DV → DV
  | .int z => .bl (decide (z = (i : Int)))
  | _ => .non
abbrev S_one : DSp := SP (α := Nat × String × DV) (fun D x G ds => ds = [.int x.1, x.2.2] ∧ xcls x.2.2 = some x.2.1 ∧ KL[x.1]? = some x.2.1) (fun D x G v => v = .bl true)
theorem sv_one {C : Nat → DSp} (h6 : Has C 6 S_kinds) : Serves tabs C f_law_is_one S_one := SP.serves fun D x ds G EX P ok ⟨e, hx, hc⟩ k => by
  obtain ⟨i, c, x⟩ := x
  dsimp only at e hx hc k
  subst e
  obtain ⟨m1, m2⟩ := kl_facts c (List.mem_of_getElem? hc)
  have hi : i < 17 := (List.getElem?_eq_some_iff.mp hc).1
  show denSs tabs C EX _ _ [some _, some _, none] G
  rw [f_law_is_one]
  ((first | rw [e_cons] | (dsimp only; rw [e_cons])); try simp only [dZ, boR, coR, bfD, bmD, bmT, wipeD, sizeLine, Nat.reduceAdd, Nat.reducePow, Nat.reduceLeDiff, reduceIte, String.reduceBEq])
  have m3 : xisa tabs.xsub c (.b "Exception") = true := by show ("Exception" == "Exception") = true; decide
  have m4 : xisa tabs.xsub c (.b "ValueError") = false := by show ("ValueError" == "Exception") = false; decide
  have m5 : xisa tabs.xsub c (.b "KeyError") = false := by show ("KeyError" == "Exception") = false; decide
  have m6 : xisa tabs.xsub c (.b "TypeError") = false := by show ("TypeError" == "Exception") = false; decide
  have m7 : xisa tabs.xsub c (.b "LookupError") = false := by show ("LookupError" == "Exception") = false; decide
  have m8 : xisa tabs.xsub c (.b "ArithmeticError") = false := by show ("ArithmeticError" == "Exception") = false; decide
  have m9 : xisa tabs.xsub c (.b "RuntimeError") = false := by show ("RuntimeError" == "Exception") = false; decide
  simp only [hx, m1, m2, m3, Option.some.injEq, exists_eq_left', true_and, List.map_cons, List.map_nil, List.any_cons, List.any_nil, Bool.or_false, Bool.not_true, Bool.false_eq_true, if_false]
  (first | (rw [e_nil]; try dsimp only) | (dsimp only; rw [e_nil]; try dsimp only))
  ((first | rw [e_cons] | (dsimp only; rw [e_cons])); try simp only [dZ, boR, coR, bfD, bmD, bmT, wipeD, sizeLine, Nat.reduceAdd, Nat.reducePow, Nat.reduceLeDiff, reduceIte, String.reduceBEq])
  simp only [hx, m1, m4, m5, m6, m7, m8, m9, Option.some.injEq, exists_eq_left', true_and, List.map_cons, List.map_nil, List.any_cons, List.any_nil, Bool.or_false, Bool.false_eq_true, if_false]
  (first | (rw [e_nil]; try dsimp only) | (dsimp only; rw [e_nil]; try dsimp only))
  ((first | rw [e_cons] | (dsimp only; rw [e_cons])); try simp only [dZ, boR, coR, bfD, bmD, bmT, wipeD, sizeLine, Nat.reduceAdd, Nat.reducePow, Nat.reduceLeDiff, reduceIte, String.reduceBEq])
  refine SP.use h6 (c, x) ok ⟨rfl, hx, m1⟩ fun v G1 e1 ok1 ⟨p, hv, kp⟩ => ?_
  subst hv
  (try simp only [dZ, boR, coR, bfD, bmD, bmT, wipeD, sizeLine, Nat.reduceAdd, Nat.reducePow, Nat.reduceLeDiff, reduceIte, String.reduceBEq])
  refine ⟨by decide, by decide, LcK.map (D := D) (eqI i) (fun _ => true) ok1 (by decide) (fun _ _ => trivial) (fun y hy => ?_) fun q G2 e2 ok2 kq _ => ?_⟩
  · obtain ⟨j, _, rfl⟩ := List.mem_map.mp hy
    (try simp only [dZ, boR, coR, bfD, bmD, bmT, wipeD, sizeLine, Nat.reduceAdd, Nat.reducePow, Nat.reduceLeDiff, reduceIte, String.reduceBEq])
    exact fun G2 e2 ok2 K1 K2 k1 _ => o_eqI (k1 G2 (Ext.refl D G2) ok2 trivial)
  · rw [List.filter_eq_self.mpr (fun _ _ => rfl)] at kq
    have e : (rngD 0 (Int.toNat 17)).map (eqI i) = (KL.map fun d => xisa tabs.xsub c (.o d)).map DV.bl := by
      rw [kinds_row ⟨i, hi⟩ c hc]
      show List.map (eqI i) ((List.range 17).map fun k => DV.int (0 + (k : Nat))) = _
      rw [List.map_map, List.map_map]
      apply List.map_congr_left
      intro k _
      show DV.bl (decide ((0 + (k : Int)) = (i : Int))) = DV.bl (decide ((k : Int) = (i : Int)))
      rw [Int.zero_add]
    rw [e] at kq
    have e' : kB c KL = (KL.map fun d => xisa tabs.xsub c (.o d)).map DV.bl := by unfold kB; rw [List.map_map]; rfl
    have kp2 := (kp.mono e2).2
    dsimp only at kp2
    rw [e'] at kp2
    exact o_eqB kp2 kq.2 (k _ _ (e1.trans e2) ok2 rfl)
end DL
end
section
set_option Elab.async false
set_option linter.all false
set_option maxRecDepth 100000
set_option autoImplicit false
namespace DL
open PySem PySem.Spec PyProof.Rows L2
theorem o_neS {G : DH} {P : DK} {i : Str} (k : P (.bl false) G) : dNe (.str i) (.str i) G P := o_neF (f := .str i) (g := .str i) rfl rfl rfl (by rw [decide_eq_true rfl]; exact k)
theorem o_ne0 {G : DH} {P : DK} {a b : Addr} (ha : G a = some (.lst [])) (hb : G b = some (.lst [])) (k : P (.bl false) G) : dNe (.ref a) (.ref b) G P := o_neLE ha hb (fun z hz => by simp at hz) k
/-- the ways -/
def wayL : List DV := (List.range 10).map (fun i => .int (i : Nat)) ++ [.int 14]
theorem way_of : ∀ x ∈ wayL, ∃ (i : Nat) (c f : String), x = .int i ∧ ((i : Int), c, f) ∈ wayT ∧ KL[i]? = some c := fun x hx => by
  have e : wayL = [.int ((0 : Nat) : Int), .int ((1 : Nat) : Int), .int ((2 : Nat) : Int), .int ((3 : Nat) : Int), .int ((4 : Nat) : Int), .int ((5 : Nat) : Int), .int ((6 : Nat) : Int), .int ((7 : Nat) : Int), .int ((8 : Nat) : Int), .int ((9 : Nat) : Int), .int ((14 : Nat) : Int)] := rfl
  rw [e] at hx
  simp only [List.mem_cons, List.not_mem_nil, or_false] at hx
  rcases hx with rfl | rfl | rfl | rfl | rfl | rfl | rfl | rfl | rfl | rfl | rfl
  · exact ⟨0, "BadBook", "part", rfl, by decide, by decide⟩
  · exact ⟨1, "BadThing", "thing", rfl, by decide, by decide⟩
  · exact ⟨2, "BadRow", "part", rfl, by decide, by decide⟩
  · exact ⟨3, "BadText", "line", rfl, by decide, by decide⟩
  · exact ⟨4, "NotHad", "paper", rfl, by decide, by decide⟩
  · exact ⟨5, "Mismatch", "part", rfl, by decide, by decide⟩
  · exact ⟨6, "BadCircle", "part", rfl, by decide, by decide⟩
  · exact ⟨7, "NoDeed", "name", rfl, by decide, by decide⟩
  · exact ⟨8, "Kept", "paper", rfl, by decide, by decide⟩
  · exact ⟨9, "TooMany", "most", rfl, by decide, by decide⟩
  · exact ⟨14, "NotOpen", "name", rfl, by decide, by decide⟩
def bareL : List DV := [.tup [.int 10, .xb "NothingToUndo"], .tup [.int 11, .xb "NothingToRedo"], .tup [.int 12, .xb "NoCircle"], .tup [.int 13, .xb "InvalidCommand"], .tup [.int 15, .xb "Over"], .tup [.int 16, .xb "NoWatcher"]]
theorem bare_of : ∀ x ∈ bareL, ∃ (i : Nat) (c : String), x = .tup [.int i, .xb c] ∧ KL[i]? = some c := fun x hx => by
  simp only [bareL, List.mem_cons, List.not_mem_nil, or_false] at hx
  rcases hx with rfl | rfl | rfl | rfl | rfl | rfl
  · exact ⟨10, _, rfl, by decide⟩
  · exact ⟨11, _, rfl, by decide⟩
  · exact ⟨12, _, rfl, by decide⟩
  · exact ⟨13, _, rfl, by decide⟩
  · exact ⟨15, _, rfl, by decide⟩
  · exact ⟨16, _, rfl, by decide⟩
theorem LL3 : LL 3 ≤ sizeLine := by decide +kernel
theorem LL2 : LL 2 = 4800 := by decide +kernel
/-- repr of the list that the caught ones leave, of the one that is awaited -/
theorem rep_two {D : Dk} {G : DH} {x : DV} (h : VP D G 5 (LL 2) x) : ∃ s : Str, ∀ G' a, Ext D G G' → Kn D G' a (.lst [x, .bl true]) → ∀ P : DK, P (.str s) G' → dRepr [.ref a] G' P := by
  obtain ⟨p, h1, h2, h3⟩ := h
  refine ⟨PyData.shown (.list [p, .bool true]), fun G' a e kn P q => ⟨_, .list [p, .bool true], rfl, ?_, by simp [PyData.showable, PyData.showableAll, h1], ?_, q⟩⟩
  · unfold toRD
    rw [kn.2]
    dsimp only
    rw [omap2 (h3 59 (by decide) G' e) (show toRD G' 59 (.bl true) = some (.bool true) from rfl)]; rfl
  · have : (PyData.shown (.list [p, .bool true])).length = 1 + 0 + p.shown.length + 2 + 4 + 1 := by
      simp only [PyData.shown, PyData.shownAll, listText, textFrom]
      rw [strLen_append, strLen_append, strLen_append, strLen_append, strLen_append]; rfl
    rw [LL2] at h2
    have : sizeLine = 16777216 := rfl
    omega
abbrev S_law : DSp := fun ds G P EX => ∃ (s : DV) (ns : List Int), ds = [s] ∧ ns.length ≤ 63 ∧ (s = .lk (ns.map DV.int) ∨ ∃ a, s = .ref a ∧ G a = some (.lst (ns.map DV.int))) ∧ ∀ G', P (.bl true) G'
/-- what is done with one way's error -/
theorem law_turn {C : Nat → DSp} (h3 : Has C 3 S_made) (h5 : Has C 5 S_one) (h7 : Has C 7 S_borne) {EX : DXK} {D : Dk} {G0 G : DH} {Dn : DEnds} {i : Nat} {c f : String} {v : DV} {st : Str} {b : Bool} {s a3 a7 a8 a9 a10 : Option DV} {d : DV} (hw : ((i : Int), c, f) ∈ wayT) (hk : KL[i]? = some c)
    (rp : ∀ G', Ext D G0 G' → ∀ P : DK, P (.str st) G' → dRepr [v] G' P) (e0 : Ext D G0 G) (ok : okD D G)
    (k : ∀ a G', Ext D G G' → okD D G' → Dn.nx [s, some d, some (.int i), a3, some v, some (.str st), some (.bl b), a7, a, a9, a10] G') :
    denSs tabs C EX [
        .asg (.n 8) (.call "_law_made" 3 3 [.v 2, .v 4, .v 6]),
        .ifs (.or [.cmp .ne (.bf .repr [.call "_law_borne" 7 2 [.v 2, .v 8]]) (.v 5), .cmp .ne (.bf .repr [.v 4]) (.v 5), .not (.call "_law_is_one" 5 2 [.v 2, .v 8])]) [
          .ret (.bl false)] []] Dn [s, some d, some (.int i), a3, some v, some (.str st), some (.bl b), a7, a8, a9, a10] G := by
  ((first | rw [e_cons] | (dsimp only; rw [e_cons])); try simp only [dZ, boR, coR, bfD, bmD, bmT, wipeD, sizeLine, Nat.reduceAdd, Nat.reducePow, Nat.reduceLeDiff, reduceIte, String.reduceBEq])
  refine SP.use h3 ((i, c, f), v, b) ok ⟨hw, rfl⟩ fun w G1 e1 ok1 hv => ?_
  dsimp only at hv
  subst hv
  ((first | rw [e_cons] | (dsimp only; rw [e_cons])); try simp only [dZ, boR, coR, bfD, bmD, bmT, wipeD, sizeLine, Nat.reduceAdd, Nat.reducePow, Nat.reduceLeDiff, reduceIte, String.reduceBEq])
  refine SP.use h7 ((i, c, f), v) ok1 ⟨hw, rfl⟩ fun w G2 e2 ok2 hv => ?_
  dsimp only at hv
  subst hv
  refine rp G2 (e0.trans (e1.trans e2)) _ ?_
  refine o_neS ?_
  refine ⟨_, rfl, ?_⟩
  (try simp only [dZ, boR, coR, bfD, bmD, bmT, wipeD, sizeLine, Nat.reduceAdd, Nat.reducePow, Nat.reduceLeDiff, reduceIte, String.reduceBEq])
  refine rp G2 (e0.trans (e1.trans e2)) _ ?_
  refine o_neS ?_
  refine ⟨_, rfl, ?_⟩
  (try simp only [dZ, boR, coR, bfD, bmD, bmT, wipeD, sizeLine, Nat.reduceAdd, Nat.reducePow, Nat.reduceLeDiff, reduceIte, String.reduceBEq])
  refine SP.use h5 (i, c, .xo c f w) ok2 ⟨rfl, rfl, hk⟩ fun u G3 e3 ok3 hu => ?_
  subst hu
  (try simp only [dZ, boR, coR, bfD, bmD, bmT, wipeD, sizeLine, Nat.reduceAdd, Nat.reducePow, Nat.reduceLeDiff, reduceIte, String.reduceBEq])
  (first | (rw [e_nil]; try dsimp only) | (dsimp only; rw [e_nil]; try dsimp only))
  (first | (rw [e_nil]; try dsimp only) | (dsimp only; rw [e_nil]; try dsimp only))
  exact k _ _ (e1.trans (e2.trans e3)) ok3
theorem sv_law {C : Nat → DSp} (h1 : Has C 1 S_deck) (h2 : Has C 2 (S_value 2)) (h2' : Has C 2 (S_value 3)) (h3 : Has C 3 S_made) (h4 : Has C 4 S_caught) (h5 : Has C 5 S_one) (h6 : Has C 6 S_kinds) (h7 : Has C 7 S_borne) : Serves tabs C f_law S_law := fun ds G P EX hl ⟨s, ns, e, hn, hs, k⟩ => by
  subst e
  show denSs tabs C EX _ _ [some s, none, none, none, none, none, none, none, none, none, none] G
  rw [f_law]
  ((first | rw [e_cons] | (dsimp only; rw [e_cons])); try simp only [dZ, boR, coR, bfD, bmD, bmT, wipeD, sizeLine, Nat.reduceAdd, Nat.reducePow, Nat.reduceLeDiff, reduceIte, String.reduceBEq])
  refine SP.use h1 (s, ns) (D := none) trivial ⟨rfl, rfl, hs, hn⟩ fun v G1 _ _ ⟨d, l, hv, ok1⟩ => ?_
  subst hv
  ((first | rw [e_cons] | (dsimp only; rw [e_cons])); try simp only [dZ, boR, coR, bfD, bmD, bmT, wipeD, sizeLine, Nat.reduceAdd, Nat.reducePow, Nat.reduceLeDiff, reduceIte, String.reduceBEq])
  refine ⟨10, rfl, by decide, NewO.run ok1 fun p1 G2 e2 ok2 k2 _ => ?_⟩
  refine NewO.run ok2 fun p2 G3 e3 ok3 k3 _ => ?_
  refine o_addL (k2.mono e3).2 k3.2 (by show 11 ≤ sizeLine; decide) (NewO.run ok3 fun p3 G4 e4 ok4 k4 _ => ?_)
  refine ⟨wayL, it_kn k4 G4 (Ext.refl _ _), ?_⟩
  refine ForK.run (fun i τ' G' => ∃ a2 a4 a5 a6 a8, τ' = [some s, some (.ref d), a2, none, a4, a5, a6, none, a8, none, none] ∧ Ext (some (d, l)) G4 G' ∧ okD (some (d, l)) G') ⟨_, _, _, _, _, rfl, Ext.refl _ _, ok4⟩ (fun _ _ G' ⟨_, _, _, _, _, _, e', _⟩ => it_kn k4 G' e') (fun i τ' G5 x hx ⟨a2, a4, a5, a6, a8, eτ, e5, ok5⟩ => ?_) fun τ' G5 ⟨a2, a4, a5, a6, a8, eτ, e5, ok5⟩ => ?_
  · obtain ⟨w, c, f, rfl, hw, hk⟩ := way_of x (List.mem_of_getElem? hx)
    subst eτ
    (try simp only [dZ, boR, coR, bfD, bmD, bmT, wipeD, sizeLine, Nat.reduceAdd, Nat.reducePow, Nat.reduceLeDiff, reduceIte, String.reduceBEq])
    ((first | rw [e_cons] | (dsimp only; rw [e_cons])); try simp only [dZ, boR, coR, bfD, bmD, bmT, wipeD, sizeLine, Nat.reduceAdd, Nat.reducePow, Nat.reduceLeDiff, reduceIte, String.reduceBEq])
    refine SP.use h2' (d, l) ok5 ⟨rfl, rfl⟩ fun v G6 e6 ok6 hv => ?_
    obtain ⟨st, rp⟩ := hv.rep (by decide) LL3
    ((first | rw [e_cons] | (dsimp only; rw [e_cons])); try simp only [dZ, boR, coR, bfD, bmD, bmT, wipeD, sizeLine, Nat.reduceAdd, Nat.reducePow, Nat.reduceLeDiff, reduceIte, String.reduceBEq])
    refine rp G6 (Ext.refl _ _) _ ?_
    ((first | rw [e_cons] | (dsimp only; rw [e_cons])); try simp only [dZ, boR, coR, bfD, bmD, bmT, wipeD, sizeLine, Nat.reduceAdd, Nat.reducePow, Nat.reduceLeDiff, reduceIte, String.reduceBEq])
    refine ForK.run (fun i τ' G' => ∃ a6 a8, τ' = [some s, some (.ref d), some (.int w), none, some v, some (.str st), a6, none, a8, none, none] ∧ Ext (some (d, l)) G6 G' ∧ okD (some (d, l)) G') ⟨_, _, rfl, Ext.refl _ _, ok6⟩ (fun _ _ G' _ => trivial) (fun i2 τ2 G7 y hy ⟨b6, b8, eτ, e7, ok7⟩ => ?_) fun τ2 G7 ⟨b6, b8, eτ, e7, ok7⟩ => ?_
    · subst eτ
      have hb : ∃ b, y = .bl b := by
        have := List.mem_of_getElem? hy
        simp only [List.mem_cons, List.not_mem_nil, or_false] at this
        rcases this with rfl | rfl
        · exact ⟨_, rfl⟩
        · exact ⟨_, rfl⟩
      obtain ⟨b, rfl⟩ := hb
      (try simp only [dZ, boR, coR, bfD, bmD, bmT, wipeD, sizeLine, Nat.reduceAdd, Nat.reducePow, Nat.reduceLeDiff, reduceIte, String.reduceBEq])
      exact law_turn h3 h5 h7 hw hk rp e7 ok7 fun a G' e' ok' => ⟨_, _, rfl, e7.trans e', ok'⟩
    · subst eτ
      (first | (rw [e_nil]; try dsimp only) | (dsimp only; rw [e_nil]; try dsimp only))
      exact ⟨_, _, _, _, _, rfl, e5.trans (e6.trans e7), ok7⟩
  subst eτ
  ((first | rw [e_cons] | (dsimp only; rw [e_cons])); try simp only [dZ, boR, coR, bfD, bmD, bmT, wipeD, sizeLine, Nat.reduceAdd, Nat.reducePow, Nat.reduceLeDiff, reduceIte, String.reduceBEq])
  refine NewO.run ok5 fun pb G6 e6 ok6 kb _ => ?_
  ((first | rw [e_cons] | (dsimp only; rw [e_cons])); try simp only [dZ, boR, coR, bfD, bmD, bmT, wipeD, sizeLine, Nat.reduceAdd, Nat.reducePow, Nat.reduceLeDiff, reduceIte, String.reduceBEq])
  refine ⟨bareL, it_kn kb G6 (Ext.refl _ _), ?_⟩
  refine LcK.map (D := some (d, l)) (fun _ => .non) (fun _ => false) ok6 (by decide) (it_kn kb) (fun x hx => ?_) fun q1 G7 e7 ok7 kq1 _ => ?_
  · obtain ⟨i, c, rfl, hk⟩ := bare_of x hx
    (try simp only [dZ, boR, coR, bfD, bmD, bmT, wipeD, sizeLine, Nat.reduceAdd, Nat.reducePow, Nat.reduceLeDiff, reduceIte, String.reduceBEq])
    refine fun G8 e8 ok8 K1 K2 k1 k2 => SP.use h5 (i, c, .xb c) ok8 ⟨rfl, rfl, hk⟩ fun u G9 e9 ok9 hu => ?_
    subst hu
    (try simp only [dZ, boR, coR, bfD, bmD, bmT, wipeD, sizeLine, Nat.reduceAdd, Nat.reducePow, Nat.reduceLeDiff, reduceIte, String.reduceBEq])
    exact k2 G9 e9 ok9 trivial
  rw [List.filter_eq_nil_iff.mpr (fun _ _ => by simp), List.map_nil] at kq1
  refine NewO.run ok7 fun q2 G8 e8 ok8 kq2 _ => ?_
  refine o_ne0 (kq1.mono e8).2 kq2.2 ?_
  refine ⟨_, rfl, ?_⟩
  (try simp only [dZ, boR, coR, bfD, bmD, bmT, wipeD, sizeLine, Nat.reduceAdd, Nat.reducePow, Nat.reduceLeDiff, reduceIte, String.reduceBEq])
  (first | (rw [e_nil]; try dsimp only) | (dsimp only; rw [e_nil]; try dsimp only))
  ((first | rw [e_cons] | (dsimp only; rw [e_cons])); try simp only [dZ, boR, coR, bfD, bmD, bmT, wipeD, sizeLine, Nat.reduceAdd, Nat.reducePow, Nat.reduceLeDiff, reduceIte, String.reduceBEq])
  refine SP.use h2 (d, l) ok8 ⟨rfl, rfl⟩ fun v G9 e9 ok9 hv => ?_
  ((first | rw [e_cons] | (dsimp only; rw [e_cons])); try simp only [dZ, boR, coR, bfD, bmD, bmT, wipeD, sizeLine, Nat.reduceAdd, Nat.reducePow, Nat.reduceLeDiff, reduceIte, String.reduceBEq])
  refine SP.use h6 ("CircleError", .xb "CircleError") ok9 ⟨rfl, rfl, by decide⟩ fun u G10 e10 ok10 ⟨p10, hu, k10⟩ => ?_
  subst hu
  dsimp only at k10
  refine ⟨_, it_kn k10 G10 (Ext.refl _ _), ?_⟩
  have e17 : kB "CircleError" KL = List.replicate 17 (.bl false) := by kernel_rfl
  refine LcK.map (D := some (d, l)) (fun _ => .non) (fun _ => false) ok10 (by rw [e17]; decide) (it_kn k10) (fun x hx => ?_) fun q3 G11 e11 ok11 kq3 _ => ?_
  · rw [e17] at hx
    obtain rfl := List.eq_of_mem_replicate hx
    (try simp only [dZ, boR, coR, bfD, bmD, bmT, wipeD, sizeLine, Nat.reduceAdd, Nat.reducePow, Nat.reduceLeDiff, reduceIte, String.reduceBEq])
    exact fun G12 e12 ok12 K1 K2 k1 k2 => k2 G12 (Ext.refl _ _) ok12 trivial
  rw [List.filter_eq_nil_iff.mpr (fun _ _ => by simp), List.map_nil] at kq3
  refine NewO.run ok11 fun q4 G12 e12 ok12 kq4 _ => ?_
  refine o_ne0 (kq3.mono e12).2 kq4.2 ?_
  refine ⟨_, rfl, ?_⟩
  (try simp only [dZ, boR, coR, bfD, bmD, bmT, wipeD, sizeLine, Nat.reduceAdd, Nat.reducePow, Nat.reduceLeDiff, reduceIte, String.reduceBEq])
  refine ⟨"CircleError", rfl, by decide, ?_⟩
  rw [if_neg (by decide)]
  (first | (rw [e_nil]; try dsimp only) | (dsimp only; rw [e_nil]; try dsimp only))
  ((first | rw [e_cons] | (dsimp only; rw [e_cons])); try simp only [dZ, boR, coR, bfD, bmD, bmT, wipeD, sizeLine, Nat.reduceAdd, Nat.reducePow, Nat.reduceLeDiff, reduceIte, String.reduceBEq])
  refine ⟨"CircleError", rfl, by decide, ?_⟩
  rw [if_neg (by decide)]
  (first | (rw [e_nil]; try dsimp only) | (dsimp only; rw [e_nil]; try dsimp only))
  ((first | rw [e_cons] | (dsimp only; rw [e_cons])); try simp only [dZ, boR, coR, bfD, bmD, bmT, wipeD, sizeLine, Nat.reduceAdd, Nat.reducePow, Nat.reduceLeDiff, reduceIte, String.reduceBEq])
  obtain ⟨st, rp⟩ := rep_two hv
  refine h4 _ _ _ _ ⟨v, rfl, fun l0 hl0 => ?_⟩
  have e13 : Ext (some (d, l)) G12 (updD G12 l0 (.lst [v, .bl true])) := Ext.new ok12 hl0
  have ok13 : okD (some (d, l)) (updD G12 l0 (.lst [v, .bl true])) := ok12.upd (ok12.notIn hl0)
  have kn13 : Kn (some (d, l)) (updD G12 l0 (.lst [v, .bl true])) l0 (.lst [v, .bl true]) := Kn.new ok12 hl0
  have ee := e10.trans (e11.trans (e12.trans e13))
  refine rp _ l0 ee kn13 _ ?_
  refine NewO.run ok13 fun p14 G14 e14 ok14 k14 _ => ?_
  refine rp _ p14 (ee.trans e14) k14 _ ?_
  refine o_eqS ?_
  rw [decide_eq_true rfl]
  exact k G14
end DL
end
section
set_option Elab.async false
set_option linter.all false
set_option maxRecDepth 100000
set_option autoImplicit false
set_option maxHeartbeats 1000000
namespace DL
open PySem PySem.Spec PyProof.Rows L2
def lv (k : Nat) (S : DSp) (n : Nat) : DSp := fun ds G P EX => k ≤ n ∧ S ds G P EX
def lvr (k : Nat) (S : Nat → DSp) (n : Nat) : DSp := fun ds G P EX => ∃ dep, k + dep ≤ n ∧ S dep ds G P EX
theorem serves_lv {T : GT} {C : Nat → DSp} {d : FD} {k n : Nat} {S : DSp} (h : k ≤ n → Serves T C d S) : Serves T C d (lv k S n) := fun ds G P EX hl ⟨hk, hs⟩ => h hk ds G P EX hl hs
theorem serves_lvr {T : GT} {C : Nat → DSp} {d : FD} {k n : Nat} {S : Nat → DSp} (h : ∀ dep, k + dep ≤ n → Serves T C d (S dep)) : Serves T C d (lvr k S n) := fun ds G P EX hl ⟨dep, hk, hs⟩ => h dep hk ds G P EX hl hs
theorem hand_false {D : PT} {C : Nat → DSp} {d : FD × Loc1} : HandOk D C d (fun _ _ _ _ => False) := fun j P w K mg base fd O KX GB g F =>
  ⟨fun vs H Q E ⟨_, _, _, _, _, _, _, p, _⟩ => p.elim, fun A outer s H args us vs Q E _ _ _ _ _ ⟨_, _, _, _, _, _, _, p, _⟩ => p.elim⟩
theorem hand_imp {D : PT} {C : Nat → DSp} {d : FD × Loc1} {S S' : DSp} (h : HandOk D C d S) (i : ∀ ds G P EX, S' ds G P EX → S ds G P EX) : HandOk D C d S' := fun j P w K mg base fd O KX GB g F => by
  have f := h j P w K mg base fd O KX GB g F
  exact ⟨fun vs H Q E ⟨ds, G, P, EX, a, b, c, p, q⟩ => f.len vs H Q E ⟨ds, G, P, EX, a, b, c, i _ _ _ _ p, q⟩, fun A outer s H args us vs Q E h1 h2 h3 h4 h5 ⟨ds, G, P, EX, a, b, c, p, q⟩ => f.run A outer s H args us vs Q E h1 h2 h3 h4 h5 ⟨ds, G, P, EX, a, b, c, i _ _ _ _ p, q⟩⟩
/-- the specs by levels -/
def CC (n f : Nat) : DSp := match f with
  | 0 => lv 8 S_law n
  | 1 => lv 1 S_deck n
  | 2 => lvr 3 S_value n
  | 3 => lv 1 S_made n
  | 4 => lv 1 S_caught n
  | 5 => lv 2 S_one n
  | 6 => lv 1 S_kinds n
  | 7 => lv 1 S_borne n
  | 8 => lv 2 S_pick n
  | 9 => lv 1 S_draw n
  | _ => fun _ _ _ _ => False
theorem cc0 (n : Nat) : CC n 0 = lv 8 S_law n := rfl
theorem cc1 (n : Nat) : CC n 1 = lv 1 S_deck n := rfl
theorem cc2 (n : Nat) : CC n 2 = lvr 3 S_value n := rfl
theorem cc3 (n : Nat) : CC n 3 = lv 1 S_made n := rfl
theorem cc4 (n : Nat) : CC n 4 = lv 1 S_caught n := rfl
theorem cc5 (n : Nat) : CC n 5 = lv 2 S_one n := rfl
theorem cc6 (n : Nat) : CC n 6 = lv 1 S_kinds n := rfl
theorem cc7 (n : Nat) : CC n 7 = lv 1 S_borne n := rfl
theorem cc8 (n : Nat) : CC n 8 = lv 2 S_pick n := rfl
theorem cc9 (n : Nat) : CC n 9 = lv 1 S_draw n := rfl
theorem has0 {n : Nat} (h : 8 ≤ n) : Has (CC n) 0 S_law := fun ds G P EX q => by rw [cc0]; exact ⟨h, q⟩
theorem has1 {n : Nat} (h : 1 ≤ n) : Has (CC n) 1 S_deck := fun ds G P EX q => by rw [cc1]; exact ⟨h, q⟩
theorem has2 {n : Nat} (m : Nat) (h : 3 + m ≤ n) : Has (CC n) 2 (S_value m) := fun ds G P EX q => by rw [cc2]; exact ⟨m, h, q⟩
theorem has3 {n : Nat} (h : 1 ≤ n) : Has (CC n) 3 S_made := fun ds G P EX q => by rw [cc3]; exact ⟨h, q⟩
theorem has4 {n : Nat} (h : 1 ≤ n) : Has (CC n) 4 S_caught := fun ds G P EX q => by rw [cc4]; exact ⟨h, q⟩
theorem has5 {n : Nat} (h : 2 ≤ n) : Has (CC n) 5 S_one := fun ds G P EX q => by rw [cc5]; exact ⟨h, q⟩
theorem has6 {n : Nat} (h : 1 ≤ n) : Has (CC n) 6 S_kinds := fun ds G P EX q => by rw [cc6]; exact ⟨h, q⟩
theorem has7 {n : Nat} (h : 1 ≤ n) : Has (CC n) 7 S_borne := fun ds G P EX q => by rw [cc7]; exact ⟨h, q⟩
theorem has8 {n : Nat} (h : 2 ≤ n) : Has (CC n) 8 S_pick := fun ds G P EX q => by rw [cc8]; exact ⟨h, q⟩
theorem has9 {n : Nat} (h : 1 ≤ n) : Has (CC n) 9 S_draw := fun ds G P EX q => by rw [cc9]; exact ⟨h, q⟩
theorem lev0 (n : Nat) : Serves tabs (CC n) f_law (CC (n + 1) 0) := by rw [cc0]; exact serves_lv fun hk => sv_law (has1 (by omega)) (has2 2 (by omega)) (has2 3 (by omega)) (has3 (by omega)) (has4 (by omega)) (has5 (by omega)) (has6 (by omega)) (has7 (by omega))
theorem lev1 (n : Nat) : Serves tabs (CC n) f_law_deck (CC (n + 1) 1) := by rw [cc1]; exact serves_lv fun hk => sv_deck
theorem lev2 (n : Nat) : Serves tabs (CC n) f_law_value (CC (n + 1) 2) := by rw [cc2]; exact serves_lvr fun dep hk => sv_value dep (has9 (by omega)) (has8 (by omega)) (fun m hm => has2 m (by omega))
theorem lev3 (n : Nat) : Serves tabs (CC n) f_law_made (CC (n + 1) 3) := by rw [cc3]; exact serves_lv fun hk => sv_made
theorem lev4 (n : Nat) : HandOk pt (CC n) (f_law_caught, lc (Str.ofString "_law_caught") none) (CC (n + 1) 4) := by rw [cc4]; exact hand_imp hand_caught fun _ _ _ _ q => q.2
theorem lev5 (n : Nat) : Serves tabs (CC n) f_law_is_one (CC (n + 1) 5) := by rw [cc5]; exact serves_lv fun hk => sv_one (has6 (by omega))
theorem lev6 (n : Nat) : Serves tabs (CC n) f_law_kinds_of (CC (n + 1) 6) := by rw [cc6]; exact serves_lv fun hk => sv_kinds
theorem lev7 (n : Nat) : Serves tabs (CC n) f_law_borne (CC (n + 1) 7) := by rw [cc7]; exact serves_lv fun hk => sv_borne
theorem lev8 (n : Nat) : Serves tabs (CC n) f_law_pick (CC (n + 1) 8) := by rw [cc8]; exact serves_lv fun hk => sv_pick (has9 (by omega))
theorem lev9 (n : Nat) : Serves tabs (CC n) f_law_draw (CC (n + 1) 9) := by rw [cc9]; exact serves_lv fun hk => sv_draw
theorem lev_d : ∀ (n f : Nat) (d : FD × Loc1), pt.ds[f]? = some d → d.1.hand = false → Serves pt.T (CC n) d.1 (CC (n + 1) f)
  | n, 0, d, h, _ => by have e : some (f_law, lc "law" none) = some d := h; cases e; exact lev0 n
  | n, 1, d, h, _ => by have e : some (f_law_deck, lc "_law_deck" none) = some d := h; cases e; exact lev1 n
  | n, 2, d, h, _ => by have e : some (f_law_value, lc "_law_value" none) = some d := h; cases e; exact lev2 n
  | n, 3, d, h, _ => by have e : some (f_law_made, lc "_law_made" none) = some d := h; cases e; exact lev3 n
  | n, 4, d, h, hh => by have e : some (f_law_caught, lc "_law_caught" none) = some d := h; cases e; cases hh
  | n, 5, d, h, _ => by have e : some (f_law_is_one, lc "_law_is_one" none) = some d := h; cases e; exact lev5 n
  | n, 6, d, h, _ => by have e : some (f_law_kinds_of, lc "_law_kinds_of" none) = some d := h; cases e; exact lev6 n
  | n, 7, d, h, _ => by have e : some (f_law_borne, lc "_law_borne" none) = some d := h; cases e; exact lev7 n
  | n, 8, d, h, _ => by have e : some (f_law_pick, lc "_law_pick" none) = some d := h; cases e; exact lev8 n
  | n, 9, d, h, _ => by have e : some (f_law_draw, lc "_law_draw" none) = some d := h; cases e; exact lev9 n
  | n, 10, d, h, hh => by have e : some (f_TooMany___init__, lc "TooMany" (some "__init__")) = some d := h; cases e; cases hh
  | n, 11, d, h, hh => by have e : some (f_BadBook___init__, lc "BadBook" (some "__init__")) = some d := h; cases e; cases hh
  | n, 12, d, h, hh => by have e : some (f_BadThing___init__, lc "BadThing" (some "__init__")) = some d := h; cases e; cases hh
  | n, 13, d, h, hh => by have e : some (f_BadRow___init__, lc "BadRow" (some "__init__")) = some d := h; cases e; cases hh
  | n, 14, d, h, hh => by have e : some (f_BadText___init__, lc "BadText" (some "__init__")) = some d := h; cases e; cases hh
  | n, 15, d, h, hh => by have e : some (f_NotHad___init__, lc "NotHad" (some "__init__")) = some d := h; cases e; cases hh
  | n, 16, d, h, hh => by have e : some (f_Mismatch___init__, lc "Mismatch" (some "__init__")) = some d := h; cases e; cases hh
  | n, 17, d, h, hh => by have e : some (f_BadCircle___init__, lc "BadCircle" (some "__init__")) = some d := h; cases e; cases hh
  | n, 18, d, h, hh => by have e : some (f_NoDeed___init__, lc "NoDeed" (some "__init__")) = some d := h; cases e; cases hh
  | n, 19, d, h, hh => by have e : some (f_Kept___init__, lc "Kept" (some "__init__")) = some d := h; cases e; cases hh
  | n, 20, d, h, hh => by have e : some (f_NotOpen___init__, lc "NotOpen" (some "__init__")) = some d := h; cases e; cases hh
  | n, f + 21, d, h, _ => by have e : (none : Option (FD × Loc1)) = some d := h; cases e
theorem lev_h : ∀ (n f : Nat) (d : FD × Loc1), pt.ds[f]? = some d → d.1.hand = true → HandOk pt (CC n) d (CC (n + 1) f)
  | n, 0, d, h, hh => by have e : some (f_law, lc "law" none) = some d := h; cases e; cases hh
  | n, 1, d, h, hh => by have e : some (f_law_deck, lc "_law_deck" none) = some d := h; cases e; cases hh
  | n, 2, d, h, hh => by have e : some (f_law_value, lc "_law_value" none) = some d := h; cases e; cases hh
  | n, 3, d, h, hh => by have e : some (f_law_made, lc "_law_made" none) = some d := h; cases e; cases hh
  | n, 4, d, h, _ => by have e : some (f_law_caught, lc (Str.ofString "_law_caught") none) = some d := h; cases e; exact lev4 n
  | n, 5, d, h, hh => by have e : some (f_law_is_one, lc "_law_is_one" none) = some d := h; cases e; cases hh
  | n, 6, d, h, hh => by have e : some (f_law_kinds_of, lc "_law_kinds_of" none) = some d := h; cases e; cases hh
  | n, 7, d, h, hh => by have e : some (f_law_borne, lc "_law_borne" none) = some d := h; cases e; cases hh
  | n, 8, d, h, hh => by have e : some (f_law_pick, lc "_law_pick" none) = some d := h; cases e; cases hh
  | n, 9, d, h, hh => by have e : some (f_law_draw, lc "_law_draw" none) = some d := h; cases e; cases hh
  | n, 10, d, h, _ => hand_false
  | n, 11, d, h, _ => hand_false
  | n, 12, d, h, _ => hand_false
  | n, 13, d, h, _ => hand_false
  | n, 14, d, h, _ => hand_false
  | n, 15, d, h, _ => hand_false
  | n, 16, d, h, _ => hand_false
  | n, 17, d, h, _ => hand_false
  | n, 18, d, h, _ => hand_false
  | n, 19, d, h, _ => hand_false
  | n, 20, d, h, _ => hand_false
  | n, f + 21, d, h, _ => by have e : (none : Option (FD × Loc1)) = some d := h; cases e
theorem lev_z : ∀ (f : Nat) (ds : List DV) (G : DH) (P : DK) (EX : DXK), ¬ CC 0 f ds G P EX := fun f ds G P EX h => by
  unfold CC at h
  split at h
  all_goals first
    | exact absurd h.1 (by decide)
    | (obtain ⟨dep, h1, _⟩ := h; omega)
    | exact h
theorem lev_l : ∀ (n i : Nat) (d : LD), pt.ls[i]? = some d → ServesL pt.T (CC n) d (CC (n + 1) (pt.ds.length + i))
  | n, i, d, h => by have e : (none : Option LD) = some d := h; cases e
theorem lev_all : Lev pt CC := ⟨lev_z, lev_d, lev_h, lev_l⟩
end DL
end
section
set_option Elab.async false
set_option maxRecDepth 100000
open PySem PySem.W PySem.Calls PyProof.Rows DL
theorem PySem.Challenge.cw_circlewatch_k01_errors_holds : PySem.Challenge.rw_circlewatch_k01_errors.Holds :=
  k01_of (C := CC) (lev := 8) lev_all ⟨rfl, by decide, by decide⟩ fun ns G s hl _ hs => ⟨Nat.le_refl 8, s, ns, rfl, hl, hs, fun _ => rfl⟩
end
