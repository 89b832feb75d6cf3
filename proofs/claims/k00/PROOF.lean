import PyProof.Rows.All
import HandS.ForMost
import HandS.More
import HandS.Style
import HandS.TupMul
import HandS.Zip
import HandS.Iter
import KE.KDictPairs
import HandS.TupAny
import PyProof.StrOps2
import KE.GoesEnum
import KE.KDictZip
import KE.KItemsList
import KE.GoesZip
import HandS.ListItems
import KE.GoesMore
import HandS.Lambda
import HandS.Nested
import HandS.Flow
import HandS.TupLe
import HandS.Defaults
import HandS.Exc
import HandS.ExcOwn
import HandS.HeadHook2
import HandS.IsInst
import HandS.DictComp
import HandS.CallLocal
import HandS.WordsDict
import HandS.Base
import HandS.Call
import HandS.Codes
import HandS.HeadHook1
import HandS.HeadHook3
import HandS.HeadHook4
import KE.KNestM
import HandS.EndTab
import HandS.HeadWalk
import PySem.Challenge.RW_circlewatch_k00_watchers_of_any_value
import KE.KStateDown
import HandS.Head0
import HandS.Head1
import HandS.Head2
import HandS.HeadEnd
section
set_option Elab.async false
set_option linter.all false
set_option maxRecDepth 100000
set_option autoImplicit false
/-! more rules of the hand layer -/
namespace L2
open PySem PySem.Spec PyProof.Rows
/-! a tuple's display, the object known -/
def tXTup (t : TA) : TE := fun σ H Q => t σ H fun xs H1 => xs.length ≤ sizeLine ∧ ∀ (p : Addr) (o : Obj), H1 p = none → o.dict = none → Q (.ref p) (upd H1 p (.frz o (.tup xs)))
theorem pe_xtup {X : Cx} {es : List Expr} {t : TA} {k : Nat} {pos : Pos} (h : PA X es t) : PE X (.Tuple es k pos) (tXTup t) := by
  refine ⟨fun pins s σ H Q I hq => ?_⟩
  refine wpAny_Tuple_spliced (thn (h.run pos pins s σ H _ I hq) fun us s1 ⟨xs, H1, I1, r, z, q⟩ => ⟨by rw [← r.length]; exact z, ?_⟩)
  have hf : H1 s1.heap.objs.size = none := I1.hok.fresh (Nat.le_refl _)
  refine ⟨.ref s1.heap.objs.size, upd H1 s1.heap.objs.size (.frz { cls := .type "tuple", data := .seq us.toArray } (.tup xs)), I1.laid (t' := s1.toks) (fun b u e => Heap.get?_push_of_some _ e) (Nat.le_refl _) ?_, rfl, q _ _ hf rfl⟩
  exact ⟨Heap.get?_push_size _ rfl, z, us, r, ⟨_, Heap.get?_push_size _ rfl, rfl, _, rfl⟩⟩
/-! dict(a tuple of pairs), the tuple known -/
theorem raws_of {X : Cx} {pins : List (Addr × Obj)} {σ : St} {H : Hp} {s : Shared} (I : Inv X pins σ H s) : ∀ {ps : List Addr} {kvs : List (Key × V)}, Paired (fun p kv => SqT X.K H p [kV kv.1, kv.2]) ps kvs →
    ∃ (raws : List (Value × Value)) (prs : List (Key × Value)), KV kvs prs ∧ raws.length = ps.length ∧ prs.length = ps.length ∧ ∀ (j : Nat) (u y : Value), raws[j]? = some (u, y) → (∃ p, ps[j]? = some p ∧ IsTup s.heap p #[u, y]) ∧ ∃ k, prs[j]? = some (k, y) ∧ (mixKind X.prog X.w).is k u = true
  | _, _, .nil => ⟨[], [], .nil, rfl, rfl, fun j u y e => by simp at e⟩
  | _, _, .cons (a := p) (b := kv) h t => by
    obtain ⟨raws, prs, r, hl, hl2, hp⟩ := raws_of I t
    obtain ⟨its, rv, ht, _⟩ := I.tuple h
    obtain ⟨u, y, ei, ru, ry⟩ := vals2 rv
    subst ei
    refine ⟨(u, y) :: raws, (kv.1, y) :: prs, .cons ⟨rfl, ry⟩ r, by rw [List.length_cons, List.length_cons, hl], by rw [List.length_cons, List.length_cons, hl2], fun j u' y' e => ?_⟩
    cases j with
    | zero =>
      have e' : (u, y) = (u', y') := Option.some.inj e
      cases e'
      exact ⟨⟨p, rfl, ht⟩, kv.1, rfl, kV_is ru⟩
    | succ j =>
      obtain ⟨⟨b, e1, e2⟩, k, e3, e4⟩ := hp j u' y' (by simpa using e)
      exact ⟨⟨b, by simpa using e1, e2⟩, k, by simpa using e3, e4⟩
theorem call_dictX {X : Cx} (hcalm : X.calm = true) : CallR X (.type "dict") (fun xs H Q => ∃ (a : Addr) (o : Obj) (ps : List Addr) (kvs : List (Key × V)), xs = [.ref a] ∧ H a = some (.frz o (.tup (ps.map V.ref))) ∧ o.dict = none ∧ Paired (fun p kv => SqT X.K H p [kV kv.1, kv.2]) ps kvs ∧
    ∀ p, H p = none → Q (.ref p) (upd H p (.dK (mergeK [] kvs)))) := by
  intro pins s σ H xs us Q I r q
  obtain ⟨a, o, ps, kvs, ex, hq, hd, hp, q⟩ := q
  subst ex
  obtain ⟨u, eu, rx⟩ := vals1 r
  subst eu
  cases rx
  obtain ⟨ho, hz, its, rv, ⟨o', ho', hc, n, hdat⟩⟩ := (show ObjOk X.prog X.w H s.heap a (.frz o (.tup (ps.map V.ref))) from I.hok a _ hq)
  rw [ho] at ho'
  cases ho'
  have ei := refs_at rv
  subst ei
  rw [List.length_map] at hz
  obtain ⟨raws, prs, rel, hl, hl2, hpr⟩ := raws_of I hp
  have ok : PlainSeq "tuple" s.heap a (ps.map Value.ref).toArray ∧ PairItems s.heap (ps.map Value.ref).toArray (fun j => ps.getD j 0) raws := by
    refine ⟨⟨o, n, ho, hc, hd, hdat⟩, by simp [hl], fun j k v e => ?_⟩
    obtain ⟨⟨p, e1, e2⟩, _⟩ := hpr j k v e
    have e3 : ps.getD j 0 = p := by simp [List.getD, e1]
    dsimp only
    rw [e3]
    exact ⟨by simp [e1], .inl e2⟩
  refine PySem.call_dict_pairs (knd := mixKind X.prog X.w) (kvs := prs) (PairArg.tuple a (ps.map Value.ref).toArray (fun j => ps.getD j 0) raws) (I.ok.hd hcalm) ok ⟨by rw [hl, hl2], fun i key v e => (hpr i key v e).2⟩ (by rw [hl]; exact hz) fun h' tk hd' k => ?_
  have hm : (s.heap.objs.size == sysModules) = false := beq_eq_false_iff_ne.mpr (Nat.ne_of_gt I.big)
  have hlen : (mergeK [] kvs).length ≤ sizeLine := by
    refine Nat.le_trans (length_mergeK kvs []) ?_
    rw [List.length_nil, Nat.zero_add, rel.length, hl2]
    exact hz
  exact ⟨.ref s.heap.objs.size, upd H s.heap.objs.size (.dK (mergeK [] kvs)), I.laid (t' := tk) (fun b o e => k b o (by simp) e) (Nat.le_refl _) (show ObjOk X.prog X.w _ _ _ (.dK (mergeK [] kvs)) from ⟨hlen, hm, merged [] prs, KV.merge rel .nil, hd'⟩), rfl, q _ (I.hok.fresh (Nat.le_refl _))⟩
/-! d.get(text), d a dict of the written part -/
def tKget (K : PySem.W.Frag) (d : Addr) (te : TE) : TE := fun σ H Q => te σ H fun y H1 => ∃ z r, y = V.str z ∧ PySem.W.nsIn K d z = some r ∧ (r = none → Q .non H1) ∧ ∀ u, r = some u → ∃ v, RelV v u ∧ Q v H1
theorem pe_kget {X : Cx} {d : Addr} {es : Array DictEntry} {n : Nat} {o e : Expr} {te : TE} {apos cpos : Pos} (D : KDict X.K X.w d es n) (ho : PE X o (tC (.ref d))) (he : PE X e te)
    (hbase : attributeBase o "get" X.env (eval o X.env) = eval o X.env)
    (hfew : ((backTo cpos (starEach [e] X.env)).all (fun x => !x.1) && (backToKw cpos (keywordEach [] X.env)).all (fun x => x.1.isSome)
      && decide ([e].length + ([] : List Keyword).length + (if ([] : List Keyword).isEmpty then 0 else 1) < 30)) = true)
    (hline : (apos.endLine == cpos.line) = true) (hs : starEach [e] X.env = (false, eval e X.env) :: starEach [] X.env) : PE X (.Call (.Attribute o "get" apos) [e] [] cpos) (tKget X.K d te) := by
  refine ⟨fun pins s σ H Q I h => ?_⟩
  refine wpAny_Call_method_late hbase hfew hline rfl (thn (ho.run pins s σ H (fun x H1 => x = .ref d ∧ H1 = H) I ⟨rfl, rfl⟩) fun v s1 ⟨x, H1, I1, r1, ex, eH⟩ => ?_)
  subst ex eH
  obtain rfl : v = Value.ref d := r1
  refine ⟨"dict", "dict.get", PySem.F.plainAttrs_dict, PySem.F.slot_dict_get, PySem.F.type_dict_get, kd_type D I1, fun a e => ?_, ?_⟩
  · cases e
    exact ⟨_, I1.kIn _ _ D.at_, rfl⟩
  · rw [hs]
    refine Calls.callWith_builtin rfl (Calls.evalArgs_plain (Calls.spliced_cons (thn (he.run pins s1 σ H1 _ I1 h) fun iv s2 ⟨y, H2, I2, ry, z, r, ey, en, q1, q2⟩ => Calls.spliced_nil ?_)))
    subst ey
    obtain ⟨t, rfl⟩ := ry
    refine call_meetsIn PySem.F.slot_dict_get (kd_type D I2) PySem.F.entry_dict_get (PySem.F.args_dict_get_2 _ _) (meets_dict_get (PySem.strKind X.prog X.w) d (PySem.strKind_is X.prog X.w z t) D.low) ⟨_, PySem.W.mapOf_K (prog := X.prog) I2.kIn D.at_ D.lit, ?_⟩
    rw [PySem.W.find_K D.at_ en]
    cases r with
    | none => exact ⟨.non, H2, I2.tok _, rfl, q1 rfl⟩
    | some u =>
      obtain ⟨v, rv, q3⟩ := q2 u rfl
      exact ⟨v, H2, I2.tok _, rv, q3⟩
/-! f(e, .., k = v, ..) -/
def pmV {α : Type} (pm : List Nat) (us ws : List α) : List α := us ++ pm.filterMap fun j => ws[j]?
theorem Vals.pm {vs zs : List V} {us ws : List Value} (r : Vals vs us) (rz : Vals zs ws) : ∀ pm : List Nat, Vals (pmV pm vs zs) (pmV pm us ws) := fun pm => by
  refine r.append ?_
  induction pm with
  | nil => exact .nil
  | cons j pm ih =>
    rw [List.filterMap_cons, List.filterMap_cons]
    by_cases hj : j < zs.length
    · have e1 : zs[j]? = some zs[j] := List.getElem?_eq_getElem hj
      obtain ⟨u, hu, ru⟩ := rz.get e1
      rw [e1, hu]
      exact .cons ru ih
    · rw [List.getElem?_eq_none (by omega), List.getElem?_eq_none (by rw [← rz.length]; omega)]
      exact ih
section
variable {X : Cx} {CX : CXT} {k : Nat} {f : Addr} {fd : FuncData} {ps ks : List Str} {sp : Sp} {E : XK} {x : Str} {p pos : Pos} {e : Expr} {es : List Expr} {kws : List Keyword} {t tk : TA} {pm : List Nat} {m : Nat}
def tCallKN (m l : Nat) (pm : List Nat) (sp : Sp) (E : XK) (t tk : TA) : TE := fun σ H Q => t σ H fun vs H1 => tk σ H1 fun zs H2 => vs.length = m ∧ zs.length = l ∧ sp (pmV pm vs zs) H2 Q E
theorem run_fnKN {pins : List (Addr × Obj)} {σ : St} {H : Hp} {s : Shared} {Q : VK} {us ws : List Value} {vs zs : List V} (F : FnOk X.prog X.w X.K X.mg X.base CX k f fd ps sp) (hr : Room k X.A) (hb : ∀ (s : Shared) (us ws : List Value), us.length = m → ws.length = ks.length → BindsTo s fd ⟨us, ks.zip ws⟩ (ps.zip (pmV pm us ws))) (hx : Passes CX X E)
    (I : Inv X pins σ H s) (r : Vals vs us) (rz : Vals zs ws) (l1 : vs.length = m) (l2 : zs.length = ks.length) (h : sp (pmV pm vs zs) H Q E) : wpAny (model X.prog X.w) X.A (call (.ref f) us (ks.zip ws)) (EP X pins σ Q) X.xe s := by
  have r2 := r.pm rz pm
  refine wpAny_call (codeAny_mono (F.run X.A X.stack s H ⟨us, ks.zip ws⟩ (pmV pm us ws) (pmV pm vs zs) Q E hr I.env0 (hb s us ws (by rw [← r.length]; exact l1) (by rw [← rz.length]; exact l2)) r2 h) fun r s' hq => ?_)
  cases r with
  | error e => exact hx pins σ H s e s' I hq
  | ok fl =>
    cases fl with
    | ret u => exact I.after hq
    | next => exact False.elim hq
    | brk => exact False.elim hq
    | cont => exact False.elim hq
theorem pe_callKN (F : FnOk X.prog X.w X.K X.mg X.base CX k f fd ps sp) (hr : Room k X.A) (hg : Gl X x) (hm : X.mg x = some (.ref f)) (hk : PySem.W.keepIn X.K (.ref f) = true) (hb : ∀ (s : Shared) (us ws : List Value), us.length = m → ws.length = ks.length → BindsTo s fd ⟨us, ks.zip ws⟩ (ps.zip (pmV pm us ws))) (hx : Passes CX X E)
    (ha : PA X (e :: es) t) (hkw : PK X kws tk) (hall : (backToKw pos (keywordEach kws X.env)).all (·.1.isSome) = true) (hks : (backToKw pos (keywordEach kws X.env)).filterMap (·.1) = ks)
    (hdb : (x == ("__debug__" : Str)) = false) (he : starEach (e :: es) X.env = (false, eval e X.env) :: starEach es X.env)
    (hpl : ((backTo pos (starEach (e :: es) X.env)).any (·.1) || (backToKw pos (keywordEach kws X.env)).any (·.1.isNone)) = false) :
    PE X (.Call (.Name x p) (e :: es) kws pos) (tCallKN m ks.length pm sp E t tk) := by
  refine ⟨fun pins s σ H Q I h => ?_⟩
  refine wpAny_Call_Name_kw (ld_glob I hg hm ?_ hdb)
  refine PySem.W.callWith_KW (h₀ := X.base) I.ok.mod.kin hk hall (thn (ha.run pos pins s σ H _ I h) fun us s1 ⟨vs, H1, I1, r, q⟩ => ?_) hpl he
  refine thn (hkw.run pos pins s1 σ H1 _ I1 q) fun ws s2 ⟨zs, H2, I2, rz, l1, l2, q2⟩ => ⟨I2.kIn, ?_⟩
  rw [hks]
  exact run_fnKN F hr hb hx I2 r rz l1 l2 q2
theorem pe_callKN0 (F : FnOk X.prog X.w X.K X.mg X.base CX k f fd ps sp) (hr : Room k X.A) (hg : Gl X x) (hm : X.mg x = some (.ref f)) (hk : PySem.W.keepIn X.K (.ref f) = true) (hb : ∀ (s : Shared) (us ws : List Value), us.length = m → ws.length = ks.length → BindsTo s fd ⟨us, ks.zip ws⟩ (ps.zip (pmV pm us ws))) (hx : Passes CX X E)
    (hkw : PK X kws tk) (hall : (backToKw pos (keywordEach kws X.env)).all (·.1.isSome) = true) (hks : (backToKw pos (keywordEach kws X.env)).filterMap (·.1) = ks)
    (hdb : (x == ("__debug__" : Str)) = false) (hpl : ((backTo pos (starEach [] X.env)).any (·.1) || (backToKw pos (keywordEach kws X.env)).any (·.1.isNone)) = false) :
    PE X (.Call (.Name x p) [] kws pos) (tCallKN m ks.length pm sp E tNil tk) := by
  refine ⟨fun pins s σ H Q I h => ?_⟩
  refine wpAny_Call_Name_kw (ld_glob I hg hm ?_ hdb)
  refine PySem.W.callWith_KW0 (h₀ := X.base) I.ok.mod.kin hk hall ?_ hpl
  refine thn (hkw.run pos pins s σ H _ I h) fun ws s2 ⟨zs, H2, I2, rz, l1, l2, q2⟩ => ⟨I2.kIn, ?_⟩
  rw [hks]
  exact run_fnKN (us := []) (vs := []) F hr hb hx I2 .nil rz l1 l2 q2
end
end L2
end
section
set_option Elab.async false
set_option linter.all false
set_option maxRecDepth 100000
set_option autoImplicit false
set_option maxHeartbeats 4000000
/-! tuple * int, text * int, tuple[::-1] -/
namespace L2
open PySem PySem.Spec PyProof.Rows
theorem tuple_mulS (l : Addr) (items : Array Value) (n : Nat) (dd : Option Addr) (sl : Array (Option Value)) (x : Int) (u : Tok) (c0 : (decide (x < -(2 ^ 63)) || decide (x ≥ 2 ^ 63)) = false) (c1 : (items.isEmpty || x == 1) = true) :
    Meets (Builtin.«tuple.__mul__» ⟨[.ref l, .int x u], []⟩) (fun _ R s => s.heap.get? l = some { cls := .type "tuple", dict := dd, data := .seq items n, slots := sl } ∧ R (.ok (.ret (Value.ref l))) s) :=
  .of_wp fun prog w A R s h => by
    obtain ⟨hp, g, d, tk, os⟩ := s
    obtain ⟨hl, h⟩ := h
    have f1 := AutoSeq1.idx_int
    wp_walk using wpAny_loadPart' hl
    repeat (first
      | (refine wpAny_ite_false (decide_eq_false (by rw [c0]; exact Bool.false_ne_true)) ?_; wp_walk using wpAny_loadPart' hl)
      | (refine wpAny_ite_true (decide_eq_true (by rw [c1])) ?_; wp_walk using wpAny_loadPart' hl))
    exact ⟨_, rfl, h⟩
theorem tuple_mul0 (l : Addr) (items : Array Value) (n : Nat) (dd : Option Addr) (sl : Array (Option Value)) (x : Int) (u : Tok) (c0 : (decide (x < -(2 ^ 63)) || decide (x ≥ 2 ^ 63)) = false) (c1 : (items.isEmpty || x == 1) = false) (c2 : (decide (x ≤ 0) || items.isEmpty) = true) :
    Meets (Builtin.«tuple.__mul__» ⟨[.ref l, .int x u], []⟩) (fun _ R s => s.heap.get? l = some { cls := .type "tuple", dict := dd, data := .seq items n, slots := sl } ∧
      R (.ok (.ret (Value.ref s.heap.objs.size))) { s with heap := s.heap.push { cls := Value.type "tuple", data := Data.seq #[] }, toks := s.toks }) :=
  .of_wp fun prog w A R s h => by
    obtain ⟨hp, g, d, tk, os⟩ := s
    obtain ⟨hl, h⟩ := h
    have f1 := AutoSeq1.idx_int
    wp_walk using wpAny_loadPart' hl
    repeat (first
      | (refine wpAny_ite_false (decide_eq_false (by rw [c0]; exact Bool.false_ne_true)) ?_; wp_walk using wpAny_loadPart' hl)
      | (refine wpAny_ite_false (decide_eq_false (by rw [c1]; exact Bool.false_ne_true)) ?_; wp_walk using wpAny_loadPart' hl)
      | (refine wpAny_ite_true (decide_eq_true (by rw [c2])) ?_; wp_walk using wpAny_loadPart' hl))
    exact ⟨_, rfl, h⟩
/-- t * k, any k that fits -/
def rRepA (K : PySem.W.Frag) : R2 := fun x y H Q => ∃ l k xs, x = .ref l ∧ y = .int k ∧ SqT K H l xs ∧ -(2 ^ 62) ≤ k ∧ k ≤ 1000 ∧ xs.length ≤ 1000 ∧ ((xs = [] ∨ k = 1) → Q (.ref l) H) ∧ (¬ (xs = [] ∨ k = 1) → ∀ p, H p = none → Q (.ref p) (upd H p (.tup (List.replicate k.toNat xs).flatten)))
theorem op_repA {X : Cx} : OpR X (binaryOp .Mult) (rRepA X.K) := by
  intro pins s σ H x y v u Q I rx ry h
  obtain ⟨l, k, xs, rfl, rfl, hT, h1, h2, hz, q1, q2⟩ := h
  by_cases hs : 2 ≤ k ∧ xs ≠ []
  · exact op_repT pins s σ H _ _ v u Q I rx ry ⟨l, k, xs, rfl, rfl, hT, hs.2, hs.1, h2, hz, q2 (fun z => by rcases z with z | z; exact hs.2 z; omega)⟩
  cases rx
  obtain ⟨t, rfl⟩ := ry
  obtain ⟨its, r, ⟨⟨cls, dd, data, sl⟩, ho, hc, n, hd⟩, hsz⟩ := I.tuple hT
  simp only at hc hd
  subst hc hd
  have hle : its.length = xs.length := r.length.symm
  have hem : its.toArray.isEmpty = decide (xs = []) := by
    cases its with
    | nil =>
      have : xs = [] := List.eq_nil_of_length_eq_zero hle.symm
      simp [this]
    | cons a b =>
      have : xs ≠ [] := fun e => by rw [e] at hle; cases hle
      simp [this]
  have c0 : (decide (k < -(2 ^ 63)) || decide (k ≥ 2 ^ 63)) = false := by
    rw [decide_eq_false (by omega), decide_eq_false (by omega)] <;> rfl
  by_cases h0 : xs = [] ∨ k = 1
  · have c1 : (its.toArray.isEmpty || k == 1) = true := by
      rw [hem]
      rcases h0 with e | e
      · simp [e]
      · simp [e]
    refine wpAny_binaryOp_repeat_ref (T := "tuple") (U := "int") (by decide) ⟨_, ho, rfl⟩ (fun s' => typeIs_int s' k t) noFill_tuple_mul F.fills_int_mul F.slot_int_rmul repeat_tuple F.slot_int_index.lookup
      (call_meets F.slot_int_rmul (typeIs_int s k t) F.entry_int_rmul (F.args_int_rmul_2 _ _) (int_rmul_tuple k t l its.toArray n dd sl)
        ⟨ho, rfl, ⟨_, ho, rfl⟩, call_meets F.slot_tuple_mul ⟨_, ho, rfl⟩ F.entry_tuple_mul (F.args_tuple_mul_2 _ _) (tuple_mulS l its.toArray n dd sl k t c0 c1) ⟨ho, ?_⟩⟩)
    exact ⟨.ref l, H, I, rfl, q1 h0⟩
  · have hne : xs ≠ [] := fun e => h0 (.inl e)
    have hk1 : k ≠ 1 := fun e => h0 (.inr e)
    have hk : k ≤ 0 := by
      by_cases z : 2 ≤ k
      · exact absurd ⟨z, hne⟩ hs
      · omega
    have c1 : (its.toArray.isEmpty || k == 1) = false := by
      rw [hem, decide_eq_false hne, Bool.false_or]
      exact beq_eq_false_iff_ne.mpr hk1
    have c2 : (decide (k ≤ 0) || its.toArray.isEmpty) = true := by rw [decide_eq_true hk, Bool.true_or]
    have e0 : k.toNat = 0 := by omega
    have q3 := q2 h0
    rw [e0, List.replicate_zero, List.flatten_nil] at q3
    refine wpAny_binaryOp_repeat_ref (T := "tuple") (U := "int") (by decide) ⟨_, ho, rfl⟩ (fun s' => typeIs_int s' k t) noFill_tuple_mul F.fills_int_mul F.slot_int_rmul repeat_tuple F.slot_int_index.lookup
      (call_meets F.slot_int_rmul (typeIs_int s k t) F.entry_int_rmul (F.args_int_rmul_2 _ _) (int_rmul_tuple k t l its.toArray n dd sl)
        ⟨ho, rfl, ⟨_, ho, rfl⟩, call_meets F.slot_tuple_mul ⟨_, ho, rfl⟩ F.entry_tuple_mul (F.args_tuple_mul_2 _ _) (tuple_mul0 l its.toArray n dd sl k t c0 c1 c2) ⟨ho, ?_⟩⟩)
    refine ⟨.ref s.heap.objs.size, _, I.laid (t' := s.toks) (o := .tup []) (fun b ob q => Heap.get?_push_of_some _ q) (Nat.le_refl _) ?_, rfl, q3 _ (I.hok.fresh (Nat.le_refl _))⟩
    exact ⟨Nat.zero_le _, [], .nil, IsTup.new _ _⟩
/-- x * k, x a text -/
def strRep (x : Str) (k : Int) : Str := ⟨(List.replicate k.toNat x.cps).foldl (· ++ ·) #[]⟩
theorem strRep_len (x : Str) (k : Int) : (strRep x k).length = k.toNat * x.length := by
  have key : ∀ (n : Nat) (acc : Array Nat), ((List.replicate n x.cps).foldl (· ++ ·) acc).size = acc.size + n * x.cps.size := fun n => by
    induction n with
    | zero => intro acc; simp
    | succ n ih =>
      intro acc
      rw [List.replicate_succ, List.foldl_cons, ih, Array.size_append, Nat.succ_mul]
      omega
  show ((List.replicate k.toNat x.cps).foldl (· ++ ·) #[]).size = _
  rw [key]
  simp [Str.length]
theorem op_repS {X : Cx} : OpR X (binaryOp .Mult) (fun x y H Q => ∃ z k, x = V.str z ∧ y = .int k ∧ -(2 ^ 62) ≤ k ∧ k ≤ 1000 ∧ z.length ≤ 1000 ∧ Q (.str (strRep z k)) H) := by
  intro pins s σ H x y v u Q I rx ry h
  obtain ⟨z, k, rfl, rfl, h1, h2, hz, q⟩ := h
  obtain ⟨t, rfl⟩ := rx
  obtain ⟨t', rfl⟩ := ry
  have hm : ∀ (j : Int), 1 ≤ j → j ≤ 1000 → ((z.length : Nat) : Int) * j ≤ 1000000 := fun j j1 j2 => by
    have a1 : ((z.length : Nat) : Int) * j ≤ 1000 * j := Int.mul_le_mul_of_nonneg_right (by omega) (by omega)
    omega
  have hml : z.length * k.toNat ≤ 1000 * 1000 := Nat.mul_le_mul hz (by omega)
  refine P.mul_str (by rw [decide_eq_false (by omega), decide_eq_false (by omega)]; rfl) (fun hk _ => ?_) (fun hk _ => ?_) ?_
  · have h3 : ((z.length : Nat) : Int) ≤ (2 ^ 63 - 1) / k := Int.le_ediv_of_mul_le (by omega) (by have := hm k (by omega) h2; omega)
    omega
  · unfold Builtin.Str.tooLong
    rw [sizeLine_eq]
    exact decide_eq_false (by omega)
  · by_cases hk : k < 1
    · rw [if_pos hk]
      have e0 : k.toNat = 0 := by omega
      have e1 : strRep z k = Str.empty := by unfold strRep; rw [e0]; rfl
      refine ⟨by decide, .str (strRep z k), H, I.tok _, ⟨_, by rw [e1]⟩, q⟩
    · rw [if_neg hk]
      by_cases h1 : (k == 1 || z.length == 0) = true
      · rw [if_pos h1]
        have e1 : strRep z k = z := by
          unfold strRep
          rw [Bool.or_eq_true] at h1
          rcases h1 with e | e
          · have := eq_of_beq e
            subst this
            show Str.mk (#[] ++ z.cps) = z
            rw [Array.empty_append]
          · have e2 : z.cps = #[] := Array.eq_empty_of_size_eq_zero (eq_of_beq e)
            have e3 : ∀ n : Nat, (List.replicate n (#[] : Array Nat)).foldl (· ++ ·) #[] = #[] := fun n => by
              induction n with
              | zero => rfl
              | succ n ih => rw [List.replicate_succ, List.foldl_cons]; exact ih
            rw [e2, e3]
            cases z
            simp only at e2
            rw [e2]
        exact ⟨.str (strRep z k), H, I, ⟨_, by rw [e1]⟩, q⟩
      · rw [if_neg h1]
        refine ⟨?_, .str (strRep z k), H, I.tok _, ⟨_, rfl⟩, q⟩
        show (strRep z k).length ≤ sizeLine
        rw [strRep_len, sizeLine_eq]
        have : k.toNat * z.length ≤ 1000 * 1000 := Nat.mul_le_mul (by omega) hz
        omega
end L2
end
section
set_option Elab.async false
set_option linter.all false
set_option maxRecDepth 100000
set_option autoImplicit false
set_option maxHeartbeats 4000000
namespace HT
open PySem PySem.Spec PyProof.Rows L2
section
variable {prog : Program} {w : World} {A : Around} {E : Value → Shared → Prop} {s : Shared}
theorem adjust_rev (n : Nat) : Builtin.Slice.sliceAdjust none none (-1) (n : Int) = ((n : Int) - 1, -1) := by
  unfold Builtin.Slice.sliceAdjust
  simp
theorem places_rev (n : Nat) : Builtin.Slice.slicePlaces ((n : Int) - 1) (-1) (-1) = n := by
  unfold Builtin.Slice.slicePlaces
  have h1 : ¬ ((-1 : Int) > 0) := by omega
  simp only [h1, if_false]
  split
  · have : ((n : Int) - 1 - -1 - 1) / (- -1) + 1 = n := by
      rw [show (- -1 : Int) = 1 by decide, Int.ediv_one]; omega
    rw [this]; omega
  · omega
theorem sliceApplied_rev {sl : Addr} {t : Tok} {n : Nat} {Q : Int × Int × Nat → Shared → Prop} (hs : s.heap.IsSliceOf sl .none .none (.int (-1) t))
    (h : Q ((n : Int) - 1, -1, n) s) : wpAny (model prog w) A (Builtin.Slice.sliceApplied (.ref sl) (pure (n : Int))) Q E s := by
  obtain ⟨os, hos, hcs, hds⟩ := id hs
  unfold Builtin.Slice.sliceApplied Builtin.Slice.sliceFields
  refine wpAny_bind (wpAny_bind (wpAny_field hos hds (x := .none) rfl (wpAny_bind (wpAny_field hos hds (x := .none) rfl (wpAny_bind (wpAny_field hos hds (x := .int (-1) t) rfl (wpAny_pure ?_)))))))
  refine wpAny_bind (slicePart_int ?_)
  show wpAny _ _ (if ((-1 : Int) == 0) = true then _ else _) _ _ s
  rw [if_neg (by decide)]
  refine wpAny_bind (slicePart_none (wpAny_bind (slicePart_none (wpAny_bind (wpAny_pure ?_)))))
  show wpAny _ _ (match Builtin.Slice.sliceAdjust none none (-1) (n : Int) with | (lo, hi) => pure (lo, (-1 : Int), Builtin.Slice.slicePlaces lo hi (-1))) _ _ s
  rw [adjust_rev n]
  show wpAny _ _ (pure ((n : Int) - 1, (-1 : Int), Builtin.Slice.slicePlaces ((n : Int) - 1) (-1) (-1))) _ _ s
  rw [places_rev]
  exact wpAny_pure h
theorem pick_rev (xs : Array Value) : ((List.range xs.size).filterMap fun (m : Nat) => xs[(((xs.size : Int) - 1) + (m : Int) * (-1)).toNat]?).toArray = xs.toList.reverse.toArray := by
  congr 1
  have e : ∀ m ∈ List.range xs.size, xs[(((xs.size : Int) - 1) + (m : Int) * (-1)).toNat]? = xs.toList.reverse[m]? := fun m hm => by
    have hlt := List.mem_range.mp hm
    rw [List.getElem?_reverse (by simpa using hlt), Array.length_toList, Array.getElem?_toList]
    congr 1
    omega
  have e2 : ∀ (l : List Nat), (∀ m ∈ l, m ∈ List.range xs.size) → l.filterMap (fun (m : Nat) => xs[(((xs.size : Int) - 1) + (m : Int) * (-1)).toNat]?) = l.filterMap fun m => xs.toList.reverse[m]? := fun l => by
    induction l with
    | nil => intro _; rfl
    | cons x l ih =>
      intro h
      rw [List.filterMap_cons, List.filterMap_cons, e x (h x List.mem_cons_self), ih fun m hm => h m (List.mem_cons_of_mem _ hm)]
  rw [e2 _ fun _ h => h]
  have := PySem.W.krv_all xs.toList.reverse.toArray
  simpa using this
theorem getItem_tuple_rev {t sl : Addr} {items : Array Value} {tk : Tok} {Q : Value → Shared → Prop} (ht : IsTup s.heap t items) (hs : s.heap.IsSliceOf sl .none .none (.int (-1) tk))
    (h : Q (.ref s.heap.objs.size) { s with heap := s.heap.push { cls := .type "tuple", data := .seq items.toList.reverse.toArray } }) (hsz : items.size ≤ sizeLine) : wpAny (model prog w) A (getItem (.ref t) (.ref sl)) Q E s := by
  have htake : sizeOk (.seq items.toList.reverse.toArray) := by
    show items.toList.reverse.toArray.size ≤ sizeLine
    simpa using hsz
  obtain ⟨os, hos, hcs, hds⟩ := id hs
  have hTs : s.TypeIs (.ref sl) "slice" := ⟨os, hos, hcs⟩
  unfold getItem
  try with_reducible refine wpAny_holding ?_
  first | refine wpAny_bind (wpAny_pure ?_) | skip
  refine wpAny_bind (wpAny_sequenceKey ht.typeIs (by decide) ?_)
  refine wpAny_bind (wpAny_callSpecial?_slot (name := Str.ofString "__getitem__") ht.typeIs PyProof.Rows.slot_tuple_getitem
    (wpAny_call_entry PyProof.Rows.slot_tuple_getitem ht.typeIs entry_tuple_getitem ?_ (args_tuple_getitem _ _)))
  show wpAny _ _ (Builtin.Tuple.tupleItemsOf (.ref t) >>= _) _ _ s
  refine wpAny_bind (tupleItemsOf_ ht ?_)
  refine wpAny_bind (wpAny_typeOf hTs ?_)
  rw [if_pos (by decide)]
  refine wpAny_bind (sliceApplied_rev hs ?_)
  show wpAny _ _ (if (((items.size : Nat) : Int) - 1 == 0 && (-1 : Int) == 1 && items.size == items.size) = true then _ else _) _ _ s
  rw [if_neg (by simp), pick_rev]
  first
    | exact wpAny_bind (m := Builtin.Tuple.tupleExact _) (wpAny_newObj_type (wpAny_pure ⟨_, rfl, wpAny_pure h⟩) htake)
    | exact wpAny_bind (m := Builtin.Tuple.tupleExact _) (wpAny_newObj_type (wpAny_bind (wpAny_pure (wpAny_pure ⟨_, rfl, wpAny_pure h⟩))) htake)
    | exact wpAny_bind (wpAny_bind (m := Builtin.Tuple.tupleExact _) (wpAny_newObj_type (wpAny_pure (wpAny_pure ⟨_, rfl, wpAny_pure h⟩)) htake))
    | exact wpAny_bind (wpAny_bind (m := Builtin.Tuple.tupleExact _) (wpAny_newObj_type (wpAny_pure ⟨_, rfl, wpAny_pure h⟩) htake))
end
end HT
namespace L2
open PySem PySem.Spec PyProof.Rows
def tRevA (K : PySem.W.Frag) (te : TE) : TE := fun σ H Q => te σ H fun x H1 => ∃ a xs, x = .ref a ∧ ((SqL K H1 a xs ∧ ∀ p, H1 p = none → Q (.ref p) (upd H1 p (.lst xs.reverse))) ∨ (SqT K H1 a xs ∧ ∀ p, H1 p = none → Q (.ref p) (upd H1 p (.tup xs.reverse))))
theorem pe_revA {X : Cx} {e : Expr} {te : TE} {k : Nat} {p1 p2 p3 pos : Pos} (he : PE X e te) : PE X (.Subscript e (.Slice none none (some (.UnaryOp .USub (.Constant (.int 1) k p1) p2)) p3) pos) (tRevA X.K te) := by
  refine ⟨fun pins s σ H Q I h => ?_⟩
  refine Subscript_ (thn (he.run pins s σ H _ I h) fun v s1 ⟨x, H1, I1, r1, q1⟩ => ?_)
  obtain ⟨a, xs, ex, q⟩ := q1
  subst ex
  cases r1
  have hst : PO X (some (.UnaryOp .USub (.Constant (.int 1) k p1) p2)) (tPart (tUn (rU fun i => .int (-i)) (tC (.int 1)))) := po_some (pe_un un_neg pe_int)
  refine wpAny_Slice (thn (po_none.run pins s1 σ H1 (fun o H2 => o = none ∧ H2 = H1) I1 ⟨rfl, rfl⟩) fun vl s2 ⟨l, H2, I2, pl, el, e2⟩ => ?_)
  subst el e2
  refine thn (po_none.run pins s2 σ H2 (fun o H3 => o = none ∧ H3 = H2) I2 ⟨rfl, rfl⟩) fun vu s3 ⟨u, H3, I3, pu, eu, e3⟩ => ?_
  subst eu e3
  refine thn (hst.run pins s3 σ H3 (fun o H4 => o = some (-1) ∧ H4 = H3) I3 ⟨1, rfl, -1, rfl, rfl, rfl⟩) fun vs s4 ⟨o, H4, I4, ps, eo, e4⟩ => ?_
  subst eo e4
  have I5 : Inv X pins σ H4 { s4 with heap := s4.heap.push { cls := .type "slice", data := .fields #[vl, vu, vs] } } := I4.kept (t' := s4.toks) fun b ob q => Heap.get?_push_of_some _ q
  rcases q with ⟨hx, q⟩ | ⟨hx, q⟩
  · obtain ⟨its, r, ht, hz⟩ := I5.list hx
    have hlen := r.length
    show wpAny (model X.prog X.w) X.A (subscriptTail e (.Slice none none (some (.UnaryOp .USub (.Constant (.int 1) k p1) p2)) p3) (.ref a) (.ref s4.heap.objs.size)) (EP X pins σ Q) X.xe { s4 with heap := s4.heap.push { cls := .type "slice", data := .fields #[vl, vu, vs] } }
    refine tail_any (ops := [.ref a, .ref s4.heap.objs.size]) ht.isList.typeIs (PySem.slot_list_getitem.lookup) ?_ (by with_unfolding_all rfl)
    refine wpAny_getItem_list_slice ht.isList (Heap.IsSliceOf.new _ vl vu vs) pl pu ps (by decide) ?_ (by rw [List.size_toArray]; omega)
    rw [PySem.W.krv_pick]
    refine ⟨.ref _, _, I5.laid (t' := s4.toks) (o := .lst xs.reverse) (fun b ob q => Heap.get?_push_of_some _ q) (Nat.le_refl _) ?_, rfl, q _ (I5.hok.fresh (Nat.le_refl _))⟩
    exact ⟨by rw [List.length_reverse]; exact hz, _, 0, r.reverse, Heap.get?_push_size _ rfl⟩
  · obtain ⟨its, r, ht, hz⟩ := I5.tuple hx
    have hlen := r.length
    cases pl
    cases pu
    cases ps with
    | int i t =>
      show wpAny (model X.prog X.w) X.A (subscriptTail e (.Slice none none (some (.UnaryOp .USub (.Constant (.int 1) k p1) p2)) p3) (.ref a) (.ref s4.heap.objs.size)) (EP X pins σ Q) X.xe { s4 with heap := s4.heap.push { cls := .type "slice", data := .fields #[.none, .none, .int (-1) t] } }
      refine tail_any (ops := [.ref a, .ref s4.heap.objs.size]) ht.typeIs (PyProof.Rows.slot_tuple_getitem.lookup) ?_ (by with_unfolding_all rfl)
      refine HT.getItem_tuple_rev ht (Heap.IsSliceOf.new _ _ _ _) ?_ (by rw [List.size_toArray]; omega)
      refine ⟨.ref _, _, I5.laid (t' := s4.toks) (o := .tup xs.reverse) (fun b ob q => Heap.get?_push_of_some _ q) (Nat.le_refl _) ?_, rfl, q _ (I5.hok.fresh (Nat.le_refl _))⟩
      exact ⟨by rw [List.length_reverse]; exact hz, its.reverse, r.reverse, IsTup.new _ _⟩
end L2
end
section
set_option Elab.async false
set_option linter.all false
set_option maxRecDepth 100000
set_option autoImplicit false
set_option maxHeartbeats 4000000
namespace PySem
open Sem (wp)
theorem meets_enumerate_newB1 {v : Value} {o : Obj} {H : Heap → Prop} (B : Begins v o H) :
    Meets (Builtin.«enumerate.__new__» ⟨[.type "enumerate", v], []⟩) (fun _ R s => H s.heap ∧
      R (.ok (.ret (.ref (s.heap.push o).objs.size))) { s with heap := (s.heap.push o).push { cls := .type "enumerate", data := .fields #[.none, .bool false, .ref s.heap.objs.size, rawInt 0, .none, .none] } }) :=
  .of_wp fun prog w A R s h => by
    obtain ⟨hp, g, d, tk, os⟩ := s; obtain ⟨h1, h⟩ := h
    have hsub := sub_enumerate
    have q1 : ∀ {A' : Around} {E : Value → Shared → Prop} {Q : Value → Shared → Prop}, Q (.ref hp.objs.size) ⟨hp.push o, g, d, tk, os⟩ → wpAny (model prog w) A' (pyIter v) Q E ⟨hp, g, d, tk, os⟩ :=
      fun q => B.iter prog w _ _ ⟨hp, g, d, tk, os⟩ _ h1 q
    wp_walk using q1
    refine wpAny_stack_any fun st => wpAny_pure ?_
    split
    · rename_i c _ _ _ _ _
      cases (c == Value.type "enumerate")
      · wp_walk using q1
        exact ⟨_, rfl, h⟩
      · wp_walk using q1
        exact ⟨_, rfl, h⟩
    · wp_walk using q1
      exact ⟨_, rfl, h⟩
section
variable {prog : Program} {w : World} {A : Around} {E : Value → Shared → Prop} {s : Shared}
theorem enum_begins1 {v : Value} {o : Obj} {H : Heap → Prop} {Q : Value → Shared → Prop} (B : Begins v o H) (h1 : H s.heap)
    (h : ∀ h', IsEnum h' (s.heap.objs.size + 1) s.heap.objs.size 0 .none → h'.get? s.heap.objs.size = some o → h'.objs.size = s.heap.objs.size + 2 →
      (∀ b o, s.heap.get? b = some o → h'.get? b = some o) → Q (.ref (s.heap.objs.size + 1)) { s with heap := h' }) :
    wpAny (model prog w) A (call (.type "enumerate") [v]) Q E s := by
  refine callType_new F.called_enumerate (by decide) (F.typeCall_enumerate_1 _) (F.newCall_enumerate_1 _) (fun obj => F.args_object_init_2 obj _) F.entry_enumerate_new
    (meets_enumerate_newB1 B) ⟨h1, ?_⟩
  have hz : (s.heap.push o).objs.size = s.heap.objs.size + 1 := Heap.size_push ..
  show _ ∧ _
  rw [hz]
  have he : IsEnum ((s.heap.push o).push { cls := .type "enumerate", data := .fields #[.none, .bool false, .ref s.heap.objs.size, rawInt 0, .none, .none] }) (s.heap.objs.size + 1) s.heap.objs.size 0 .none := by
    have := Heap.get?_push_size (s.heap.push o) (o := { cls := .type "enumerate", data := .fields #[.none, .bool false, .ref s.heap.objs.size, rawInt 0, .none, .none] }) rfl
    rw [hz] at this; exact this
  refine ⟨⟨_, he, rfl⟩, h _ he (Heap.get?_push_of_some _ (Heap.get?_push_size _ B.free)) (by rw [Heap.size_push, hz]) fun b o x => Heap.get?_push_of_some _ (Heap.get?_push_of_some _ x)⟩
end
end PySem
namespace L2
open PySem PySem.Spec PyProof.Rows
def Itet (K : PySem.W.Frag) (a : Addr) : It :=
  ⟨fun i H => ∃ (xs : List V) (x : V), SqT K H a xs ∧ xs[i]? = some x, fun i H v H' => ∃ T x, v = .ref T ∧ H T = none ∧ H' = upd H T (.tup [.int (i : Nat), x]) ∧ ∀ xs, SqT K H a xs → xs[i]? = some x, fun i H => ∃ xs : List V, SqT K H a xs ∧ xs.length = i⟩
theorem turn_enumT {P : Program} {w : World} {K : PySem.W.Frag} {elts : List Expr} {kk : Nat} {tpos : Pos} (a e it : Addr) :
    Turn P w K (.Tuple elts kk tpos) (Itet K a) [e, it] e (fun i h => (∃ old, IsEnum h e it ((i : Nat) : Int) old) ∧ h.IsTupleIter it a i ∧ e ≠ it ∧ a ≠ it ∧ e ≠ a) where
  mem := by simp
  obj := fun i h st b hb => by
    obtain ⟨⟨old, he⟩, ⟨o, ho, hc, hd⟩, _⟩ := st
    have e' : b = e ∨ b = it := by simpa using hb
    rcases e' with z | z
    · rw [z]; exact ⟨_, he, fun v q => nomatch q⟩
    · rw [z]; exact ⟨o, ho, fun v q => by rw [hd] at q; cases q⟩
  keep := fun i h h' st k => let ⟨⟨old, he⟩, hi, hne⟩ := st; ⟨⟨old, k e (by simp) _ he⟩, hi.at fun o q => k it (by simp) o q, hne⟩
  item := by
    intro X hP hw hK hc i pins s σ H E I hf st hg
    subst hP hw hK
    obtain ⟨⟨old, he⟩, hit, hne, hai, hea⟩ := st
    obtain ⟨xs, x, hq, hx⟩ := hg
    obtain ⟨its, rv, p, hz⟩ := I.tuple hq
    obtain ⟨u, hu, ru⟩ := rv.get hx
    have hel : e < s.heap.objs.size := Heap.lt_size he
    have hil : it < s.heap.objs.size := by obtain ⟨_, q, _⟩ := hit; exact Heap.lt_size q
    have hlt : i < its.length := (List.getElem?_eq_some_iff.mp hu).1
    have hin : e ∉ [it, a] := by simp [hne, hea]
    have D := Draws.tuple (prog := X.prog) (w := X.w) (A := X.A.in1) (I.ok.hd hc) it a hai its.toArray
    refine wpAny_pyNext_enum_itemD D he ⟨hit, p⟩ (by simpa using hlt) hne hin fun x' h' tk hPx ho hst' hT hsz hk => ?_
    obtain rfl : x' = u := by
      have e1 : its[i]? = some x' := by simpa using hPx
      rw [hu] at e1
      exact (Option.some.inj e1).symm
    refine ⟨_, rfl, wpAny_letOwnedTupleGo_enum (s := { s with heap := h', toks := tk + 1 }) ho fun h'' he' sb => ?_⟩
    have hT2 : h''.get? s.heap.objs.size = some { cls := .type "tuple", data := .seq #[.int i tk, x'] } := (sb.2 _ (Nat.ne_of_gt hel)).trans hT
    have new : ObjOk X.prog X.w (upd H s.heap.objs.size (.tup [.int (i : Nat), x])) h'' s.heap.objs.size (.tup [.int (i : Nat), x]) :=
      ⟨by show 2 ≤ sizeLine; decide, [.int i tk, x'], .cons ⟨_, rfl⟩ (.cons ru .nil), ⟨_, hT2, rfl, _, rfl⟩⟩
    have I1 : Inv X pins σ (upd H s.heap.objs.size (.tup [.int (i : Nat), x])) { s with heap := h'', toks := tk + 1 } :=
      I.turnedNew (ch := [e, it]) (fun b ob hb q => (sb.2 b (fun z => hb (by simp [z]))).trans (hk b ob (fun z => hb (by simp [z])) (fun z => hb (by simp [z])) q)) hf (Nat.le_refl _) new
    refine ⟨.ref s.heap.objs.size, _, I1, rfl, ⟨_, x, rfl, I.hok.fresh (Nat.le_refl _), rfl, fun ys hy => by rw [I.tuple_inj hy hq]; exact hx⟩, ⟨⟨x', ?_⟩, hst'.1.at fun o q => (sb.2 it (Ne.symm hne)).trans q, hne, hai, hea⟩, fun b hb => ?_⟩
    · have e1 : ((i + 1 : Nat) : Int) = (i : Int) + 1 := by omega
      rw [e1]; exact he'
    · have hb' : b < s.heap.objs.size := by
        have e' : b = e ∨ b = it := by simpa using hb
        rcases e' with z | z
        · rw [z]; exact hel
        · rw [z]; exact hil
      rw [upd_ne (Nat.ne_of_lt hb')]
      exact (hf b hb).1
  done := by
    intro X hP hw hK hc i pins s σ H E I hf st hg
    subst hP hw hK
    obtain ⟨⟨old, he⟩, hit, hne, hai, hea⟩ := st
    obtain ⟨xs, hq, hx⟩ := hg
    obtain ⟨its, rv, p, hz⟩ := I.tuple hq
    obtain ⟨f0, f1, f2, f3, f4, f5⟩ := hf it (by simp)
    have hl := rv.length
    have D := Draws.tuple (prog := X.prog) (w := X.w) (A := X.A.in1) (I.ok.hd hc) it a hai its.toArray
    have ei : i = its.toArray.size := by simp; omega
    exact wpAny_pyNext_enum_endD D he ⟨by rw [← ei]; exact hit, p⟩ fun h' eb => ⟨rfl, I.turned (t' := s.toks) (fun b o hb q => eb b o hb q) f0 f1 f3 f4 f5⟩
  self := fun A i s Q E st h => let ⟨⟨_, he⟩, _⟩ := st; wpAny_pyIter_enum he h
def iEnumA (K : PySem.W.Frag) (ta : TA) : TI := fun σ H R => ta σ H fun vs H1 => ∃ a, vs = [.ref a] ∧ (((∃ xs, SqL K H1 a xs) ∧ R (Ite K a) H1) ∨ ((∃ xs, SqT K H1 a xs) ∧ R (Itet K a) H1))
theorem pi_enumA {X : Cx} {e : Expr} {ta : TA} {p pos tpos : Pos} {elts : List Expr} {kk : Nat} (hg : Gl X "enumerate") (hm : X.mg "enumerate" = none) (ha : PA X [e] ta) (hs : starEach [e] X.env = [(false, eval e X.env)]) :
    PI X (.Tuple elts kk tpos) (.Call (.Name "enumerate" p) [e] [] pos) (iEnumA X.K ta) := by
  refine ⟨fun pins s σ H R I h => ?_⟩
  refine Call_ (ld_blt I hg hm boot_enumerate (PyProof.Rows.callWith_type1 (thn (ha.run pos pins s σ H _ I h) fun us s1 ⟨vs, H1, I1, r1, q1⟩ => ?_) hs rfl))
  obtain ⟨a, ex, q1⟩ := q1
  subst ex
  cases r1 with
  | cons r rr =>
    cases rr
    cases r
    rcases q1 with ⟨⟨xs, hq⟩, q⟩ | ⟨⟨xs, hq⟩, q⟩
    · obtain ⟨its, rv, p', hz⟩ := I1.list hq
      refine call_enumerate_list p'.isList fun h' he hit hsz hk => wpAny_pyIter_enum he ?_
      have I2 : Inv X pins σ H1 { s1 with heap := h' } := I1.kept (t' := s1.toks) hk
      refine ⟨s1.heap.objs.size + 1, [s1.heap.objs.size + 1, s1.heap.objs.size], _, _, H1, rfl, I2, turn_enum a (s1.heap.objs.size + 1) s1.heap.objs.size, ⟨⟨.none, he⟩, hit, Nat.succ_ne_self _⟩, fun b hb => ?_, q⟩
      have e' : b = s1.heap.objs.size + 1 ∨ b = s1.heap.objs.size := by simpa using hb
      have hle : s1.heap.objs.size ≤ b := by
        rcases e' with z | z
        · rw [z]; exact Nat.le_succ _
        · rw [z]; exact Nat.le_refl _
      have f := I1.fpOk (H' := H1) hle (I1.hok.fresh hle)
      exact f
    · obtain ⟨its, rv, p', hz⟩ := I1.tuple hq
      have B := begins_tuple a its.toArray
      refine enum_begins1 B (show s1.heap.IsTuple a its.toArray from p') fun h' he hit hsz hk => wpAny_pyIter_enum he ?_
      have I2 : Inv X pins σ H1 { s1 with heap := h' } := I1.kept (t' := s1.toks) hk
      have hal : a < s1.heap.objs.size := p'.lt
      refine ⟨s1.heap.objs.size + 1, [s1.heap.objs.size + 1, s1.heap.objs.size], _, _, H1, rfl, I2, turn_enumT a (s1.heap.objs.size + 1) s1.heap.objs.size, ⟨⟨.none, he⟩, ⟨_, hit, rfl, rfl⟩, Nat.succ_ne_self _, Nat.ne_of_lt hal, Nat.ne_of_gt (Nat.lt_succ_of_lt hal)⟩, fun b hb => ?_, q⟩
      have e' : b = s1.heap.objs.size + 1 ∨ b = s1.heap.objs.size := by simpa using hb
      have hle : s1.heap.objs.size ≤ b := by
        rcases e' with z | z
        · rw [z]; exact Nat.le_succ _
        · rw [z]; exact Nat.le_refl _
      exact I1.fpOk (H' := H1) hle (I1.hok.fresh hle)
end L2
end
section
set_option Elab.async false
set_option linter.all false
set_option maxRecDepth 100000
set_option autoImplicit false
set_option maxHeartbeats 4000000
/-! list(zip(a, b)) -/
namespace PySem
open Sem (wp)
section
variable {prog : Program} {w : World} {A : Around} {E : Value → Shared → Prop} {s : Shared} {z TI TO T i1 i2 : Addr} {f : Bool} {oT : Obj} {fp1 fp2 : List Addr} {n1 n2 i : Nat} {P1 P2 : Nat → Value → Prop} {St1 St2 : Nat → Heap → Prop}
theorem zipH_next_item {Q : Value → Shared → Prop} (S : ZipSep2 z TI TO i1 i2 fp1 fp2) (D1 : Draws prog w A i1 fp1 n1 P1 St1) (D2 : Draws prog w A i2 fp2 n2 P2 St2)
    (hz : IsZipHeld s.heap z TI TO T f) (hT : s.heap.get? T = some oT) (hTI : IsTupOf2 s.heap TI (.ref i1) (.ref i2)) (st1 : St1 i s.heap) (st2 : St2 i s.heap) (hlt1 : i < n1) (hlt2 : i < n2)
    (hQ : ∀ x1 x2 h' tk, P1 i x1 → P2 i x2 → IsZipHeld h' z TI TO T true → St1 (i + 1) h' → St2 (i + 1) h' → IsTupOf2 h' s.heap.objs.size x1 x2 → h'.objs.size = s.heap.objs.size + 1 →
      (∀ c o, c ≠ z → c ≠ i1 → c ≠ i2 → s.heap.get? c = some o → h'.get? c = some o) → Q (.ref s.heap.objs.size) { s with heap := h', toks := tk }) :
    wpAny (model prog w) A (Builtin.«zip.__next__» ⟨[.ref z], []⟩) (fun fin s' => ∃ v, fin = .done (.ret v) ∧ Q v s') E s := by
  obtain ⟨hp, g, d, tk0, os⟩ := s
  show wpAny _ _ (field (.ref z) 2 >>= _) _ _ _
  refine wpAny_bind (wpAny_field hz rfl (x := .bool false) rfl ?_)
  show wpAny _ _ (field (.ref z) 3 >>= _) _ _ _
  refine wpAny_bind (wpAny_field hz rfl (x := .ref TI) rfl ?_)
  refine wpAny_bind (wpAny_seqItems hTI rfl ?_)
  show wpAny _ _ (Builtin.SmallTypes.ownedTupleIsFree (.ref z) >>= _) _ _ _
  refine wpAny_bind (wpAny_tupleHeld_zip hz hT fun h₁ hz₁ hs₁ => ?_)
  replace hs₁ : Heap.SameBut z hp h₁ := hs₁
  simp only [Bool.false_eq_true, if_false]
  refine wpAny_bind ?_
  rw [← Array.forIn_toList]
  simp only [List.forIn_cons, List.forIn_nil]
  refine wpAny_bind (wpAny_bind (wpAny_holding ?_))
  show wpAny _ _ (Builtin.SmallTypes.nextOf (.ref i1) >>= _) _ _ ⟨h₁, g, d, tk0, os⟩
  refine wpAny_bind (D1.item i _ _ _ hlt1 (D1.over st1 hs₁ S.zf1) fun x1 p1 tk1 hx1 sn1 hp1 => wpAny_pure ?_)
  replace hp1 : Heap.SameBut i1 h₁ p1 := hp1
  refine wpAny_pure ?_
  refine wpAny_bind (wpAny_bind (wpAny_holding ?_))
  show wpAny _ _ (Builtin.SmallTypes.nextOf (.ref i2) >>= _) _ _ ⟨p1, g, d, tk1, os⟩
  refine wpAny_bind (D2.item i _ _ _ hlt2 (D2.over (D2.over st2 hs₁ S.zf2) hp1 S.sep1_2) fun x2 p2 tk2 hx2 sn2 hp2 => wpAny_pure ?_)
  replace hp2 : Heap.SameBut i2 p1 p2 := hp2
  refine wpAny_pure (wpAny_pure ?_)
  show wpAny _ _ (newTuple [x1, x2] >>= _) _ _ ⟨p2, g, d, tk2, os⟩
  refine wpAny_bind (wpAny_newTuple ?_)
  have hsz : p2.objs.size = hp.objs.size := by rw [hp2.1, hp1.1, hs₁.1]
  have hz₃ : IsZipHeld p2 z TI TO T true := hp2.extBut _ _ S.zi2 (hp1.extBut _ _ S.zi1 hz₁)
  have hk : ∀ c o, c ≠ z → c ≠ i1 → c ≠ i2 → hp.get? c = some o → p2.get? c = some o := fun c o c1 c2 c3 e => hp2.extBut _ _ c3 (hp1.extBut _ _ c2 (hs₁.extBut _ _ c1 e))
  have hj1 : St1 (i + 1) p2 := D1.over sn1 hp2 S.sep2_1
  refine wpAny_pure ⟨_, rfl, ?_⟩
  show Q (.ref p2.objs.size) ⟨_, g, d, tk2, os⟩
  have hpp : IsTupOf2 (p2.push { cls := .type "tuple", data := .seq #[x1, x2] }) p2.objs.size x1 x2 := Heap.get?_push_size _ rfl
  have hz4 : (p2.push { cls := .type "tuple", data := .seq #[x1, x2] }).objs.size = p2.objs.size + 1 := Heap.size_push ..
  rw [hsz] at hpp hz4 ⊢
  exact hQ x1 x2 _ tk2 hx1 hx2 (Heap.get?_push_of_some _ hz₃) (D1.frame _ _ _ hj1 fun b hb o e => Heap.get?_push_of_some _ e) (D2.frame _ _ _ sn2 fun b hb o e => Heap.get?_push_of_some _ e) hpp hz4 fun c o c1 c2 c3 e => Heap.get?_push_of_some _ (hk c o c1 c2 c3 e)
theorem zipH_next_end {Q : Fin → Shared → Prop} (S : ZipSep2 z TI TO i1 i2 fp1 fp2) (D1 : Draws prog w A i1 fp1 n1 P1 St1) (D2 : Draws prog w A i2 fp2 n2 P2 St2)
    (hz : IsZipHeld s.heap z TI TO T f) (hT : s.heap.get? T = some oT) (hTI : IsTupOf2 s.heap TI (.ref i1) (.ref i2)) (st1 : St1 i s.heap) (st2 : St2 i s.heap) (hle1 : i ≤ n1) (hle2 : i ≤ n2) (hend : i = n1 ∨ i = n2)
    (hE : ∀ h' tk e, (∀ c o, c ≠ z → c ≠ i1 → c ≠ i2 → s.heap.get? c = some o → h'.get? c = some o) → (∃ o, h'.get? e = some o ∧ o.cls = .type "StopIteration") → E (.ref e) { s with heap := h', toks := tk }) :
    wpAny (model prog w) A (Builtin.«zip.__next__» ⟨[.ref z], []⟩) Q E s := by
  obtain ⟨hp, g, d, tk0, os⟩ := s
  show wpAny _ _ (field (.ref z) 2 >>= _) _ _ _
  refine wpAny_bind (wpAny_field hz rfl (x := .bool false) rfl ?_)
  show wpAny _ _ (field (.ref z) 3 >>= _) _ _ _
  refine wpAny_bind (wpAny_field hz rfl (x := .ref TI) rfl ?_)
  refine wpAny_bind (wpAny_seqItems hTI rfl ?_)
  show wpAny _ _ (Builtin.SmallTypes.ownedTupleIsFree (.ref z) >>= _) _ _ _
  refine wpAny_bind (wpAny_tupleHeld_zip hz hT fun h₁ hz₁ hs₁ => ?_)
  replace hs₁ : Heap.SameBut z hp h₁ := hs₁
  simp only [Bool.false_eq_true, if_false]
  refine wpAny_bind ?_
  rw [← Array.forIn_toList]
  simp only [List.forIn_cons, List.forIn_nil]
  refine wpAny_bind (wpAny_bind (wpAny_holding ?_))
  show wpAny _ _ (Builtin.SmallTypes.nextOf (.ref i1) >>= _) _ _ ⟨h₁, g, d, tk0, os⟩
  by_cases hlt1 : i < n1
  · refine wpAny_bind (D1.item i _ _ _ hlt1 (D1.over st1 hs₁ S.zf1) fun x1 p1 tk1 hx1 sn1 hp1 => wpAny_pure ?_)
    replace hp1 : Heap.SameBut i1 h₁ p1 := hp1
    refine wpAny_pure ?_
    have hi2 : i = n2 := by omega
    refine wpAny_bind (wpAny_bind (wpAny_holding ?_))
    show wpAny _ _ (Builtin.SmallTypes.nextOf (.ref i2) >>= _) _ _ ⟨p1, g, d, tk1, os⟩
    refine wpAny_bind (D2.done ⟨p1, g, d, tk1, os⟩ _ _ (by rw [← hi2]; exact D2.over (D2.over st2 hs₁ S.zf2) hp1 S.sep1_2) fun q e hq he => ?_)
    replace hq : Heap.ExtBut i2 p1 q := hq
    exact hE q tk1 e (fun c o cz c1 c2 x => hq _ _ c2 (hp1.extBut _ _ c1 (hs₁.extBut _ _ cz x))) he
  · have hi1 : i = n1 := by omega
    refine wpAny_bind (D1.done ⟨h₁, g, d, tk0, os⟩ _ _ (by rw [← hi1]; exact D1.over st1 hs₁ S.zf1) fun q e hq he => ?_)
    replace hq : Heap.ExtBut i1 h₁ q := hq
    exact hE q tk0 e (fun c o cz c1 c2 x => hq _ _ c1 (hs₁.extBut _ _ cz x)) he
theorem pyNext_zipH_item {Q : Option Value → Shared → Prop} (S : ZipSep2 z TI TO i1 i2 fp1 fp2) (D1 : Draws prog w A.in1 i1 fp1 n1 P1 St1) (D2 : Draws prog w A.in1 i2 fp2 n2 P2 St2)
    (hz : IsZipHeld s.heap z TI TO T f) (hT : s.heap.get? T = some oT) (hTI : IsTupOf2 s.heap TI (.ref i1) (.ref i2)) (st1 : St1 i s.heap) (st2 : St2 i s.heap) (hlt1 : i < n1) (hlt2 : i < n2)
    (hQ : ∀ x1 x2 h' tk, P1 i x1 → P2 i x2 → IsZipHeld h' z TI TO T true → St1 (i + 1) h' → St2 (i + 1) h' → IsTupOf2 h' s.heap.objs.size x1 x2 → h'.objs.size = s.heap.objs.size + 1 →
      (∀ c o, c ≠ z → c ≠ i1 → c ≠ i2 → s.heap.get? c = some o → h'.get? c = some o) → Q (some (.ref s.heap.objs.size)) { s with heap := h', toks := tk }) :
    wpAny (model prog w) A (pyNext (.ref z)) Q E s := by
  have hTy : s.TypeIs (.ref z) "zip" := ⟨_, hz, rfl⟩
  unfold pyNext
  exact wpAny_bind (wpAny_attempt (wpAny_callSpecial?_slot (name := Str.ofString "__next__") hTy F.slot_zip_next
    (wpAny_call_entry F.slot_zip_next hTy F.entry_zip_next
      (zipH_next_item S D1 D2 hz hT hTI st1 st2 hlt1 hlt2 fun x1 x2 h' tk y1 y2 b1 d1 d2 b5 b6 b7 => wpAny_pure (hQ x1 x2 h' tk y1 y2 b1 d1 d2 b5 b6 b7)) (F.args_zip_next_1 _))))
theorem pyNext_zipH_end {Q : Option Value → Shared → Prop} (S : ZipSep2 z TI TO i1 i2 fp1 fp2) (D1 : Draws prog w A.in1 i1 fp1 n1 P1 St1) (D2 : Draws prog w A.in1 i2 fp2 n2 P2 St2)
    (hz : IsZipHeld s.heap z TI TO T f) (hT : s.heap.get? T = some oT) (hTI : IsTupOf2 s.heap TI (.ref i1) (.ref i2)) (st1 : St1 i s.heap) (st2 : St2 i s.heap) (hle1 : i ≤ n1) (hle2 : i ≤ n2) (hend : i = n1 ∨ i = n2)
    (hQ : ∀ h' tk, (∀ c o, c ≠ z → c ≠ i1 → c ≠ i2 → s.heap.get? c = some o → h'.get? c = some o) → Q none { s with heap := h', toks := tk }) : wpAny (model prog w) A (pyNext (.ref z)) Q E s := by
  have hTy : s.TypeIs (.ref z) "zip" := ⟨_, hz, rfl⟩
  unfold pyNext
  refine wpAny_bind (wpAny_attempt (wpAny_callSpecial?_slot (name := Str.ofString "__next__") hTy F.slot_zip_next
    (wpAny_call_entry F.slot_zip_next hTy F.entry_zip_next (zipH_next_end S D1 D2 hz hT hTI st1 st2 hle1 hle2 hend fun h' tk e hk he => ?_) (F.args_zip_next_1 _))))
  obtain ⟨o, ho, hc⟩ := he
  refine wpAny_bind (wpAny_isInstance (T := "StopIteration") (b := true) ⟨o, ho, hc⟩ isSubtype_stop ?_)
  exact wpAny_pure (hQ _ _ hk)
end
end PySem
end
section
set_option Elab.async false
set_option linter.all false
set_option maxRecDepth 100000
set_option autoImplicit false
set_option maxHeartbeats 4000000
/-! list(zip(a, b)): the loop and the call -/
namespace PySem.W
open PySem PySem.Calls PyProof.Rows PyProof.V PySem.Spec
theorem zip_no_len : typeLookup (.type "zip") "__len__" = pure none := am_miss_of_fast (by decide +kernel)
theorem zip_no_hint : typeLookup (.type "zip") "__length_hint__" = pure none := am_miss_of_fast (by decide +kernel)
section
variable {prog : Program} {w : World} {A : Around} {E : Value → Shared → Prop} {s : Shared}
theorem zl_hint {r : Addr} (hT : s.TypeIs (.ref r) "zip") {Q : Bool → Shared → Prop} (h : Q true s) : wpAny (model prog w) A (Builtin.List.listLengthHint (.ref r)) Q E s := by
  unfold Builtin.List.listLengthHint
  refine wpAny_bind (wpAny_specialOf hT zip_no_len ?_)
  show wpAny _ _ (specialOf (.ref r) "__length_hint__" >>= _) _ _ _
  refine wpAny_bind (wpAny_specialOf hT zip_no_hint ?_)
  exact wpAny_pure h
end
def ZlSt (h : Heap) (z TI TO S i1 i2 : Addr) (St1 St2 : Nat → Heap → Prop) (i : Nat) : Prop :=
  IsTupOf2 h TI (.ref i1) (.ref i2) ∧ St1 i h ∧ St2 i h ∧ ((i = 0 ∧ IsZip h z TI TO .none ∧ IsTupOf2 h TO .none .none) ∨ ∃ T f oT, IsZipHeld h z TI TO T f ∧ h.get? T = some oT ∧ T ≠ z ∧ T ≠ TO ∧ T ≠ i1 ∧ T ≠ i2 ∧ T ≠ S)
structure ZlG (P1 P2 : Nat → Value → Prop) (lo : Addr) (h : Heap) (as : List Addr) : Prop where
  rise : as.Pairwise (· < ·)
  above : ∀ a ∈ as, lo < a
  pairs : ∀ (j : Nat) (a : Addr), as[j]? = some a → ∃ x y, P1 j x ∧ P2 j y ∧ h.get? a = some { cls := .type "tuple", data := .seq #[x, y] }
theorem ZlG.there {P1 P2 : Nat → Value → Prop} {lo : Addr} {h : Heap} {as : List Addr} (g : ZlG P1 P2 lo h as) {a : Addr} (ha : a ∈ as) : a < h.objs.size := by
  obtain ⟨j, hj⟩ := List.mem_iff_getElem?.mp ha
  obtain ⟨_, _, _, _, e⟩ := g.pairs j a hj
  exact Heap.lt_size e
section
variable {prog : Program} {w : World} {A : Around} {E : Value → Shared → Prop} {s : Shared} {z TI TO i1 i2 S : Addr} {fp1 fp2 : List Addr} {n1 n2 i : Nat} {P1 P2 : Nat → Value → Prop} {St1 St2 : Nat → Heap → Prop}
theorem ZlSt.keep {h h' : Heap} (D1 : Draws prog w A i1 fp1 n1 P1 St1) (D2 : Draws prog w A i2 fp2 n2 P2 St2) (x : ZlSt h z TI TO S i1 i2 St1 St2 i) (hk : ∀ b o, b ≠ S → h.get? b = some o → h'.get? b = some o) (hz : z ≠ S) (hTI : TI ≠ S) (hTO : TO ≠ S) (h1 : S ∉ fp1) (h2 : S ∉ fp2) :
    ZlSt h' z TI TO S i1 i2 St1 St2 i := by
  obtain ⟨a, b, c, d⟩ := x
  refine ⟨hk _ _ hTI a, D1.frame _ _ _ b fun q hq o e => hk q o (fun y => h1 (y ▸ hq)) e, D2.frame _ _ _ c fun q hq o e => hk q o (fun y => h2 (y ▸ hq)) e, ?_⟩
  rcases d with ⟨e, f, g⟩ | ⟨T, f, oT, u, v, w1, w2, w3, w4, w5⟩
  · exact .inl ⟨e, hk _ _ hz f, hk _ _ hTO g⟩
  · exact .inr ⟨T, f, oT, hk _ _ hz u, hk _ _ w5 v, w1, w2, w3, w4, w5⟩
theorem zl_item {Q : Option Value → Shared → Prop} (Z : ZipSep2 z TI TO i1 i2 fp1 fp2) (D1 : Draws prog w A.in1 i1 fp1 n1 P1 St1) (D2 : Draws prog w A.in1 i2 fp2 n2 P2 St2) (hst : ZlSt s.heap z TI TO S i1 i2 St1 St2 i) (hS : S < s.heap.objs.size) (hlt1 : i < n1) (hlt2 : i < n2)
    (hQ : ∀ x1 x2 h' tk, P1 i x1 → P2 i x2 → ZlSt h' z TI TO S i1 i2 St1 St2 (i + 1) → h'.get? s.heap.objs.size = some { cls := .type "tuple", data := .seq #[x1, x2] } → h'.objs.size = s.heap.objs.size + 1 →
      (∀ b o, b ≠ z → b ≠ TO → b ≠ i1 → b ≠ i2 → s.heap.get? b = some o → h'.get? b = some o) → Q (some (.ref s.heap.objs.size)) { s with heap := h', toks := tk }) :
    wpAny (model prog w) A (pyNext (.ref z)) Q E s := by
  obtain ⟨hTI, st1, st2, d⟩ := hst
  have lt : ∀ {c o}, s.heap.get? c = some o → s.heap.objs.size ≠ c := fun e => Nat.ne_of_gt (Heap.lt_size e)
  have l1 : s.heap.objs.size ≠ i1 := by obtain ⟨_, e⟩ := D1.live _ _ st1; exact lt e
  have l2 : s.heap.objs.size ≠ i2 := by obtain ⟨_, e⟩ := D2.live _ _ st2; exact lt e
  rcases d with ⟨e, f, g⟩ | ⟨T, f, oT, u, v, w1, w2, w3, w4, w5⟩
  · exact wpAny_pyNext_zipD2_item Z D1 D2 f hTI g st1 st2 hlt1 hlt2 fun x1 x2 h' tk y1 y2 b1 b2 d1 d2 b5 b6 b7 =>
      hQ x1 x2 h' tk y1 y2 ⟨b7 _ _ Z.TIz Z.TITO Z.TIi1 Z.TIi2 hTI, d1, d2, .inr ⟨s.heap.objs.size, false, _, b1, b5, lt f, lt g, l1, l2, Nat.ne_of_gt hS⟩⟩ b5 b6 b7
  · exact pyNext_zipH_item Z D1 D2 u v hTI st1 st2 hlt1 hlt2 fun x1 x2 h' tk y1 y2 b1 d1 d2 b5 b6 b7 =>
      hQ x1 x2 h' tk y1 y2 ⟨b7 _ _ Z.TIz Z.TIi1 Z.TIi2 hTI, d1, d2, .inr ⟨T, true, oT, b1, b7 _ _ w1 w3 w4 v, w1, w2, w3, w4, w5⟩⟩ b5 b6 fun b o c1 _ c2 c3 e => b7 b o c1 c2 c3 e
theorem zl_done {Q : Option Value → Shared → Prop} (Z : ZipSep2 z TI TO i1 i2 fp1 fp2) (D1 : Draws prog w A.in1 i1 fp1 n1 P1 St1) (D2 : Draws prog w A.in1 i2 fp2 n2 P2 St2) (hst : ZlSt s.heap z TI TO S i1 i2 St1 St2 i) (hle1 : i ≤ n1) (hle2 : i ≤ n2) (hend : i = n1 ∨ i = n2)
    (hQ : ∀ h' tk, (∀ b o, b ≠ z → b ≠ TO → b ≠ i1 → b ≠ i2 → s.heap.get? b = some o → h'.get? b = some o) → Q none { s with heap := h', toks := tk }) :
    wpAny (model prog w) A (pyNext (.ref z)) Q E s := by
  obtain ⟨hTI, st1, st2, d⟩ := hst
  rcases d with ⟨e, f, g⟩ | ⟨T, f, oT, u, v, w1, w2, w3, w4, w5⟩
  · exact wpAny_pyNext_zipD2_end Z D1 D2 f hTI g st1 st2 hle1 hle2 hend hQ
  · exact pyNext_zipH_end Z D1 D2 u v hTI st1 st2 hle1 hle2 hend fun h' tk hk => hQ h' tk fun b o c1 _ c2 c3 e => hk b o c1 c2 c3 e
end
section
variable {prog : Program} {w : World} {A : Around} {s : Shared} {R : Result → Shared → Prop} {z TI TO i1 i2 S : Addr} {fp1 fp2 : List Addr} {n1 n2 : Nat} {P1 P2 : Nat → Value → Prop} {St1 St2 : Nat → Heap → Prop}
structure ZlOff (S z TI TO i1 i2 : Addr) (fp1 fp2 : List Addr) : Prop where
  z : z < S
  TI : TI < S
  TO : TO < S
  i1 : i1 < S
  i2 : i2 < S
  f1 : S ∉ fp1
  f2 : S ∉ fp2
theorem zl_loop (Z : ZipSep2 z TI TO i1 i2 fp1 fp2) (D1 : Draws prog w A.in1.in1 i1 fp1 n1 P1 St1) (D2 : Draws prog w A.in1.in1 i2 fp2 n2 P2 St2) (O : ZlOff S z TI TO i1 i2 fp1 fp2) (hn : n1 ≤ sizeLine) (res : Value) {h₁ : Heap}
    (hR : ∀ h' tk acc c as, (∀ b o, b ≠ S → b ≠ z → b ≠ TO → b ≠ i1 → b ≠ i2 → h₁.get? b = some o → h'.get? b = some o) → h'.get? S = some { cls := .type "list", dict := none, data := .seq acc c, slots := #[] } → as.length = min n1 n2 → ZlG P1 P2 S h' as →
      acc.toList = as.map Value.ref → R (.ok (.ret res)) { s with heap := h', toks := tk }) :
    ∀ (k i : Nat) (h : Heap) (tk c : Nat) (acc : Array Value) (as : List Addr), min n1 n2 - i = k → i ≤ min n1 n2 → ZlSt h z TI TO S i1 i2 St1 St2 i → (∀ b o, b ≠ S → b ≠ z → b ≠ TO → b ≠ i1 → b ≠ i2 → h₁.get? b = some o → h.get? b = some o) →
      h.get? S = some { cls := .type "list", dict := none, data := .seq acc c, slots := #[] } → acc.toList = as.map Value.ref → as.length = i → ZlG P1 P2 S h as →
      codeAny (model prog w) A (.builtin "list.extend.loop" ⟨[.ref S, .ref z, res], []⟩) R { s with heap := h, toks := tk } := by
  have nz : S ≠ z := Nat.ne_of_gt O.z
  have nI : S ≠ TI := Nat.ne_of_gt O.TI
  have nO : S ≠ TO := Nat.ne_of_gt O.TO
  have n1' : S ≠ i1 := Nat.ne_of_gt O.i1
  have n2' : S ≠ i2 := Nat.ne_of_gt O.i2
  have up5 : ∀ a, S < a → a ≠ S ∧ a ≠ z ∧ a ≠ TO ∧ a ≠ i1 ∧ a ≠ i2 := fun a h => ⟨Nat.ne_of_gt h, Nat.ne_of_gt (Nat.lt_trans O.z h), Nat.ne_of_gt (Nat.lt_trans O.TO h), Nat.ne_of_gt (Nat.lt_trans O.i1 h), Nat.ne_of_gt (Nat.lt_trans O.i2 h)⟩
  intro k
  induction k with
  | zero =>
    intro i h tk c acc as hk hi hst hkeep hS hacc hal hG
    have hin : i = min n1 n2 := by omega
    refine codeAny_builtin PySem.F.entry_extend_loop ?_
    rw [Around.under_plainId PySem.F.plain_extend_loop _]
    show wpAny _ A.in1 (pyNext (.ref z) >>= _) _ _ _
    refine wpAny_bind (zl_done (s := { s with heap := h, toks := tk }) (A := A.in1) Z D1 D2 hst (by omega) (by omega) (by omega) fun h' tk' he => ?_)
    refine wpAny_pure (hR h' tk' acc c as (fun b o c0 c1 c2 c3 c4 e => he b o c1 c2 c3 c4 (hkeep b o c0 c1 c2 c3 c4 e)) (he S _ nz nO n1' n2' hS) (by omega) ⟨hG.rise, hG.above, fun j a hj => ?_⟩ hacc)
    obtain ⟨x, y, e1, e2, e3⟩ := hG.pairs j a hj
    obtain ⟨u0, u1, u2, u3, u4⟩ := up5 a (hG.above a (List.mem_of_getElem? hj))
    exact ⟨x, y, e1, e2, he a _ u1 u2 u3 u4 e3⟩
  | succ k ih =>
    intro i h tk c acc as hk hi hst hkeep hS hacc hal hG
    have hlt : i < min n1 n2 := by omega
    have hsz : acc.size = i := by rw [← Array.length_toList, hacc, List.length_map, hal]
    refine codeAny_builtin PySem.F.entry_extend_loop ?_
    rw [Around.under_plainId PySem.F.plain_extend_loop _]
    show wpAny _ A.in1 (pyNext (.ref z) >>= _) _ _ _
    have hSl : S < h.objs.size := Heap.lt_size hS
    refine wpAny_bind (zl_item (s := { s with heap := h, toks := tk }) (A := A.in1) (S := S) Z D1 D2 hst hSl (by omega) (by omega) fun x1 x2 h' tk' y1 y2 hst' ht hz hkp => ?_)
    dsimp only at ht hz hkp ⊢
    have hS' := hkp S _ nz nO n1' n2' hS
    have up : ∀ b o, b ≠ S → h'.get? b = some o → (h'.update S (Obj.mapSeq (·.push (Value.ref h.objs.size)))).get? b = some o := fun b o hb e => (Heap.get?_update_other _ _ (Ne.symm hb)).trans e
    show wpAny _ A.in1 (updateSeq S (·.push (Value.ref h.objs.size)) >>= _) _ _ _
    refine wpAny_bind ?_
    refine wpAny_updateSeq hS' rfl (wpAny_pure ⟨plainId_quiet PySem.F.plain_extend_loop _, ih (i + 1) _ tk' _ (acc.push (Value.ref h.objs.size)) (as ++ [h.objs.size]) (by omega) hlt (hst'.keep D1 D2 up (Ne.symm nz) (Ne.symm nI) (Ne.symm nO) O.f1 O.f2)
      (fun b o c0 c1 c2 c3 c4 e => up b o c0 (hkp b o c1 c2 c3 c4 (hkeep b o c0 c1 c2 c3 c4 e))) (Heap.get?_update_self _ hS' rfl) (by rw [Array.toList_push, hacc, List.map_append]; rfl) (by rw [List.length_append, hal]; rfl) ⟨?_, ?_, ?_⟩⟩) (by rw [hsz]; omega) (by show (acc.push (Value.ref h.objs.size)).size ≤ sizeLine + 1; rw [Array.size_push, hsz]; omega)
    · refine List.pairwise_append.mpr ⟨hG.rise, List.pairwise_singleton _ _, fun a ha b hb => ?_⟩
      rw [List.mem_singleton.mp hb]
      exact hG.there ha
    · intro a ha
      rcases List.mem_append.mp ha with ha | ha
      · exact hG.above a ha
      · rw [List.mem_singleton.mp ha]; exact hSl
    · intro j b hj
      rcases Nat.lt_trichotomy j as.length with h1 | h1 | h1
      · rw [List.getElem?_append_left h1] at hj
        obtain ⟨x', y', e1, e2, e3⟩ := hG.pairs j b hj
        obtain ⟨u0, u1, u2, u3, u4⟩ := up5 b (hG.above b (List.mem_of_getElem? hj))
        exact ⟨x', y', e1, e2, up b _ u0 (hkp b _ u1 u2 u3 u4 e3)⟩
      · subst h1
        have hb : h.objs.size = b := by simpa using hj
        subst hb
        exact ⟨x1, x2, by rw [hal]; exact y1, by rw [hal]; exact y2, up _ _ (Nat.ne_of_gt hSl) ht⟩
      · have hnone : (as ++ [h.objs.size])[j]? = none := List.getElem?_eq_none (by rw [List.length_append, List.length_singleton]; omega)
        rw [hnone] at hj; cases hj
end
section
variable {prog : Program} {w : World} {A : Around} {E : Value → Shared → Prop} {s : Shared} {R : Result → Shared → Prop} {z TI TO i1 i2 S : Addr} {fp1 fp2 : List Addr} {n1 n2 : Nat} {P1 P2 : Nat → Value → Prop} {St1 St2 : Nat → Heap → Prop}
theorem zl_extend (Z : ZipSep2 z TI TO i1 i2 fp1 fp2) (D1 : Draws prog w A.in1.in1 i1 fp1 n1 P1 St1) (D2 : Draws prog w A.in1.in1 i2 fp2 n2 P2 St2) (O : ZlOff S z TI TO i1 i2 fp1 fp2) (hn : n1 ≤ sizeLine) (res : Value) (c₀ : Nat)
    (hz : IsZip s.heap z TI TO .none) (hTI : IsTupOf2 s.heap TI (.ref i1) (.ref i2)) (hTO : IsTupOf2 s.heap TO .none .none) (st1 : St1 0 s.heap) (st2 : St2 0 s.heap) (hS : s.heap.get? S = some { cls := .type "list", data := .seq #[] c₀ })
    (hR : ∀ h' tk acc c as, (∀ b o, b ≠ S → b ≠ z → b ≠ TO → b ≠ i1 → b ≠ i2 → s.heap.get? b = some o → h'.get? b = some o) → h'.get? S = some { cls := .type "list", dict := none, data := .seq acc c, slots := #[] } → as.length = min n1 n2 → ZlG P1 P2 S h' as →
      acc.toList = as.map Value.ref → R (.ok (.ret res)) { s with heap := h', toks := tk }) :
    wpAny (model prog w) A.in1 (Builtin.List.listExtendWith (.ref S) (.ref z) res)
      (fun fin s' => match fin with | .done f => R (.ok f) s' | .again c' => c'.quiet = true ∧ codeAny (model prog w) A c' R s') (fun e s' => R (.error e) s') s := by
  have nz : S ≠ z := Nat.ne_of_gt O.z
  have hT : s.TypeIs (.ref z) "zip" := ⟨_, hz, rfl⟩
  have key : ∀ (h : Heap) (c₁ tk : Nat), (∀ b o, b ≠ S → s.heap.get? b = some o → h.get? b = some o) →
      h.get? S = some { cls := .type "list", data := .seq #[] c₁ } → codeAny (model prog w) A (.builtin "list.extend.loop" ⟨[.ref S, .ref z, res], []⟩) R { s with heap := h, toks := tk } := by
    intro h c₁ tk hk hS₁
    have st0 : ZlSt s.heap z TI TO S i1 i2 St1 St2 0 := ⟨hTI, st1, st2, .inl ⟨rfl, hz, hTO⟩⟩
    refine zl_loop (s := s) (h₁ := s.heap) Z D1 D2 O hn res hR
      (min n1 n2) 0 h tk c₁ #[] [] (Nat.sub_zero _) (Nat.zero_le _) (st0.keep D1 D2 hk (Nat.ne_of_lt O.z) (Nat.ne_of_lt O.TI) (Nat.ne_of_lt O.TO) O.f1 O.f2) (fun b o hb _ _ _ _ e => hk b o hb e) hS₁ rfl rfl
      ⟨List.Pairwise.nil, (fun _ ha => nomatch ha), (fun j a hj => by simp at hj)⟩
  unfold Builtin.List.listExtendWith
  refine wpAny_bind (wpAny_typeOf (T := "zip") hT ?_)
  have h1 : Builtin.List.listSameRef (.ref S) (.ref z) = false := by simp [Builtin.List.listSameRef, nz]
  have h2 : (Value.type "zip" == Value.type "list") = false := by decide
  have h3 : (Value.type "zip" == Value.type "tuple") = false := by decide
  simp only [h1, h2, h3, Bool.or_false, Bool.false_eq_true, if_false]
  refine wpAny_bind (wpAny_pyIter_zip hz ?_)
  refine wpAny_bind (wpAny_holding (zl_hint hT ?_))
  refine wpAny_ite_split (fun _ => ?_) (fun _ => wpAny_pure ⟨plainId_quiet PySem.F.plain_extend_loop _, key _ c₀ _ (fun b o _ e => e) hS⟩)
  refine wpAny_bind (wpAny_rule ?_)
  refine wpAny_bind ?_
  show wpAny _ _ (updateSeq S (·.push .none) >>= fun _ => updateSeq S (·.pop)) _ _ _
  refine wpAny_bind (wpAny_updateSeq hS rfl ?_)
  have hS₂ := Heap.get?_update_self (Obj.mapSeq (·.push Value.none)) hS rfl
  refine wpAny_updateSeq (hz := by seq_fits) hS₂ rfl ?_
  have hS₃ := Heap.get?_update_self (Obj.mapSeq (·.pop)) hS₂ rfl
  refine wpAny_pure ⟨plainId_quiet PySem.F.plain_extend_loop _, key _ _ _ (fun b o hb e => ?_) hS₃⟩
  exact (Heap.get?_update_other _ _ (Ne.symm hb)).trans ((Heap.get?_update_other _ _ (Ne.symm hb)).trans e)
theorem zl_init (Z : ZipSep2 z TI TO i1 i2 fp1 fp2) (D1 : Draws prog w A.in1.in1 i1 fp1 n1 P1 St1) (D2 : Draws prog w A.in1.in1 i2 fp2 n2 P2 St2) (O : ZlOff S z TI TO i1 i2 fp1 fp2) (hn : n1 ≤ sizeLine)
    (hz : IsZip s.heap z TI TO .none) (hTI : IsTupOf2 s.heap TI (.ref i1) (.ref i2)) (hTO : IsTupOf2 s.heap TO .none .none) (st1 : St1 0 s.heap) (st2 : St2 0 s.heap) (hS : s.heap.get? S = some { cls := .type "list", data := .seq #[] })
    (hR : ∀ h' tk acc c as, (∀ b o, b ≠ S → b ≠ z → b ≠ TO → b ≠ i1 → b ≠ i2 → s.heap.get? b = some o → h'.get? b = some o) → h'.get? S = some { cls := .type "list", dict := none, data := .seq acc c, slots := #[] } → as.length = min n1 n2 → ZlG P1 P2 S h' as →
      acc.toList = as.map Value.ref → R (.ok (.ret .none)) { s with heap := h', toks := tk }) :
    wpAny (model prog w) A.in1 (Builtin.«list.__init__» ⟨[.ref S, .ref z], []⟩)
      (fun fin s' => match fin with | .done f => R (.ok f) s' | .again c' => c'.quiet = true ∧ codeAny (model prog w) A c' R s') (fun e s' => R (.error e) s') s := by
  show wpAny _ _ (do let old ← Builtin.List.listItems (.ref S); Builtin.List.listUpdate (.ref S) (fun _ => #[]); letGo old.toList.reverse; Builtin.List.listExtendWith (.ref S) (.ref z) .none) _ _ s
  refine wpAny_bind ?_
  unfold Builtin.List.listItems
  refine wpAny_bind (wpAny_seqItems hS rfl (wpAny_pure ?_))
  show wpAny _ _ (updateSeq S (fun _ => #[]) >>= fun _ => letGo (#[] : Array Value).toList.reverse >>= fun _ => Builtin.List.listExtendWith (.ref S) (.ref z) .none) _ _ s
  refine wpAny_bind (wpAny_updateSeq hS rfl ?_)
  have hS₂ := Heap.get?_update_self (Obj.mapSeq (fun _ => (#[] : Array Value))) hS rfl
  have oth : ∀ b o, b ≠ S → s.heap.get? b = some o → (s.heap.update S (Obj.mapSeq (fun _ => (#[] : Array Value)))).get? b = some o :=
    fun b o hb e => (Heap.get?_update_other _ _ (Ne.symm hb)).trans e
  refine wpAny_bind (wpAny_letGo ?_)
  refine zl_extend Z D1 D2 O hn .none _ (oth _ _ (Nat.ne_of_lt O.z) hz) (oth _ _ (Nat.ne_of_lt O.TI) hTI) (oth _ _ (Nat.ne_of_lt O.TO) hTO) (D1.frame _ _ _ st1 fun b hb o e => oth b o (fun y => O.f1 (y ▸ hb)) e) (D2.frame _ _ _ st2 fun b hb o e => oth b o (fun y => O.f2 (y ▸ hb)) e) hS₂ (fun h' tk acc c as hk hS' hl hG hacc => ?_)
  exact hR h' tk acc c as (fun b o c0 c1 c2 c3 c4 e => hk b o c0 c1 c2 c3 c4 (oth b o c0 e)) hS' hl hG hacc
theorem zl_call {Q : Value → Shared → Prop} (Z : ZipSep2 z TI TO i1 i2 fp1 fp2) (D1 : Draws prog w A.in1.in1.in1 i1 fp1 n1 P1 St1) (D2 : Draws prog w A.in1.in1.in1 i2 fp2 n2 P2 St2) (O : ZlOff s.heap.objs.size z TI TO i1 i2 fp1 fp2) (hn : n1 ≤ sizeLine)
    (hz : IsZip s.heap z TI TO .none) (hTI : IsTupOf2 s.heap TI (.ref i1) (.ref i2)) (hTO : IsTupOf2 s.heap TO .none .none) (st1 : St1 0 s.heap) (st2 : St2 0 s.heap)
    (hQ : ∀ h' tk acc c as, (∀ b o, b ≠ z → b ≠ TO → b ≠ i1 → b ≠ i2 → s.heap.get? b = some o → h'.get? b = some o) → h'.get? s.heap.objs.size = some { cls := .type "list", dict := none, data := .seq acc c, slots := #[] } → as.length = min n1 n2 → ZlG P1 P2 s.heap.objs.size h' as →
      acc.toList = as.map Value.ref → Q (.ref s.heap.objs.size) { s with heap := h', toks := tk }) :
    wpAny (model prog w) A (call (.type "list") [.ref z]) Q E s := by
  refine callType_codes (Q₁ := fun obj s₁ => obj = .ref s.heap.objs.size ∧ s₁ = { s with heap := s.heap.push { cls := .type "list", data := .seq #[] } }) PySem.F.called_list (PySem.F.typeCall_list_1 _) PySem.F.entry_list_init
    (code_list_new _ ⟨rfl, rfl⟩) fun obj s₁ h₁ => ?_
  obtain ⟨rfl, rfl⟩ := h₁
  have hS : (s.heap.push { cls := .type "list", data := .seq #[] }).get? s.heap.objs.size = some { cls := .type "list", data := .seq #[] } := Heap.get?_push_size _ rfl
  refine ⟨⟨_, hS, rfl⟩, PySem.F.args_list_init_2 _ _, zl_init (A := A.in1) Z D1 D2 O hn (Heap.get?_push_of_some _ hz) (Heap.get?_push_of_some _ hTI) (Heap.get?_push_of_some _ hTO) (D1.frame _ _ _ st1 fun b hb o e => Heap.get?_push_of_some _ e) (D2.frame _ _ _ st2 fun b hb o e => Heap.get?_push_of_some _ e) hS (fun h' tk acc c as hk hS' hl hG hacc => ?_)⟩
  exact ⟨rfl, hQ h' tk acc c as (fun b o c1 c2 c3 c4 e => hk b o (Nat.ne_of_lt (Heap.lt_size e)) c1 c2 c3 c4 (Heap.get?_push_of_some _ e)) hS' hl hG hacc⟩
end
end PySem.W
end
section
set_option Elab.async false
set_option linter.all false
set_option maxRecDepth 100000
set_option autoImplicit false
set_option maxHeartbeats 4000000
/-! list(zip(a, b)): the rule -/
namespace LzI
open PySem PySem.Spec PyProof.Rows L2
def putP : Hp → List Addr → List (V × V) → Hp
  | H, a :: as, p :: kvs => putP (upd H a (.tup [p.1, p.2])) as kvs
  | H, _, _ => H
theorem putP_off {b : Addr} : ∀ (as : List Addr) (kvs : List (V × V)) (H : Hp), b ∉ as → putP H as kvs b = H b
  | [], _, _, _ => rfl
  | _ :: _, [], _, _ => rfl
  | a :: as, p :: kvs, H, h => by
    show putP (upd H a (.tup [p.1, p.2])) as kvs b = H b
    rw [putP_off as kvs _ (fun z => h (List.mem_cons_of_mem _ z)), upd_ne (fun z => h (by rw [z]; exact List.mem_cons_self))]
theorem putP_at : ∀ (as : List Addr) (kvs : List (V × V)) (H : Hp), as.length = kvs.length → as.Nodup → Paired (fun (t : Addr) (p : V × V) => putP H as kvs t = some (.tup [p.1, p.2])) as kvs
  | [], [], _, _, _ => .nil
  | [], _ :: _, _, h, _ => by cases h
  | _ :: _, [], _, h, _ => by cases h
  | a :: as, p :: kvs, H, h, hn => by
    have hn' := List.nodup_cons.mp hn
    have ih := putP_at as kvs (upd H a (.tup [p.1, p.2])) (Nat.succ.inj h) hn'.2
    refine .cons ?_ ih
    show putP (upd H a (.tup [p.1, p.2])) as kvs a = some (.tup [p.1, p.2])
    rw [putP_off as kvs _ hn'.1, upd_same]
theorem off2 {N a S : Nat} (h : N < S) (h2 : a < S) : S ∉ [N, a] := by simp; omega
theorem ad {n k m : Nat} (h : k < m) : n + k < n + m := Nat.add_lt_add_left h n
theorem ne4 {N c k : Nat} (h : c < N) : c ≠ N + k := by omega
structure Src (prog : Program) (w : World) (h : Heap) (a : Addr) (n : Nat) (P : Nat → Value → Prop) (o : Obj) (Hh : Heap → Prop) (St : Addr → Nat → Heap → Prop) : Prop where
  beg : Begins (.ref a) o Hh
  at_ : Hh h
  lt : a < h.objs.size
  draws : ∀ (A : Around) (it : Addr), A.handled = none → a ≠ it → Draws prog w A it [it, a] n P (St it)
  start : ∀ (h' : Heap) (it : Addr), h'.get? it = some o → (∀ b ob, h.get? b = some ob → h'.get? b = some ob) → St it 0 h'
theorem src_list {prog : Program} {w : World} {h : Heap} {a : Addr} {its : Array Value} (hl : h.IsList a its) : Src prog w h a its.size (fun i v => its[i]? = some v) { cls := .type "list_iterator", data := .fields #[.ref a, .int 0 0] } (fun h => h.IsList a its) (fun it i h => h.IsListIter it a i ∧ h.IsList a its) where
  beg := begins_list a its
  at_ := hl
  lt := let ⟨_, e, _⟩ := hl; Heap.lt_size e
  draws := fun A it hh hne => .list hh it a hne its
  start := fun h' it e k => ⟨⟨_, e, rfl, rfl⟩, (begins_list a its).keeps _ _ hl k⟩
theorem src_tuple {prog : Program} {w : World} {h : Heap} {a : Addr} {its : Array Value} (hl : h.IsTuple a its) : Src prog w h a its.size (fun i v => its[i]? = some v) { cls := .type "tuple_iterator", data := .fields #[.ref a, .int 0 0] } (fun h => h.IsTuple a its) (fun it i h => h.IsTupleIter it a i ∧ h.IsTuple a its) where
  beg := begins_tuple a its
  at_ := hl
  lt := let ⟨_, e, _⟩ := hl; Heap.lt_size e
  draws := fun A it hh hne => .tuple hh it a hne its
  start := fun h' it e k => ⟨⟨_, e, rfl, rfl⟩, (begins_tuple a its).keeps _ _ hl k⟩
def tListZip (K : PySem.W.Frag) (ta : TA) : TE := fun σ H Q => ta σ H fun vs H1 => ∃ a b xs ys, vs = [.ref a, .ref b] ∧ ((SqL K H1 a xs ∧ SqL K H1 b ys) ∨ (SqT K H1 a xs ∧ SqT K H1 b ys)) ∧
  ∀ (H' : Hp) (p : Addr) (ts : List Addr), (∀ c o, H1 c = some o → H' c = some o) → H1 p = none → (∀ t ∈ ts, H1 t = none) → p ∉ ts → H' p = some (.lst (ts.map V.ref)) → Paired (fun (t : Addr) (q : V × V) => H' t = some (.tup [q.1, q.2])) ts (xs.zip ys) → Q (.ref p) H'
section
variable {X : Cx} {pins : List (Addr × Obj)} {σ : L2.St} {H : Hp}
theorem zip_laid {s : Shared} {h' : Heap} {tk : Nat} {kvs : List (V × V)} {P1 P2 : Nat → Value → Prop} {acc : Array Value} {c : Nat} {as : List Addr} {S : Addr} (I : Inv X pins σ H s) (hz : kvs.length ≤ sizeLine) (hSl : s.heap.objs.size ≤ S)
    (hk : ∀ b o, s.heap.get? b = some o → h'.get? b = some o) (hS : h'.get? S = some { cls := .type "list", dict := none, data := .seq acc c, slots := #[] }) (hl : as.length = kvs.length) (hG : PySem.W.ZlG P1 P2 S h' as) (hacc : acc.toList = as.map Value.ref)
    (rel : ∀ j (q : V × V) x y, kvs[j]? = some q → P1 j x → P2 j y → RelV q.1 x ∧ RelV q.2 y) :
    ∃ H' : Hp, (∀ b o, H b = some o → H' b = some o) ∧ H S = none ∧ (∀ t ∈ as, H t = none) ∧ S ∉ as ∧ H' S = some (.lst (as.map V.ref)) ∧ Paired (fun (t : Addr) (q : V × V) => H' t = some (.tup [q.1, q.2])) as kvs ∧ Inv X pins σ H' { s with heap := h', toks := tk } := by
  have hSn : S ∉ as := fun z => Nat.lt_irrefl _ (hG.above _ z)
  have nd : as.Nodup := List.Pairwise.imp (fun {a b} (h : a < b) => Nat.ne_of_lt h) hG.rise
  have new : ∀ t ∈ as, H t = none := fun t ht => I.hok.fresh (Nat.le_trans hSl (Nat.le_of_lt (hG.above t ht)))
  have newS : H S = none := I.hok.fresh hSl
  have atP := putP_at as kvs (upd H S (.lst (as.map V.ref))) hl nd
  have off : ∀ b, b ∉ as → b ≠ S → putP (upd H S (.lst (as.map V.ref))) as kvs b = H b := fun b h1 h2 => by rw [putP_off as kvs _ h1, upd_ne h2]
  have low : ∀ b o, s.heap.get? b = some o → b ∉ as ∧ b ≠ S := fun b o e => ⟨fun z => absurd (Heap.lt_size e) (Nat.not_lt.mpr (Nat.le_trans hSl (Nat.le_of_lt (hG.above b z)))), Nat.ne_of_lt (Nat.lt_of_lt_of_le (Heap.lt_size e) hSl)⟩
  have kp : ∀ b u, H b = some u → (putP (upd H S (.lst (as.map V.ref))) as kvs) b = some u := fun b u e => by
    rw [off b (fun z => by rw [new b z] at e; cases e) (fun z => by rw [z, newS] at e; cases e)]
    exact e
  have eS : putP (upd H S (.lst (as.map V.ref))) as kvs S = some (.lst (as.map V.ref)) := by rw [putP_off as kvs _ hSn, upd_same]
  refine ⟨putP (upd H S (.lst (as.map V.ref))) as kvs, kp, newS, new, hSn, eS, atP, ?_⟩
  refine I.call' (ch := []) rfl ⟨fun b o q _ _ _ => hk b o q, fun b o q _ _ _ => ⟨o.slots, hk b o q⟩, fun b o q n _ => ?_, fun b o q _ => ⟨o, hk b o q⟩, fun b xs q => kp b _ q, fun b o u q => kp b _ q, fun b ps q => ⟨#[], by rw [kp b _ q]; simp⟩⟩ (fun b u q => ?_) I.bare fun b z => by simp at z
  · obtain ⟨z1, z2⟩ := low b o q
    rw [off b z1 z2]
    exact n
  · by_cases hb : b ∈ as
    · obtain ⟨j, pk, e1, e2, e3⟩ := LiI.paired_ix atP hb
      rw [e3] at q
      cases q
      obtain ⟨x, y, f1, f2, f3⟩ := hG.pairs j b e1
      obtain ⟨r1, r2⟩ := rel j pk x y e2 f1 f2
      exact ⟨by show 2 ≤ sizeLine; decide, [x, y], .cons r1 (.cons r2 .nil), ⟨_, f3, rfl, _, rfl⟩⟩
    · by_cases hb2 : b = S
      · rw [hb2] at q ⊢
        rw [eS] at q
        cases q
        refine ⟨by rw [List.length_map]; omega, acc.toList, c, by rw [hacc]; exact LiI.vals_refs as, ?_⟩
        rw [Array.toArray_toList]
        exact hS
      · rw [off b hb hb2] at q
        exact (I.hok b u q).stay (fun d v _ y => hk d v y) (fun d y => kp d _ y) fun d xs y => kp d _ y
theorem zip_list {s : Shared} {a b : Addr} {xs ys : List V} {its its2 : List Value} {o1 o2 : Obj} {H1 H2 : Heap → Prop} {St1 St2 : Addr → Nat → Heap → Prop} {Q : VK}
    (hc : X.calm = true) (I : Inv X pins σ H s) (rv : Vals xs its) (rv2 : Vals ys its2) (zx : xs.length ≤ sizeLine)
    (s1 : Src X.prog X.w s.heap a its.length (fun i v => its.toArray[i]? = some v) o1 H1 St1) (s2 : Src X.prog X.w s.heap b its2.length (fun i v => its2.toArray[i]? = some v) o2 H2 St2)
    (q : ∀ (H' : Hp) (p : Addr) (ts : List Addr), (∀ c o, H c = some o → H' c = some o) → H p = none → (∀ t ∈ ts, H t = none) → p ∉ ts → H' p = some (.lst (ts.map V.ref)) → Paired (fun (t : Addr) (q : V × V) => H' t = some (.tup [q.1, q.2])) ts (xs.zip ys) → Q (.ref p) H') :
    wpAny (model X.prog X.w) X.A (call (.type "zip") [.ref a, .ref b]) (fun z s' => wpAny (model X.prog X.w) X.A (call (.type "list") [z]) (EP X pins σ Q) X.xe s') X.xe s := by
  refine zip_begins2 s1.beg s2.beg s1.at_ s2.at_ fun h' hz hTI hTO h1 h2 hsz hk => ?_
  have hn : X.A.handled = none := I.ok.hd hc
  have la := s1.lt
  have lb := s2.lt
  have Z : ZipSep2 (s.heap.objs.size + 4) (s.heap.objs.size + 2) (s.heap.objs.size + 3) s.heap.objs.size (s.heap.objs.size + 1) [s.heap.objs.size, a] [s.heap.objs.size + 1, b] := zip_sep2 (fun c hc => by rw [List.mem_singleton.mp hc]; exact la) (fun c hc => by rw [List.mem_singleton.mp hc]; exact lb)
  refine PySem.W.zl_call (s := { s with heap := h' }) Z (s1.draws _ _ hn (Nat.ne_of_lt la)) (s2.draws _ _ hn (ne4 lb)) ?_ (by rw [← rv.length]; exact zx) hz hTI hTO (s1.start h' _ h1 hk) (s2.start h' _ h2 hk) fun h'' tk acc c as hk2 hS hl hG hacc => ?_
  · show PySem.W.ZlOff h'.objs.size _ _ _ _ _ _ _
    rw [hsz]
    exact ⟨ad (by decide), ad (by decide), ad (by decide), ad (k := 0) (by decide), ad (by decide), off2 (ad (k := 0) (by decide)) (Nat.lt_add_right 5 la), off2 (ad (by decide)) (Nat.lt_add_right 5 lb)⟩
  · have hl2 : as.length = (xs.zip ys).length := by rw [hl, List.length_zip, rv.length, rv2.length]
    obtain ⟨H', k1, k2, k3, k4, k5, k6, J⟩ := zip_laid (s := s) (tk := tk) (kvs := xs.zip ys) (S := h'.objs.size) I (by rw [List.length_zip]; omega) (by rw [hsz]; omega) (fun b o e => by
        have e' := Heap.lt_size e
        exact hk2 b o (ne4 e') (ne4 e') (ne4 (k := 0) e') (ne4 e') (hk b o e)) hS hl2 hG hacc fun j p x y hj hx hy => by
      obtain ⟨g1, g2⟩ := List.getElem?_zip_eq_some.mp hj
      obtain ⟨x', f1, f2⟩ := LiI.paired_get rv g1
      obtain ⟨y', f3, f4⟩ := LiI.paired_get rv2 g2
      simp at hx hy
      rw [hx] at f1; cases f1
      rw [hy] at f3; cases f3
      exact ⟨f2, f4⟩
    exact ⟨.ref _, H', J, rfl, q H' _ as k1 k2 k3 k4 k5 k6⟩
/-- list(zip(e1, e2)) -/
theorem pe_listZip {e e2 : Expr} {ta : TA} {p p2 cpos pos : Pos} (hc : X.calm = true) (ha : PA X [e, e2] ta) (hg : Gl X "list") (hm : X.mg "list" = none) (hg2 : Gl X "zip") (hm2 : X.mg "zip" = none)
    (hs2 : starEach [e, e2] X.env = (false, eval e X.env) :: starEach [e2] X.env := by rfl) (hpl : (backTo cpos (starEach [e2] X.env)).any (·.1) = false := by rfl)
    (hs : starEach [.Call (.Name "zip" p2) [e, e2] [] cpos] X.env = (false, eval (.Call (.Name "zip" p2) [e, e2] [] cpos) X.env) :: starEach [] X.env := by rfl) :
    PE X (.Call (.Name "list" p) [.Call (.Name "zip" p2) [e, e2] [] cpos] [] pos) (tListZip X.K ta) := by
  refine ⟨fun pins s σ H Q I hq => ?_⟩
  refine Call_ (ld_blt I hg hm (by rfl : bootBuiltins "list" = some (.type "list")) ?_)
  refine PyProof.Rows.callWith_type1 ?_ hs rfl
  rw [hs]
  show wpAny _ _ (spliced ((false, eval (.Call (.Name "zip" p2) [e, e2] [] cpos) X.env) :: backTo pos (starEach [] X.env))) _ _ s
  refine Calls.spliced_cons ?_
  refine Call_ (ld_blt I hg2 hm2 PyProof.Rows.boot_zip (PyProof.Rows.callWith_type1 (thn (ha.run cpos pins s σ H _ I hq) fun us s1 ⟨vs, H1, I1, r1, q1⟩ => ?_) hs2 hpl))
  obtain ⟨a, b, xs, ys, ex, hsq, q⟩ := q1
  subst ex
  cases r1 with
  | cons r rr =>
    cases rr with
    | cons r' rr =>
      cases rr
      cases r
      cases r'
      rcases hsq with ⟨hqx, hqy⟩ | ⟨hqx, hqy⟩
      · obtain ⟨its, rv, p1, zx⟩ := I1.list hqx
        obtain ⟨its2, rv2, p2, _⟩ := I1.list hqy
        refine thn (zip_list (Q := Q) hc I1 rv rv2 zx (by simpa using src_list (prog := X.prog) (w := X.w) p1.isList) (by simpa using src_list (prog := X.prog) (w := X.w) p2.isList) q) fun z s2 hz => Calls.spliced_nil ?_
        exact hz
      · obtain ⟨its, rv, p1, zx⟩ := I1.tuple hqx
        obtain ⟨its2, rv2, p2, _⟩ := I1.tuple hqy
        refine thn (zip_list (Q := Q) hc I1 rv rv2 zx (by simpa using src_tuple (prog := X.prog) (w := X.w) p1) (by simpa using src_tuple (prog := X.prog) (w := X.w) p2) q) fun z s2 hz => Calls.spliced_nil ?_
        exact hz
end
end LzI
end
section
set_option Elab.async false
set_option linter.all false
set_option maxRecDepth 100000
set_option autoImplicit false
set_option maxHeartbeats 4000000
/-! lambdas that capture nothing: made, held, called -/
namespace LF
open PySem PySem.Spec PyProof.Rows L2 LamX
structure LamT where
  q : Str
  params : Arguments
  body : Expr
  scope : Scope
abbrev LamT.fd (L : LamT) (pm : Value) (c : Addr) (ctv : Value) : FuncData := PySem.W.kla_fn "<lambda>" L.q L.params L.body L.scope [] pm (.ref c) ctv
/-- the object at f is the lambda L, its code object is at c -/
def LamO (f c : Addr) (L : LamT) : HO := .ext fun h => ∃ (od : Option Addr) (sl : Array (Option Value)) (pm ctv : Value), h.get? f = some (⟨.type "function", od, .func (L.fd pm c ctv), sl⟩ : Obj)
theorem lamO_at {P : Program} {w : World} {H : Hp} {h : Heap} {f c : Addr} {L : LamT} (hok : HOk P w H h) (e : H f = some (LamO f c L)) : ∃ (od : Option Addr) (sl : Array (Option Value)) (pm ctv : Value), h.get? f = some (⟨.type "function", od, .func (L.fd pm c ctv), sl⟩ : Obj) := by
  obtain ⟨z, _, _⟩ := hok f _ e
  exact z
theorem cloNil (cells : List (Str × Addr)) : ∀ (names : List (Str × NameKind)) (acc : List (Str × Addr)), (∀ y ∈ names, y.2 ≠ .free) → cloFrom cells names acc = acc
  | [], acc, _ => rfl
  | (n, k) :: r, acc, h => by
    have hk : k ≠ .free := h (n, k) List.mem_cons_self
    have e : (k == .free) = false := by simpa using hk
    unfold cloFrom
    rw [e]
    exact cloNil cells r acc fun y hy => h y (List.mem_cons_of_mem _ hy)
section
variable {X : Cx} {pins : List (Addr × Obj)} {σ : L2.St} {H : Hp} {s : Shared}
theorem inv_lam {L : LamT} {o : Obj} {t' : Nat} {c : Addr} {pm ctv : Value} (I : Inv X pins σ H s) (ho : o = { cls := .type "function", data := .func (L.fd pm c ctv) }) :
    Inv X pins σ (upd H s.heap.objs.size (LamO s.heap.objs.size c L)) { s with heap := s.heap.push o, toks := t' } := by
  subst ho
  refine I.laid (a := s.heap.objs.size) (fun b u e => Heap.get?_push_of_some _ e) (Nat.le_refl _) ?_
  have e : (s.heap.push ({ cls := .type "function", data := .func (L.fd pm c ctv) } : Obj)).get? s.heap.objs.size = some ({ cls := .type "function", data := .func (L.fd pm c ctv) } : Obj) := Heap.get?_push_size _ rfl
  exact ⟨⟨_, _, pm, ctv, e⟩, ⟨_, e⟩, fun h1 h2 ⟨od, sl, p, t, z⟩ st => ⟨od, sl, p, t, st _ z⟩⟩
def TabsP (T : Addr → Str → Prop) (H : Hp) : Prop := ∀ P q, T P q → TabS H P q
/-- the lambda is made -/
theorem lam_make3 {T : Addr → Str → Prop} {c P : Addr} {params : Arguments} {body : Expr} {scope : Scope} {pos : Pos} {E : Value → Shared → Prop} {Q : Value → Shared → Prop} (I : Inv X pins σ H s) (TB : TabB X.base X.mg c P) (hcode : X.env.code = .ref c)
    (hm : T P (X.env.qual ++ "<lambda>")) (hu : ∀ q, T P q → q = X.env.qual ++ "<lambda>") (hT : TabsP T H) (hdef : defaultsOf params X.env = ([], [])) (hfree : ∀ y ∈ scope.names, y.2 ≠ .free)
    (h : ∀ (f c' : Addr) (H1 : Hp) (s' : Shared), Inv X pins σ H1 s' → ExtN H H1 → (∀ b, H1 b = Option.none → H b = Option.none) → TabsP T H1 → H f = none → H1 f = some (LamO f c' ⟨X.env.qual ++ "<lambda>", params, body, scope⟩) → H1 c' = some (CodeO c' (X.env.qual ++ "<lambda>")) → Q (.ref f) s') :
    wpAny (model X.prog X.w) X.A (eval (.Lambda params body scope pos) X.env) Q E s := by
  obtain ⟨ps, hP, ht, ha⟩ := hT _ _ hm
  refine PySem.W.kla_eval hdef ?_
  have bP : s.heap.BuiltinsAt X.mg P := TB.bm.keeps I.bk
  have hP' : s.heap.get? P = some { cls := .none, data := .fields ps } := I.hok P _ hP
  have hfr : ∀ y ∈ scope.names, y.2 = .free → ∃ c, X.env.cells.lookup y.1 = some c := fun y hy e => absurd e (hfree y hy)
  have eC : cloFrom X.env.cells scope.names [] = [] := cloNil _ _ _ hfree
  cases hc : codeAmong pos ps.toList with
  | none =>
    refine PySem.W.kla_makeFunction (mg := X.mg) (c := c) (P := P) (ps := ps) (closure_ok hfr) I.ok.glob (I.mod.glob.keeps I.bk) hcode (TB.code.keeps I.bk) hP' ht hc TB.gP bP fun c' ctv h' tk hx hge hlt hrec htb => ?_
    obtain ⟨c2, oc, vs, t, e2, hoc, hd, hv⟩ := hrec
    cases e2
    have nC : H c' = none := I.hok.fresh hge
    have I1 := inv_table (t' := tk) (more := #[rawInt pos.line, rawInt pos.col, .ref c']) (h' := h') I hP (fun b o hb e => hx b o hb e) htb hge ⟨oc, vs, t, hoc, hd, hv⟩
    have hE : ExtN H (upd (upd H P (.tbl (ps ++ #[rawInt pos.line, rawInt pos.col, .ref c']))) c' (CodeO c' (X.env.qual ++ "<lambda>"))) := fun b o e n => by
      rw [upd_ne (ne_of_none e nC), upd_ne (fun z => n ps (Option.some.inj (e.symm.trans (by rw [z]; exact hP))))]
      exact e
    have eL : (ps ++ #[rawInt pos.line, rawInt pos.col, .ref c']).toList = ps.toList ++ [rawInt pos.line, rawInt pos.col, .ref c'] := by simp
    have T1 : TabsP T (upd (upd H P (.tbl (ps ++ #[rawInt pos.line, rawInt pos.col, .ref c']))) c' (CodeO c' (X.env.qual ++ "<lambda>"))) := fun P1 q1 hp => by
      by_cases hb : P1 = P
      · rw [hb] at hp ⊢
        rw [hu q1 hp]
        refine ⟨_, by rw [upd_ne (ne_of_none hP nC), upd_same], by rw [eL]; exact PySem.TriplesOk_snoc _ _ _ _ ht, fun p' cv hcv => ?_⟩
        rw [eL] at hcv
        rcases among_app _ ht hcv with z | z
        · obtain ⟨c0, e1, e2⟩ := ha p' cv z
          exact ⟨c0, e1, hE _ _ e2 codeO_ne⟩
        · exact ⟨c', z, upd_same⟩
      · obtain ⟨ps', a1, a2, a3⟩ := hT P1 q1 hp
        refine ⟨ps', by rw [upd_ne (ne_of_none a1 nC), upd_ne hb]; exact a1, a2, fun p' cv hcv => ?_⟩
        obtain ⟨c0, e1, e2⟩ := a3 p' cv hcv
        exact ⟨c0, e1, hE _ _ e2 codeO_ne⟩
    have nF := I1.hok.fresh (Nat.le_refl _)
    have I2 := inv_lam (L := ⟨X.env.qual ++ "<lambda>", params, body, scope⟩) (t' := tk) (c := c') (pm := (X.mg "__name__").getD .none) (ctv := ctv) I1 rfl
    rw [eC]
    refine h h'.objs.size c' _ _ I2 (fun b o e n => ?_) (fun b e => NdefX.upd_none (NdefX.upd_none (NdefX.upd_none e))) (fun P1 q1 hp => (T1 P1 q1 hp).ext fun b o e => ?_) (I.hok.fresh (Nat.le_trans hge (Nat.le_of_lt hlt))) upd_same ?_
    · have e1 := hE b o e n
      exact (upd_ne (ne_of_none e1 nF)).trans e1
    · exact (upd_ne (ne_of_none e nF)).trans e
    · exact (upd_ne (Nat.ne_of_lt hlt)).trans upd_same
  | some cv =>
    obtain ⟨c', e, hco⟩ := ha pos cv hc
    subst e
    refine PySem.W.kla_makeFunctionHit (mg := X.mg) (c := c) (P := P) (ps := ps) (closure_ok hfr) I.ok.glob (I.mod.glob.keeps I.bk) hcode (TB.code.keeps I.bk) hP' ht hc bP fun ctv h' tk hx hsz => ?_
    have I1 : Inv X pins σ H { s with heap := h', toks := tk } := I.kept hx
    have nF : H h'.objs.size = none := I1.hok.fresh (Nat.le_refl _)
    have I2 := inv_lam (L := ⟨X.env.qual ++ "<lambda>", params, body, scope⟩) (t' := tk) (c := c') (pm := (X.mg "__name__").getD .none) (ctv := ctv) I1 rfl
    rw [eC]
    refine h h'.objs.size c' _ _ I2 (fun b o e n => ?_) (fun b e => NdefX.upd_none e) (fun P1 q1 hp => (hT P1 q1 hp).ext fun b o e => ?_) nF upd_same ?_
    · exact (upd_ne (ne_of_none e nF)).trans e
    · exact (upd_ne (ne_of_none e nF)).trans e
    · exact (upd_ne (ne_of_none hco nF)).trans hco
end
/-! ### its code -/
structure LamOk (P : Program) (w : World) (K : PySem.W.Frag) (mg : Str → Option Value) (base : Heap) (CX : CXT) (k : Nat) (L : LamT) (sp : Sp) : Prop where
  run : ∀ (A : Around) (outer : List Env) (s : Shared) (H : Hp) (us : List Value) (vs : List V) (Q : VK) (E : XK) (f c : Addr), Room k A → Env0 P w K mg base A outer s H → H f = some (LamO f c L) → H c = some (CodeO c L.q) → Vals vs us → sp vs H Q E →
    codeAny (model P w) A (.call (.ref f) ⟨us, []⟩) (CR CX outer P w H s Q E) s
theorem LamOk.mono {P : Program} {w : World} {K : PySem.W.Frag} {mg : Str → Option Value} {base : Heap} {CX : CXT} {j k : Nat} {L : LamT} {sp : Sp} (F : LamOk P w K mg base CX j L sp) (h : j ≤ k) : LamOk P w K mg base CX k L sp :=
  ⟨fun A outer s H us vs Q E f c hr => F.run A outer s H us vs Q E f c (hr.mono h)⟩
theorem lam_ok {CX : CXT} {P : Program} {w : World} {K : PySem.W.Frag} {mg : Str → Option Value} {base : Heap} {k : Nat} {L : LamT} {N ps : List Str} {sp : Sp} (S : FnScope N ps L.scope)
    (hbind : ∀ (pm ctv : Value) (c : Addr) (us : List Value), us.length = ps.length → bindArgs (L.fd pm c ctv) ⟨us, []⟩ = pure (ps.zip us)) (len : ∀ vs H Q E, sp vs H Q E → vs.length = ps.length)
    (hbody : ∀ (A : Around) (outer : List Env) (s : Shared) (H : Hp) (vs : List V) (Q : VK) (E : XK) (f c : Addr), Room k (A.deeper (envOfC L.q L.scope s.heap.objs.size f (.ref c))) → sp vs H Q E →
      ∃ t, PE (cxOf CX P w K mg base N L.q L.scope f (.ref c) A outer s H E) L.body t ∧ t (L2.start N vs) H Q) : LamOk P w K mg base CX (k + 1) L sp := by
  refine ⟨fun A outer s H us vs Q E f c hr e0 hf hc r hsp => ?_⟩
  have hl := len _ _ _ _ hsp
  have lim : s.heap.NoLimit := e0.mod.nolimit.keeps fun b o e => (e0.bs b o e).1
  have hkind : ∀ y ∈ ps.zip us, L.scope.names.lookup y.1 = some .local ∨ (L.scope.names.lookup y.1 = some .cell ∧ ((cellsFrom (s.heap.objs.size + 1) L.scope.names []).lookup y.1).isSome = true) := fun ⟨n, v⟩ hy => by
    rcases S.par n (List.of_mem_zip hy).1 with q | q
    · exact .inl q
    · exact .inr ⟨q, PySem.W.cellsFrom_some _ _ _ (.inl q)⟩
  obtain ⟨od, sl, pm, ctv, hfo⟩ := lamO_at e0.hok hf
  refine PySem.W.kla_callFunE hr.depth hfo rfl S.co S.gen rfl (NdefX.codeO_at e0.hok hc) ?_
  rw [hbind pm ctv c us (by rw [← r.length]; exact hl)]
  refine wpAny_pure ?_
  refine wpAny_newFunctionEnv_cells S.kind hkind fun env he s1 x => ?_
  subst he
  refine ⟨lim.keeps x.toInCall.keep, PySem.W.kla_codeExpr ?_⟩
  obtain ⟨t, ht, hq⟩ := hbody A outer s H vs Q E f c (hr.deeper _) hsp
  have I : Inv (cxOf CX P w K mg base N L.q L.scope f (.ref c) A outer s H E) [] (L2.start N vs) H s1 := inv_start S hr.hd e0 hl r x
  refine wpAny_mono (ht.run [] s1 (L2.start N vs) H Q I hq) (fun u s' hs => ?_) fun e s' hs => hs
  obtain ⟨v, H', J, rv, q⟩ := hs
  exact ⟨v, H', J.os, J.bare, J.base, J.hok, rv, q⟩
/-! ### the call -/
def tCallF (i : Nat) (S : LamT → Sp → Prop) (E : XK) (t : TA) : TE := fun σ H Q => ∃ f c L sp, σ[i]? = some (some (.ref f)) ∧ S L sp ∧ H f = some (LamO f c L) ∧
  t σ H fun vs H1 => H1 f = some (LamO f c L) ∧ H1 c = some (CodeO c L.q) ∧ sp vs H1 Q E
section
variable {X : Cx} {CX : CXT} {k i : Nat} {E : XK} {x : Str} {p pos : Pos} {e : Expr} {es : List Expr} {t : TA}
theorem pe_callF {S : LamT → Sp → Prop} (A : ∀ L sp, S L sp → LamOk X.prog X.w X.K X.mg X.base CX k L sp) (hr : Room k X.A) (hN : X.N[i]? = some x) (hv : Vis X.env.scope x) (hx : Passes CX X E) (ha : PA X (e :: es) t)
    (hdb : (x == ("__debug__" : Str)) = false := by decide) (hcd : (x == ("__classdict__" : Str)) = false := by decide)
    (he : starEach (e :: es) X.env = (false, eval e X.env) :: starEach es X.env := by rfl) (hpl : (backTo pos (starEach es X.env)).any (·.1) = false := by rfl) : PE X (.Call (.Name x p) (e :: es) [] pos) (tCallF i S E t) := by
  refine ⟨fun pins s σ H Q I h => ?_⟩
  obtain ⟨f, c, L, sp, hs, hS, hf0, ht⟩ := h
  refine wpAny_Call_Name_kw (thn ((pe_var (pos := p) hN hv hdb hcd).run pins s σ H (fun v H1 => v = .ref f ∧ H1 = H) I ⟨.ref f, hs, rfl, rfl⟩) fun u s1 ⟨v, H1, I1, r1, q1⟩ => ?_)
  obtain ⟨rfl, rfl⟩ := q1
  cases r1
  obtain ⟨od, sl, pm, ctv, hfo⟩ := lamO_at I1.hok hf0
  refine PySem.W.callWith_F ⟨_, _, _, _, hfo⟩ (thn (ha.run pos pins s1 σ _ _ I1 ht) fun us s2 ⟨vs, H2, I2, r, hf2, hc2, q⟩ => ?_) he hpl
  obtain ⟨od, sl, pm, ctv, hfo2⟩ := lamO_at I2.hok hf2
  refine ⟨⟨_, _, _, _, hfo2⟩, ?_⟩
  refine wpAny_call (codeAny_mono ((A L sp hS).run X.A X.stack s2 H2 us vs Q E f c hr I2.env0 hf2 hc2 r q) fun r s' hq => ?_)
  cases r with
  | error e => exact hx pins σ H2 s2 e s' I2 hq
  | ok fl =>
    cases fl with
    | ret u => exact I2.after hq
    | next => exact False.elim hq
    | brk => exact False.elim hq
    | cont => exact False.elim hq
end
/-! ### the expression -/
def tMkLam (T : Addr → Str → Prop) (L : LamT) : TE := fun σ H Q => TabsP T H ∧ ∀ (f c' : Addr) (H1 : Hp), ExtN H H1 → (∀ b, H1 b = Option.none → H b = Option.none) → TabsP T H1 → H f = none → H1 f = some (LamO f c' L) → H1 c' = some (CodeO c' L.q) → Q (.ref f) H1
theorem pe_mkLam {X : Cx} {T : Addr → Str → Prop} {c P : Addr} {params : Arguments} {body : Expr} {scope : Scope} {pos : Pos} (TB : TabB X.base X.mg c P) (hcode : X.env.code = .ref c)
    (hm : T P (X.env.qual ++ "<lambda>")) (hu : ∀ q, T P q → q = X.env.qual ++ "<lambda>") (hdef : defaultsOf params X.env = ([], [])) (hfree : ∀ y ∈ scope.names, y.2 ≠ .free) :
    PE X (.Lambda params body scope pos) (tMkLam T ⟨X.env.qual ++ "<lambda>", params, body, scope⟩) := by
  refine ⟨fun pins s σ H Q I h => ?_⟩
  obtain ⟨hT, h⟩ := h
  exact lam_make3 I TB hcode hm hu hT hdef hfree fun f c' H1 s' I1 eN nn T1 f0 f1 c1 => ⟨.ref f, H1, I1, rfl, h f c' H1 eN nn T1 f0 f1 c1⟩
end LF
end
section
set_option Elab.async false
set_option linter.all false
set_option maxRecDepth 100000
set_option autoImplicit false
/-! equality of small texts, by a Bool -/
namespace DL
open PySem
mutual
def eqE : Expr → Expr → Bool
  | .Name x p, e => match e with
    | .Name y q => decide (x = y) && decide (p = q)
    | _ => false
  | .Constant x k p, e => match e with
    | .Constant y l q => decide (x = y) && (decide (k = l) && decide (p = q))
    | _ => false
  | .BoolOp o xs p, e => match e with
    | .BoolOp o' ys q => decide (o = o') && (decide (p = q) && eqEs xs ys)
    | _ => false
  | .BinOp a o b p, e => match e with
    | .BinOp a' o' b' q => decide (o = o') && (decide (p = q) && (eqE a a' && eqE b b'))
    | _ => false
  | .UnaryOp o a p, e => match e with
    | .UnaryOp o' a' q => decide (o = o') && (decide (p = q) && eqE a a')
    | _ => false
  | .Compare a os xs p, e => match e with
    | .Compare a' os' ys q => decide (os = os') && (decide (p = q) && (eqE a a' && eqEs xs ys))
    | _ => false
  | .Subscript a b p, e => match e with
    | .Subscript a' b' q => decide (p = q) && (eqE a a' && eqE b b')
    | _ => false
  | .Attribute a x p, e => match e with
    | .Attribute a' y q => decide (x = y) && (decide (p = q) && eqE a a')
    | _ => false
  | .Tuple xs k p, e => match e with
    | .Tuple ys l q => decide (k = l) && (decide (p = q) && eqEs xs ys)
    | _ => false
  | .Call f xs ks p, e => match e with
    | .Call f' ys ks' q => ks.isEmpty && (ks'.isEmpty && (decide (p = q) && (eqE f f' && eqEs xs ys)))
    | _ => false
  | _, _ => false
def eqEs : List Expr → List Expr → Bool
  | [], es => es.isEmpty
  | x :: xs, es => match es with
    | y :: ys => eqE x y && eqEs xs ys
    | [] => false
end
theorem eand {a b : Bool} (h : (a && b) = true) : a = true ∧ b = true := Bool.and_eq_true_iff.mp h
mutual
theorem eqE_ok : ∀ (a b : Expr), eqE a b = true → a = b
  | .Name x p, e, h => by
    unfold eqE at h
    split at h
    · obtain ⟨h1, h2⟩ := eand h
      rw [of_decide_eq_true h1, of_decide_eq_true h2]
    · cases h
  | .Constant x k p, e, h => by
    unfold eqE at h
    split at h
    · obtain ⟨h1, h2⟩ := eand h
      obtain ⟨h2, h3⟩ := eand h2
      rw [of_decide_eq_true h1, of_decide_eq_true h2, of_decide_eq_true h3]
    · cases h
  | .BoolOp o xs p, e, h => by
    unfold eqE at h
    split at h
    · obtain ⟨h1, h2⟩ := eand h
      obtain ⟨h2, h3⟩ := eand h2
      rw [of_decide_eq_true h1, of_decide_eq_true h2, eqEs_ok _ _ h3]
    · cases h
  | .BinOp a o b p, e, h => by
    unfold eqE at h
    split at h
    · obtain ⟨h1, h2⟩ := eand h
      obtain ⟨h2, h3⟩ := eand h2
      obtain ⟨h3, h4⟩ := eand h3
      rw [of_decide_eq_true h1, of_decide_eq_true h2, eqE_ok _ _ h3, eqE_ok _ _ h4]
    · cases h
  | .UnaryOp o a p, e, h => by
    unfold eqE at h
    split at h
    · obtain ⟨h1, h2⟩ := eand h
      obtain ⟨h2, h3⟩ := eand h2
      rw [of_decide_eq_true h1, of_decide_eq_true h2, eqE_ok _ _ h3]
    · cases h
  | .Compare a os xs p, e, h => by
    unfold eqE at h
    split at h
    · obtain ⟨h1, h2⟩ := eand h
      obtain ⟨h2, h3⟩ := eand h2
      obtain ⟨h3, h4⟩ := eand h3
      rw [of_decide_eq_true h1, of_decide_eq_true h2, eqE_ok _ _ h3, eqEs_ok _ _ h4]
    · cases h
  | .Subscript a b p, e, h => by
    unfold eqE at h
    split at h
    · obtain ⟨h1, h2⟩ := eand h
      obtain ⟨h2, h3⟩ := eand h2
      rw [of_decide_eq_true h1, eqE_ok _ _ h2, eqE_ok _ _ h3]
    · cases h
  | .Attribute a x p, e, h => by
    unfold eqE at h
    split at h
    · obtain ⟨h1, h2⟩ := eand h
      obtain ⟨h2, h3⟩ := eand h2
      rw [of_decide_eq_true h1, of_decide_eq_true h2, eqE_ok _ _ h3]
    · cases h
  | .Tuple xs k p, e, h => by
    unfold eqE at h
    split at h
    · obtain ⟨h1, h2⟩ := eand h
      obtain ⟨h2, h3⟩ := eand h2
      rw [of_decide_eq_true h1, of_decide_eq_true h2, eqEs_ok _ _ h3]
    · cases h
  | .Call f xs ks p, e, h => by
    unfold eqE at h
    split at h
    · obtain ⟨h1, h2⟩ := eand h
      obtain ⟨h2, h3⟩ := eand h2
      obtain ⟨h3, h4⟩ := eand h3
      obtain ⟨h4, h5⟩ := eand h4
      rw [of_decide_eq_true h3, eqE_ok _ _ h4, eqEs_ok _ _ h5, List.isEmpty_iff.mp h1, List.isEmpty_iff.mp h2]
    · cases h
  | .NamedExpr .., _, h | .Lambda .., _, h | .IfExp .., _, h | .Dict .., _, h | .Set .., _, h | .ListComp .., _, h | .SetComp .., _, h | .DictComp .., _, h | .GeneratorExp .., _, h | .Await .., _, h | .Yield .., _, h | .YieldFrom .., _, h | .FormattedValue .., _, h | .JoinedStr .., _, h | .Starred .., _, h | .List .., _, h | .Slice .., _, h => by
    unfold eqE at h
    cases h
theorem eqEs_ok : ∀ (a b : List Expr), eqEs a b = true → a = b
  | [], es, h => by
    unfold eqEs at h
    exact (List.isEmpty_iff.mp h).symm
  | x :: xs, es, h => by
    unfold eqEs at h
    split at h
    · obtain ⟨h1, h2⟩ := eand h
      rw [eqE_ok _ _ h1, eqEs_ok _ _ h2]
    · cases h
end
/-- parameters that are plain names -/
def eqArgs : List Arg → List Arg → Bool
  | [], es => es.isEmpty
  | x :: xs, es => match es with
    | y :: ys => decide (x.arg = y.arg) && (decide (x.pos = y.pos) && (x.annotation.isNone && (y.annotation.isNone && eqArgs xs ys)))
    | [] => false
theorem eqArgs_ok : ∀ (a b : List Arg), eqArgs a b = true → a = b
  | [], es, h => by
    unfold eqArgs at h
    exact (List.isEmpty_iff.mp h).symm
  | ⟨x, an, p⟩ :: xs, es, h => by
    unfold eqArgs at h
    split at h
    · rename_i y ys
      obtain ⟨y, an', p'⟩ := y
      obtain ⟨h1, h2⟩ := eand h
      obtain ⟨h2, h3⟩ := eand h2
      obtain ⟨h3, h4⟩ := eand h3
      obtain ⟨h4, h5⟩ := eand h4
      have e1 : x = y := of_decide_eq_true h1
      have e2 : p = p' := of_decide_eq_true h2
      have e3 : an = none := Option.isNone_iff_eq_none.mp h3
      have e4 : an' = none := Option.isNone_iff_eq_none.mp h4
      rw [e1, e2, e3, e4, eqArgs_ok _ _ h5]
    · cases h
def plainA (a : Arguments) : Bool := a.posonlyargs.isEmpty && (a.vararg.isNone && (a.kwonlyargs.isEmpty && (a.kw_defaults.isEmpty && (a.kwarg.isNone && a.defaults.isEmpty))))
theorem plainA_ok {a : Arguments} (h : plainA a = true) : a = ⟨[], a.args, none, [], [], none, []⟩ := by
  obtain ⟨a1, a2, a3, a4, a5, a6, a7⟩ := a
  unfold plainA at h
  obtain ⟨h1, h⟩ := eand h
  obtain ⟨h2, h⟩ := eand h
  obtain ⟨h3, h⟩ := eand h
  obtain ⟨h4, h⟩ := eand h
  obtain ⟨h5, h6⟩ := eand h
  have e1 : a1 = [] := List.isEmpty_iff.mp h1
  have e2 : a3 = none := Option.isNone_iff_eq_none.mp h2
  have e3 : a4 = [] := List.isEmpty_iff.mp h3
  have e4 : a5 = [] := List.isEmpty_iff.mp h4
  have e5 : a6 = none := Option.isNone_iff_eq_none.mp h5
  have e6 : a7 = [] := List.isEmpty_iff.mp h6
  rw [e1, e2, e3, e4, e5, e6]
/-- the same lambda -/
def eqLam (L : LF.LamT) (params : Arguments) (body : Expr) (scope : Scope) : Bool := plainA L.params && (plainA params && (eqArgs L.params.args params.args && (eqE L.body body && (decide (L.scope = scope) && scope.names.all fun y => !decide (y.2 = .free)))))
theorem eqLam_ok {L : LF.LamT} {params : Arguments} {body : Expr} {scope : Scope} (h : eqLam L params body scope = true) : L = ⟨L.q, params, body, scope⟩ ∧ (∀ env, defaultsOf params env = ([], [])) ∧ ∀ y ∈ scope.names, y.2 ≠ .free := by
  unfold eqLam at h
  obtain ⟨h1, h⟩ := eand h
  obtain ⟨h2, h⟩ := eand h
  obtain ⟨h3, h⟩ := eand h
  obtain ⟨h4, h⟩ := eand h
  obtain ⟨h5, h6⟩ := eand h
  obtain ⟨q, p, b, s⟩ := L
  refine ⟨?_, fun env => ?_, fun y hy e => ?_⟩
  · have e1 := plainA_ok h1
    have e2 := plainA_ok h2
    have e3 := eqArgs_ok _ _ h3
    have e4 : b = body := eqE_ok _ _ h4
    have e5 : s = scope := of_decide_eq_true h5
    have e6 : p = params := by
      rw [show p = ⟨[], p.args, none, [], [], none, []⟩ from e1, e2]
      rw [show p.args = params.args from e3]
    rw [e4, e5, e6]
  · rw [plainA_ok h2]
    rfl
  · have := List.all_eq_true.mp h6 y hy
    rw [e] at this
    cases this
end DL
end
section
set_option autoImplicit false
namespace DL
open PySem
/-- the defs whose lambdas are told (program-wide) -/
def lamQuals : List Str := ["both", "either"]
end DL
end
section
set_option Elab.async false
set_option linter.all false
set_option maxRecDepth 100000
/-! The data layer: values whose tuples are data, a heap of what can change. -/
namespace DL
open PySem PySem.Spec PyProof.Rows L2

inductive DV where
  | non | bl (b : Bool) | int (i : Int) | str (x : Str) | ref (a : Addr) | ty (n : String) | tup (xs : List DV) | lk (xs : List DV) | xt (xs : List DV) | fv (L : LF.LamT)
abbrev H0 : Hp := fun _ => none
mutual
/-- a value of the machine's layer stands for a datum -/
def Rep (K : PySem.W.Frag) (H : Hp) : DV → V → Prop
  | .non, v => v = .non
  | .bl b, v => v = .bl b
  | .int i, v => v = .int i
  | .str x, v => v = .str x
  | .ref a, v => v = .ref a
  | .ty n, v => v = .ty n
  | .tup xs, v => ∃ a vs, v = .ref a ∧ SqT K H a vs ∧ RepL K H xs vs
  | .lk xs, v => ∃ a vs, v = .ref a ∧ ((∃ o, H a = some (.frz o (.lst vs))) ∨ SqL K H0 a vs) ∧ RepL K H xs vs
  | .xt xs, v => ∃ a vs, v = .ref a ∧ (∃ o, H a = some (.frz o (.tup vs)) ∧ o.dict = none) ∧ RepL K H xs vs
  | .fv L, v => ∃ f c, v = .ref f ∧ H f = some (LF.LamO f c L) ∧ H c = some (LamX.CodeO c L.q)
def RepL (K : PySem.W.Frag) (H : Hp) : List DV → List V → Prop
  | [], vs => vs = []
  | x :: xs, vs => ∃ v r, vs = v :: r ∧ Rep K H x v ∧ RepL K H xs r
end
/-- what never changes stands -/
structure Keeps (H H' : Hp) : Prop where
  tup : ∀ a xs, H a = some (.tup xs) → H' a = some (.tup xs)
  frz : ∀ a o u, H a = some (.frz o u) → H' a = some (.frz o u)
  ext : ∀ a p, H a = some (.ext p) → H' a = some (.ext p)
theorem Keeps.refl (H : Hp) : Keeps H H := ⟨fun _ _ h => h, fun _ _ _ h => h, fun _ _ h => h⟩
theorem Keeps.trans {H H1 H2 : Hp} (a : Keeps H H1) (b : Keeps H1 H2) : Keeps H H2 := ⟨fun c xs h => b.tup c xs (a.tup c xs h), fun c o u h => b.frz c o u (a.frz c o u h), fun c p h => b.ext c p (a.ext c p h)⟩
theorem Keeps.lamO {H H' : Hp} {f c : Addr} {L : LF.LamT} (k : Keeps H H') (h : H f = some (LF.LamO f c L)) : H' f = some (LF.LamO f c L) := k.ext _ _ h
theorem Keeps.codeO {H H' : Hp} {c : Addr} {q : Str} (k : Keeps H H') (h : H c = some (LamX.CodeO c q)) : H' c = some (LamX.CodeO c q) := k.ext _ _ h
section
variable {K : PySem.W.Frag} {H H' : Hp}
theorem Keeps.rd {a : Addr} {xs : List V} (k : Keeps H H') (h : Rd H a (.tup xs)) : Rd H' a (.tup xs) := by
  rcases h with h | ⟨o, h⟩
  · exact .inl (k.tup _ _ h)
  · exact .inr ⟨o, k.frz _ _ _ h⟩
theorem Keeps.sqT {a : Addr} {xs : List V} (k : Keeps H H') (h : SqT K H a xs) : SqT K H' a xs := by
  rcases h with h | h
  · exact .inl (k.rd h)
  · exact .inr h
mutual
theorem Rep.mono (k : Keeps H H') : ∀ (d : DV) (v : V), Rep K H d v → Rep K H' d v
  | .non, v, h => by unfold Rep at h ⊢; exact h
  | .bl b, v, h => by unfold Rep at h ⊢; exact h
  | .int i, v, h => by unfold Rep at h ⊢; exact h
  | .str x, v, h => by unfold Rep at h ⊢; exact h
  | .ref a, v, h => by unfold Rep at h ⊢; exact h
  | .ty n, v, h => by unfold Rep at h ⊢; exact h
  | .tup xs, v, h => by
    unfold Rep at h ⊢
    obtain ⟨a, vs, e, s, r⟩ := h
    exact ⟨a, vs, e, k.sqT s, RepL.mono k xs vs r⟩
  | .lk xs, v, h => by
    unfold Rep at h ⊢
    obtain ⟨a, vs, e, s, r⟩ := h
    exact ⟨a, vs, e, s.imp (fun ⟨o, q⟩ => ⟨o, k.frz _ _ _ q⟩) id, RepL.mono k xs vs r⟩
  | .xt xs, v, h => by
    unfold Rep at h ⊢
    obtain ⟨a, vs, e, ⟨o, q, z⟩, r⟩ := h
    exact ⟨a, vs, e, ⟨o, k.frz _ _ _ q, z⟩, RepL.mono k xs vs r⟩
  | .fv L, v, h => by
    unfold Rep at h ⊢
    obtain ⟨f, c, e, h1, h2⟩ := h
    exact ⟨f, c, e, k.lamO h1, k.codeO h2⟩
theorem RepL.mono (k : Keeps H H') : ∀ (ds : List DV) (vs : List V), RepL K H ds vs → RepL K H' ds vs
  | [], vs, h => by unfold RepL at h ⊢; exact h
  | x :: xs, vs, h => by
    unfold RepL at h ⊢
    obtain ⟨v, r, e, h1, h2⟩ := h
    exact ⟨v, r, e, Rep.mono k x v h1, RepL.mono k xs r h2⟩
end
theorem rep_tup {xs : List DV} {v : V} : Rep K H (.tup xs) v ↔ ∃ a vs, v = .ref a ∧ SqT K H a vs ∧ RepL K H xs vs := by rw [Rep]
theorem rep_lk {xs : List DV} {v : V} : Rep K H (.lk xs) v ↔ ∃ a vs, v = .ref a ∧ ((∃ o, H a = some (.frz o (.lst vs))) ∨ SqL K H0 a vs) ∧ RepL K H xs vs := by rw [Rep]
theorem rep_xt {xs : List DV} {v : V} : Rep K H (.xt xs) v ↔ ∃ a vs, v = .ref a ∧ (∃ o, H a = some (.frz o (.tup vs)) ∧ o.dict = none) ∧ RepL K H xs vs := by rw [Rep]
theorem rep_fv {L : LF.LamT} {v : V} : Rep K H (.fv L) v ↔ ∃ f c, v = .ref f ∧ H f = some (LF.LamO f c L) ∧ H c = some (LamX.CodeO c L.q) := by rw [Rep]
theorem rep_forget {xs : List DV} {v : V} (h : Rep K H (.xt xs) v) : Rep K H (.tup xs) v := by
  obtain ⟨a, vs, e, ⟨o, q, z⟩, r⟩ := rep_xt.mp h
  exact rep_tup.mpr ⟨a, vs, e, .inl (.inr ⟨o, q⟩), r⟩
theorem rep_non {v : V} : Rep K H .non v ↔ v = .non := by rw [Rep]
theorem rep_bl {b : Bool} {v : V} : Rep K H (.bl b) v ↔ v = .bl b := by rw [Rep]
theorem rep_int {b : Int} {v : V} : Rep K H (.int b) v ↔ v = .int b := by rw [Rep]
theorem rep_str {b : Str} {v : V} : Rep K H (.str b) v ↔ v = .str b := by rw [Rep]
theorem rep_ref {b : Addr} {v : V} : Rep K H (.ref b) v ↔ v = .ref b := by rw [Rep]
theorem rep_ty {b : String} {v : V} : Rep K H (.ty b) v ↔ v = .ty b := by rw [Rep]
theorem repL_nil {vs : List V} : RepL K H [] vs ↔ vs = [] := by rw [RepL]
theorem repL_cons {x : DV} {xs : List DV} {vs : List V} : RepL K H (x :: xs) vs ↔ ∃ v r, vs = v :: r ∧ Rep K H x v ∧ RepL K H xs r := by rw [RepL]
theorem RepL.length : ∀ {ds : List DV} {vs : List V}, RepL K H ds vs → vs.length = ds.length
  | [], vs, h => by rw [repL_nil.mp h]; rfl
  | x :: xs, vs, h => by
    obtain ⟨v, r, e, _, h2⟩ := repL_cons.mp h
    rw [e, List.length_cons, RepL.length h2, List.length_cons]
theorem RepL.get : ∀ {ds : List DV} {vs : List V} {i : Nat} {v : V}, RepL K H ds vs → vs[i]? = some v → ∃ d, ds[i]? = some d ∧ Rep K H d v
  | [], vs, i, v, h, e => by rw [repL_nil.mp h] at e; simp at e
  | x :: xs, vs, i, v, h, e => by
    obtain ⟨w, r, rfl, h1, h2⟩ := repL_cons.mp h
    cases i with
    | zero => simp at e; subst e; exact ⟨x, by simp, h1⟩
    | succ i =>
      obtain ⟨d, q, r⟩ := RepL.get (i := i) h2 (by simpa using e)
      exact ⟨d, by simpa using q, r⟩
theorem RepL.get' : ∀ {ds : List DV} {vs : List V} {i : Nat} {d : DV}, RepL K H ds vs → ds[i]? = some d → ∃ v, vs[i]? = some v ∧ Rep K H d v
  | [], vs, i, v, h, e => by simp at e
  | x :: xs, vs, i, v, h, e => by
    obtain ⟨w, r, rfl, h1, h2⟩ := repL_cons.mp h
    cases i with
    | zero => simp at e; subst e; exact ⟨w, by simp, h1⟩
    | succ i =>
      obtain ⟨d, q, r⟩ := RepL.get' (i := i) h2 (by simpa using e)
      exact ⟨d, by simpa using q, r⟩
theorem RepL.append : ∀ {ds es : List DV} {vs us : List V}, RepL K H ds vs → RepL K H es us → RepL K H (ds ++ es) (vs ++ us)
  | [], _, vs, _, h, g => by rw [repL_nil.mp h]; exact g
  | x :: xs, _, vs, _, h, g => by
    obtain ⟨w, r, rfl, h1, h2⟩ := repL_cons.mp h
    exact repL_cons.mpr ⟨w, _, rfl, h1, h2.append g⟩
theorem RepL.take : ∀ {ds : List DV} {vs : List V} (n : Nat), RepL K H ds vs → RepL K H (ds.take n) (vs.take n)
  | _, _, 0, _ => by simp; exact repL_nil.mpr rfl
  | [], vs, n + 1, h => by rw [repL_nil.mp h]; simp; exact repL_nil.mpr rfl
  | x :: xs, vs, n + 1, h => by
    obtain ⟨w, r, rfl, h1, h2⟩ := repL_cons.mp h
    exact repL_cons.mpr ⟨w, _, rfl, h1, h2.take n⟩
theorem RepL.drop : ∀ {ds : List DV} {vs : List V} (n : Nat), RepL K H ds vs → RepL K H (ds.drop n) (vs.drop n)
  | _, _, 0, h => by simpa using h
  | [], vs, n + 1, h => by rw [repL_nil.mp h]; simp; exact repL_nil.mpr rfl
  | x :: xs, vs, n + 1, h => by
    obtain ⟨w, r, rfl, h1, h2⟩ := repL_cons.mp h
    exact h2.drop n
theorem RepL.reverse : ∀ {ds : List DV} {vs : List V}, RepL K H ds vs → RepL K H ds.reverse vs.reverse
  | [], vs, h => by rw [repL_nil.mp h]; exact repL_nil.mpr rfl
  | x :: xs, vs, h => by
    obtain ⟨w, r, rfl, h1, h2⟩ := repL_cons.mp h
    rw [List.reverse_cons, List.reverse_cons]
    exact h2.reverse.append (repL_cons.mpr ⟨w, [], rfl, h1, repL_nil.mpr rfl⟩)
theorem RepL.set : ∀ {ds : List DV} {vs : List V} {d : DV} {v : V} (i : Nat), RepL K H ds vs → Rep K H d v → RepL K H (ds.set i d) (vs.set i v)
  | [], vs, _, _, _, h, _ => by rw [repL_nil.mp h]; exact repL_nil.mpr rfl
  | x :: xs, vs, d, v, i, h, g => by
    obtain ⟨w, r, rfl, h1, h2⟩ := repL_cons.mp h
    cases i with
    | zero => exact repL_cons.mpr ⟨v, r, rfl, g, h2⟩
    | succ i => exact repL_cons.mpr ⟨w, _, rfl, h1, h2.set i g⟩
theorem RepL.ints : ∀ {ns : List Int} {vs : List V}, RepL K H (ns.map DV.int) vs ↔ vs = ns.map V.int
  | [], vs => by rw [List.map_nil, repL_nil, List.map_nil]
  | n :: ns, vs => by
    rw [List.map_cons, repL_cons, List.map_cons]
    constructor
    · rintro ⟨v, r, e, h1, h2⟩
      rw [e, rep_int.mp h1, RepL.ints.mp h2]
    · intro e
      exact ⟨_, _, e, rep_int.mpr rfl, RepL.ints.mpr rfl⟩
theorem RepL.strs : ∀ {ns : List Str} {vs : List V}, RepL K H (ns.map DV.str) vs ↔ vs = ns.map V.str
  | [], vs => by rw [List.map_nil, repL_nil, List.map_nil]
  | n :: ns, vs => by
    rw [List.map_cons, repL_cons, List.map_cons]
    constructor
    · rintro ⟨v, r, e, h1, h2⟩
      rw [e, rep_str.mp h1, RepL.strs.mp h2]
    · intro e
      exact ⟨_, _, e, rep_str.mpr rfl, RepL.strs.mpr rfl⟩
theorem RepL.bls : ∀ {ns : List Bool} {vs : List V}, RepL K H (ns.map DV.bl) vs ↔ vs = ns.map V.bl
  | [], vs => by rw [List.map_nil, repL_nil, List.map_nil]
  | n :: ns, vs => by
    rw [List.map_cons, repL_cons, List.map_cons]
    constructor
    · rintro ⟨v, r, e, h1, h2⟩
      rw [e, rep_bl.mp h1, RepL.bls.mp h2]
    · intro e
      exact ⟨_, _, e, rep_bl.mpr rfl, RepL.bls.mpr rfl⟩
end

theorem ofString_inj {a b : String} : Str.ofString a = Str.ofString b ↔ a = b := by
  constructor
  · intro h
    rw [Str.ofString_eq_toList, Str.ofString_eq_toList] at h
    have h1 : (a.toList.map Char.toNat) = (b.toList.map Char.toNat) := by
      have := congrArg Str.cps h
      simpa using this
    have h2 : a.toList = b.toList := by
      have inj : ∀ (l m : List Char), l.map Char.toNat = m.map Char.toNat → l = m := by
        intro l
        induction l with
        | nil => intro m e; cases m with
          | nil => rfl
          | cons c m => simp at e
        | cons c l ih => intro m e; cases m with
          | nil => simp at e
          | cons d m =>
            simp only [List.map_cons, List.cons.injEq] at e
            rw [ih m e.2]
            have : c = d := by
              have h3 := e.1
              exact Char.ext (UInt32.toNat_inj.mp h3)
            rw [this]
      exact inj _ _ h1
    exact String.toList_inj.mp h2
  · intro h; rw [h]
/-! ### the heap of what can change -/
inductive DO where
  | lst (xs : List DV)
  | dK (kvs : List (Key × DV))
  | ins (c : String) (fs : List (String × DV))
abbrev DH := Addr → Option DO
def updD (G : DH) (a : Addr) (o : DO) : DH := fun b => if b = a then some o else G b
theorem updD_same {G : DH} {a : Addr} {o : DO} : updD G a o a = some o := by unfold updD; rw [if_pos rfl]
theorem updD_ne {G : DH} {a b : Addr} {o : DO} (h : b ≠ a) : updD G a o b = G b := by unfold updD; rw [if_neg h]
/-- pairs: the same keys, values that stand for data -/
def RepP {κ : Type} (K : PySem.W.Frag) (H : Hp) : List (κ × DV) → List (κ × V) → Prop := Paired fun p q => p.1 = q.1 ∧ Rep K H p.2 q.2
/-- fields, by name -/
def RepF (K : PySem.W.Frag) (H : Hp) : List (String × DV) → List (Str × V) → Prop := Paired fun p q => Str.ofString p.1 = q.1 ∧ Rep K H p.2 q.2
def RepA (K : PySem.W.Frag) (H : Hp) (a : Addr) : DO → Prop
  | .lst xs => ∃ vs, H a = some (.lst vs) ∧ RepL K H xs vs
  | .dK kvs => ∃ ps, H a = some (.dK ps) ∧ RepP K H kvs ps
  | .ins c fs => ∃ dx gs, H a = some (.ins (He.ga K c) dx gs) ∧ RepF K H fs gs
/-- the table of a def whose lambdas are told; the name of its lambdas -/
def LamTab (K : PySem.W.Frag) (P : Addr) (q : Str) : Prop := ∃ (c : Addr) (o : Obj) (vs : Array Value) (q0 : Str) (t : Tok), K.lookup c = some o ∧ o.data = .fields vs ∧ vs[11]? = some (.ref P) ∧ vs[1]? = some (.str q0 t) ∧ q0 ∈ lamQuals ∧ q = q0 ++ ".<locals>." ++ "<lambda>"
def TabK (K : PySem.W.Frag) (H : Hp) : Prop := ∀ P q, LamTab K P q → LamX.TabS H P q
structure Rel (K : PySem.W.Frag) (G : DH) (H : Hp) : Prop where
  rep : ∀ a o, G a = some o → RepA K H a o
  tab : TabK K H
instance {K : PySem.W.Frag} {G : DH} {H : Hp} : CoeFun (Rel K G H) (fun _ => ∀ a o, G a = some o → RepA K H a o) := ⟨Rel.rep⟩
def noTbl : HO → Prop
  | .tbl _ => False
  | _ => True
/-- what is not in the data's heap stands (but the tables) -/
def Frame (G : DH) (H : Hp) (G' : DH) (H' : Hp) : Prop := ∀ a o, H a = some o → G a = none → noTbl o → H' a = some o ∧ G' a = none
theorem Frame.refl (G : DH) (H : Hp) : Frame G H G H := fun _ _ h g _ => ⟨h, g⟩
theorem Frame.trans {G G1 G2 : DH} {H H1 H2 : Hp} (a : Frame G H G1 H1) (b : Frame G1 H1 G2 H2) : Frame G H G2 H2 := fun c o h g n => b c o (a c o h g n).1 (a c o h g n).2 n
theorem TabK.mono {K : PySem.W.Frag} {H H' : Hp} (t : TabK K H) (e : ∀ b o, H b = some o → (∀ xs, o ≠ .lst xs) → (∀ xs, o ≠ .dK xs) → (∀ C dx gs, o ≠ .ins C dx gs) → H' b = some o) : TabK K H' := fun P q hp => by
  obtain ⟨ps, h1, h2, h3⟩ := t P q hp
  refine ⟨ps, e _ _ h1 (fun _ z => by cases z) (fun _ z => by cases z) (fun _ _ _ z => by cases z), h2, fun pos cv hc => ?_⟩
  obtain ⟨c, e1, e2⟩ := h3 pos cv hc
  exact ⟨c, e1, e _ _ e2 (fun _ z => by unfold LamX.CodeO at z; cases z) (fun _ z => by unfold LamX.CodeO at z; cases z) (fun _ _ _ z => by unfold LamX.CodeO at z; cases z)⟩
theorem TabK.ext {K : PySem.W.Frag} {H H' : Hp} (t : TabK K H) (e : ∀ b o, H b = some o → H' b = some o) : TabK K H' := t.mono fun b o h _ _ _ => e b o h
section
variable {K : PySem.W.Frag} {G G' G1 : DH} {H H' H1 : Hp}
theorem Rel.un {a : Addr} {o : DO} (r : Rel K G H) (g : G a = some o) : (∃ vs, H a = some (.lst vs)) ∨ (∃ ps, H a = some (.dK ps)) ∨ ∃ C dx gs, H a = some (.ins C dx gs) := by
  have h := r.rep a o g
  cases o with
  | lst xs => obtain ⟨vs, h, _⟩ := h; exact .inl ⟨vs, h⟩
  | dK kvs => obtain ⟨vs, h, _⟩ := h; exact .inr (.inl ⟨vs, h⟩)
  | ins C fs => obtain ⟨dx, gs, h, _⟩ := h; exact .inr (.inr ⟨_, dx, gs, h⟩)
theorem Rel.none_of {a : Addr} {u : HO} (r : Rel K G H) (h : H a = some u) (n1 : ∀ xs, u ≠ .lst xs) (n2 : ∀ xs, u ≠ .dK xs) (n3 : ∀ C dx gs, u ≠ .ins C dx gs) : G a = none := by
  cases g : G a with
  | none => rfl
  | some o =>
    rcases r.un g with ⟨_, q⟩ | ⟨_, q⟩ | ⟨_, _, _, q⟩ <;> rw [h] at q
    · exact absurd (Option.some.inj q) (n1 _)
    · exact absurd (Option.some.inj q) (n2 _)
    · exact absurd (Option.some.inj q) (n3 _ _ _)
theorem Rel.notTup {a : Addr} {xs : List V} (r : Rel K G H) (h : H a = some (.tup xs)) : G a = none := r.none_of h (fun _ z => by cases z) (fun _ z => by cases z) (fun _ _ _ z => by cases z)
theorem Rel.notFrz {a : Addr} {o : Obj} {u : HO} (r : Rel K G H) (h : H a = some (.frz o u)) : G a = none := r.none_of h (fun _ z => by cases z) (fun _ z => by cases z) (fun _ _ _ z => by cases z)
theorem Rel.notExt {a : Addr} {u : Heap → Prop} (r : Rel K G H) (h : H a = some (.ext u)) : G a = none := r.none_of h (fun _ z => by cases z) (fun _ z => by cases z) (fun _ _ _ z => by cases z)
theorem Rel.fresh {a : Addr} (r : Rel K G H) (h : H a = none) : G a = none := by
  cases g : G a with
  | none => rfl
  | some o => rcases r.un g with ⟨_, q⟩ | ⟨_, q⟩ | ⟨_, _, _, q⟩ <;> (rw [h] at q; cases q)
theorem Frame.keeps (f : Frame G H G' H') (r : Rel K G H) : Keeps H H' :=
  ⟨fun a xs h => (f a _ h (r.notTup h) trivial).1, fun a o u h => (f a _ h (r.notFrz h) trivial).1, fun a u h => (f a _ h (r.notExt h) trivial).1⟩
theorem RepP.mono {κ : Type} (k : Keeps H H') {xs : List (κ × DV)} {ys : List (κ × V)} (h : RepP K H xs ys) : RepP K H' xs ys :=
  Paired.mapP h fun _ _ ⟨e, r⟩ => ⟨e, r.mono k⟩
theorem RepF.mono (k : Keeps H H') {xs : List (String × DV)} {ys : List (Str × V)} (h : RepF K H xs ys) : RepF K H' xs ys :=
  Paired.mapP h fun _ _ ⟨e, r⟩ => ⟨e, r.mono k⟩
theorem RepA.mono (k : Keeps H H') {a : Addr} {o : DO} (e : H' a = H a) (h : RepA K H a o) : RepA K H' a o := by
  cases o with
  | lst xs => obtain ⟨vs, h, r⟩ := h; exact ⟨vs, e.trans h, r.mono k⟩
  | dK kvs => obtain ⟨vs, h, r⟩ := h; exact ⟨vs, e.trans h, r.mono k⟩
  | ins C fs => obtain ⟨dx, gs, h, r⟩ := h; exact ⟨dx, gs, e.trans h, r.mono k⟩
theorem keeps_new {p : Addr} {u : HO} (hp : H p = none) : Keeps H (upd H p u) := ⟨fun a xs h => by rw [upd_ne (ne_of_none h hp)]; exact h, fun a o u h => by rw [upd_ne (ne_of_none h hp)]; exact h, fun a u h => by rw [upd_ne (ne_of_none h hp)]; exact h⟩
theorem Rel.keepsW (r : Rel K G H) {p : Addr} {u : HO} {o : DO} (hp : G p = some o) : Keeps H (upd H p u) :=
  ⟨fun a xs h => by rw [upd_ne (fun z => by rw [z] at h; rw [r.notTup h] at hp; cases hp)]; exact h, fun a ob uu h => by rw [upd_ne (fun z => by rw [z] at h; rw [r.notFrz h] at hp; cases hp)]; exact h, fun a uu h => by rw [upd_ne (fun z => by rw [z] at h; rw [r.notExt h] at hp; cases hp)]; exact h⟩
/-- a new object that the data's heap does not hold (a tuple) -/
theorem Rel.aside (r : Rel K G H) {p : Addr} {u : HO} (hp : H p = none) : Rel K G (upd H p u) ∧ Frame G H G (upd H p u) := by
  have f : Frame G H G (upd H p u) := fun a o h g _ => ⟨by rw [upd_ne (ne_of_none h hp)]; exact h, g⟩
  refine ⟨⟨fun a o g => ?_, r.tab.ext fun b o h => by rw [upd_ne (ne_of_none h hp)]; exact h⟩, f⟩
  have hne : a ≠ p := fun z => by rw [z, r.fresh hp] at g; cases g
  exact (r.rep a o g).mono (keeps_new hp) (upd_ne hne)
/-- a new object of the data's heap -/
theorem Rel.new (r : Rel K G H) {p : Addr} {u : HO} {o : DO} (hp : H p = none) (h : RepA K (upd H p u) p o) : Rel K (updD G p o) (upd H p u) ∧ Frame G H (updD G p o) (upd H p u) := by
  have f : Frame G H (updD G p o) (upd H p u) := fun a ob q g _ => ⟨by rw [upd_ne (ne_of_none q hp)]; exact q, by rw [updD_ne (ne_of_none q hp)]; exact g⟩
  refine ⟨⟨fun a ob g => ?_, r.tab.ext fun b o h => by rw [upd_ne (ne_of_none h hp)]; exact h⟩, f⟩
  by_cases e : a = p
  · rw [e, updD_same] at g; cases g; rw [e]; exact h
  · rw [updD_ne e] at g
    exact (r.rep a ob g).mono (keeps_new hp) (upd_ne e)
/-- an object of the data's heap is changed -/
theorem Rel.write (r : Rel K G H) {p : Addr} {u : HO} {o o' : DO} (hp : G p = some o) (h : RepA K (upd H p u) p o') : Rel K (updD G p o') (upd H p u) ∧ Frame G H (updD G p o') (upd H p u) := by
  have ne : ∀ a, G a = none → a ≠ p := fun a g z => by rw [z, hp] at g; cases g
  have f : Frame G H (updD G p o') (upd H p u) := fun a ob q g _ => ⟨by rw [upd_ne (ne a g)]; exact q, by rw [updD_ne (ne a g)]; exact g⟩
  refine ⟨⟨fun a ob g => ?_, r.tab.mono fun b o h n1 n2 n3 => by rw [upd_ne (ne b (r.none_of h n1 n2 n3))]; exact h⟩, f⟩
  by_cases e : a = p
  · rw [e, updD_same] at g; cases g; rw [e]; exact h
  · rw [updD_ne e] at g
    exact (r.rep a ob g).mono (r.keepsW hp) (upd_ne e)
end
end DL
end
section
set_option Elab.async false
set_option linter.all false
set_option maxRecDepth 100000
set_option autoImplicit false
namespace DL
open PySem PySem.Spec PyProof.Rows L2

abbrev DSt := List (Option DV)
abbrev DK := DV → DH → Prop
abbrev DTE := DSt → DH → DK → Prop
abbrev DTT := DSt → DH → (Bool → DH → Prop) → Prop
abbrev DTA := DSt → DH → (List DV → DH → Prop) → Prop
structure RelS (K : PySem.W.Frag) (H : Hp) (τ : DSt) (σ : L2.St) : Prop where
  len : τ.length = σ.length
  get : ∀ (i : Nat) (d : DV), τ[i]? = some (some d) → ∃ v, σ[i]? = some (some v) ∧ Rep K H d v
section
variable {K : PySem.W.Frag} {H H' : Hp} {τ : DSt} {σ : L2.St}
theorem RelS.mono (r : RelS K H τ σ) (k : Keeps H H') : RelS K H' τ σ := ⟨r.len, fun i d e => let ⟨v, q, z⟩ := r.get i d e; ⟨v, q, z.mono k⟩⟩
theorem RelS.set (r : RelS K H τ σ) (i : Nat) {d : DV} {v : V} (h : Rep K H d v) : RelS K H (τ.set i (some d)) (σ.set i (some v)) := by
  refine ⟨by simp [r.len], fun j e q => ?_⟩
  by_cases hj : i = j
  · subst hj
    by_cases hl : i < τ.length
    · rw [List.getElem?_set_self hl] at q
      cases q
      exact ⟨v, List.getElem?_set_self (by rw [← r.len]; exact hl), h⟩
    · rw [List.getElem?_eq_none (by simp; omega)] at q; cases q
  · rw [List.getElem?_set_ne hj] at q ⊢
    exact r.get j e q
theorem RelS.unset (r : RelS K H τ σ) (i : Nat) : RelS K H (τ.set i none) (σ.set i none) := by
  refine ⟨by simp [r.len], fun j e q => ?_⟩
  by_cases hj : i = j
  · subst hj
    by_cases hl : i < τ.length
    · rw [List.getElem?_set_self hl] at q; cases q
    · rw [List.getElem?_eq_none (by simp; omega)] at q; cases q
  · rw [List.getElem?_set_ne hj] at q ⊢
    exact r.get j e q
end
/-! ### what is wanted of an exception -/
/-- by its class's name, its fields, the data's heap -/
abbrev DXK := String → List (String × DV) → DH → Prop
/-- a wish of data, a wish of the layer -/
structure XP where
  EX : DXK
  Ex : XK
structure XR (K : PySem.W.Frag) (x : XP) (G : DH) (H : Hp) : Prop where
  fs : ∀ (c : String) (fs : List (String × DV)) (dd : Addr) (gs : List (Str × V)) (G' : DH) (H' : Hp), H' dd = some (.xd gs) → RepF K H' fs gs → Rel K G' H' → Frame G H G' H' → x.EX c fs G' → x.Ex (.ref (He.ga K c)) (some dd) H'
  bare : ∀ (c : String) (G' : DH) (H' : Hp), Rel K G' H' → Frame G H G' H' → x.EX c [] G' → x.Ex (.ref (He.ga K c)) none H'
theorem XR.mono {K : PySem.W.Frag} {x : XP} {G G1 : DH} {H H1 : Hp} (r : XR K x G H) (f : Frame G H G1 H1) : XR K x G1 H1 :=
  ⟨fun c fs dd gs G' H' h1 h2 h3 h4 => r.fs c fs dd gs G' H' h1 h2 h3 (f.trans h4), fun c G' H' h3 h4 => r.bare c G' H' h3 (f.trans h4)⟩
def RelX (K : PySem.W.Frag) (x : XP) (G : DH) (H : Hp) : Prop := Rel K G H ∧ XR K x G H
theorem RelX.to {K : PySem.W.Frag} {x : XP} {G G1 : DH} {H H1 : Hp} (r : RelX K x G H) (q : Rel K G1 H1) (f : Frame G H G1 H1) : RelX K x G1 H1 := ⟨q, r.2.mono f⟩
/-! ### readings of data, as readings of the layer -/
def liftE (K : PySem.W.Frag) (x : XP) (t : DTE) : TE := fun σ H Q => ∃ (τ : DSt) (G : DH) (P : DK), RelS K H τ σ ∧ RelX K x G H ∧ t τ G P ∧
  ∀ d G' v H', Rep K H' d v → RelX K x G' H' → Frame G H G' H' → P d G' → Q v H'
def liftT (K : PySem.W.Frag) (x : XP) (t : DTT) : TT := fun σ H Q => ∃ (τ : DSt) (G : DH) (P : Bool → DH → Prop), RelS K H τ σ ∧ RelX K x G H ∧ t τ G P ∧
  ∀ d G' H', RelX K x G' H' → Frame G H G' H' → P d G' → Q d H'
def liftA (K : PySem.W.Frag) (x : XP) (t : DTA) : TA := fun σ H Q => ∃ (τ : DSt) (G : DH) (P : List DV → DH → Prop), RelS K H τ σ ∧ RelX K x G H ∧ t τ G P ∧
  ∀ ds G' vs H', RepL K H' ds vs → RelX K x G' H' → Frame G H G' H' → P ds G' → Q vs H'
abbrev DE (X : Cx) (x : XP) (e : Expr) (t : DTE) : Prop := PE X e (liftE X.K x t)
abbrev DT (X : Cx) (x : XP) (e : Expr) (t : DTT) : Prop := PT X e (liftT X.K x t)
abbrev DA (X : Cx) (x : XP) (es : List Expr) (t : DTA) : Prop := PA X es (liftA X.K x t)
theorem pe_weak {X : Cx} {e : Expr} {t t' : TE} (h : PE X e t) (w : ∀ σ H Q, t' σ H Q → t σ H Q) : PE X e t' := ⟨fun pins s σ H Q I q => h.run pins s σ H Q I (w σ H Q q)⟩
theorem pt_weak {X : Cx} {e : Expr} {t t' : TT} (h : PT X e t) (w : ∀ σ H Q, t' σ H Q → t σ H Q) : PT X e t' := ⟨fun pins s σ H Q I q => h.run pins s σ H Q I (w σ H Q q)⟩
theorem pa_weak {X : Cx} {e : List Expr} {t t' : TA} (h : PA X e t) (w : ∀ σ H Q, t' σ H Q → t σ H Q) : PA X e t' := ⟨fun pos pins s σ H Q I q => h.run pos pins s σ H Q I (w σ H Q q)⟩
theorem ps_weak {X : Cx} {e : Stmt} {t t' : TS} (h : PS X e t) (w : ∀ D σ H, t' D σ H → t D σ H) : PS X e t' := ⟨fun pins s σ H D I q => h.run pins s σ H D I (w D σ H q)⟩
theorem pss_weak {X : Cx} {e : List Stmt} {t t' : TS} (h : PSs X e t) (w : ∀ D σ H, t' D σ H → t D σ H) : PSs X e t' := ⟨fun pins s σ H D I q => h.run pins s σ H D I (w D σ H q)⟩

section
variable {X : Cx} {ξ : XP} {a b c e : Expr} {es : List Expr} {ta tb tc te : DTE} {t : DTA} {pos : Pos}
/-! ### names, constants -/
theorem keeps_H0 (H : Hp) : Keeps H0 H := ⟨fun a xs q => (by cases q), fun a o u q => (by cases q), fun a u q => (by cases q)⟩
def dVar (i : Nat) : DTE := fun τ G P => ∃ d, τ[i]? = some (some d) ∧ P d G
theorem de_var {i : Nat} {x : Str} (hN : X.N[i]? = some x) (hv : Vis X.env.scope x) (hd : (x == ("__debug__" : Str)) = false) (hcd : (x == ("__classdict__" : Str)) = false) : DE X ξ (.Name x pos) (dVar i) :=
  pe_weak (pe_var hN hv hd hcd) fun σ H Q ⟨τ, G, P, rs, r, ⟨d, e, h⟩, k⟩ => let ⟨v, q, z⟩ := rs.get i d e; ⟨v, q, k d G v H z r (Frame.refl G H) h⟩
/-- a datum that never changes, whatever the heap is -/
def dC (d : DV) : DTE := fun _ G P => P d G
theorem de_of {t : TE} {d : DV} (h : PE X e t) (w : ∀ σ H (Q : VK), (∀ v, Rep X.K H d v → Q v H) → t σ H Q) : DE X ξ e (dC d) :=
  pe_weak h fun σ H Q ⟨τ, G, P, rs, r, p, k⟩ => w σ H Q fun v z => k d G v H z r (Frame.refl G H) p
theorem de_int {i : Int} {j : Nat} : DE X ξ (.Constant (.int i) j pos) (dC (.int i)) := de_of pe_int fun σ H Q h => h _ (rep_int.mpr rfl)
theorem de_bl {i : Bool} {j : Nat} : DE X ξ (.Constant (.bool i) j pos) (dC (.bl i)) := de_of pe_bl fun σ H Q h => h _ (rep_bl.mpr rfl)
theorem de_non {j : Nat} : DE X ξ (.Constant .none j pos) (dC .non) := de_of pe_non fun σ H Q h => h _ (rep_non.mpr rfl)
theorem de_str {i : Str} {j : Nat} : DE X ξ (.Constant (.str i) j pos) (dC (.str i)) := de_of pe_str fun σ H Q h => h _ (rep_str.mpr rfl)
theorem de_glob {x : Str} {d : DV} {v : V} {u : Value} (hg : Gl X x) (hm : X.mg x = some u) (r : RelV v u) (z : Rep X.K H0 d v) (hd : (x == ("__debug__" : Str)) = false) : DE X ξ (.Name x pos) (dC d) :=
  de_of (pe_glob hg hm r hd) fun σ H Q h => h v (z.mono (keeps_H0 H))
/-! ### one and two operands -/
abbrev DR1 := DV → DH → DK → Prop
abbrev DR2 := DV → DV → DH → DK → Prop
/-- a rule of the layer is served by a rule of data -/
def DOp1 (K : PySem.W.Frag) (r : V → Hp → VK → Prop) (rd : DR1) : Prop := ∀ x G (P : DK) v H (Q : VK), Rep K H x v → Rel K G H → rd x G P →
  (∀ d G' w H', Rep K H' d w → Rel K G' H' → Frame G H G' H' → P d G' → Q w H') → r v H Q
def DOp (K : PySem.W.Frag) (r : R2) (rd : DR2) : Prop := ∀ x y G (P : DK) v u H (Q : VK), Rep K H x v → Rep K H y u → Rel K G H → rd x y G P →
  (∀ d G' w H', Rep K H' d w → Rel K G' H' → Frame G H G' H' → P d G' → Q w H') → r v u H Q
def dOp1 (rd : DR1) (ta : DTE) : DTE := fun τ G P => ta τ G fun x G1 => rd x G1 P
def dOp (rd : DR2) (ta tb : DTE) : DTE := fun τ G P => ta τ G fun x G1 => tb τ G1 fun y G2 => rd x y G2 P
theorem lift_op1 {K : PySem.W.Frag} {ξ : XP} {r : V → Hp → VK → Prop} {rd : DR1} (h : DOp1 K r rd) (ta : DTE) : ∀ σ H Q, liftE K ξ (dOp1 rd ta) σ H Q → liftE K ξ ta σ H fun v H1 => r v H1 Q :=
  fun σ H Q ⟨τ, G, P, rs, rl, p, k⟩ => ⟨τ, G, _, rs, rl, p, fun x G1 v H1 z r1 f1 p1 => h x G1 P v H1 Q z r1.1 p1 fun d G2 w H2 z2 r2 f2 p2 => k d G2 w H2 z2 (r1.to r2 f2) (f1.trans f2) p2⟩
theorem lift_op {K : PySem.W.Frag} {ξ : XP} {r : R2} {rd : DR2} (h : DOp K r rd) (ta tb : DTE) : ∀ σ H Q, liftE K ξ (dOp rd ta tb) σ H Q → liftE K ξ ta σ H fun v H1 => liftE K ξ tb σ H1 fun u H2 => r v u H2 Q :=
  fun σ H Q ⟨τ, G, P, rs, rl, p, k⟩ => ⟨τ, G, _, rs, rl, p, fun x G1 v H1 z r1 f1 p1 => ⟨τ, G1, _, rs.mono (f1.keeps rl.1), r1, p1, fun y G2 u H2 z2 r2 f2 p2 =>
    h x y G2 P v u H2 Q (z.mono (f2.keeps r1.1)) z2 r2.1 p2 fun d G3 w H3 z3 r3 f3 p3 => k d G3 w H3 z3 (r2.to r3 f3) (f1.trans (f2.trans f3)) p3⟩⟩
theorem de_un {op : UnaryOp} {r : V → Hp → VK → Prop} {rd : DR1} (ho : UnR X (unaryOp op) r) (h : DOp1 X.K r rd) (ha : DE X ξ a ta) : DE X ξ (.UnaryOp op a pos) (dOp1 rd ta) := pe_weak (pe_un ho ha) (lift_op1 h ta)
theorem de_bin {op : Operator} {r : R2} {rd : DR2} (ho : OpR X (binaryOp op) r) (h : DOp X.K r rd) (ha : DE X ξ a ta) (hb : DE X ξ b tb) : DE X ξ (.BinOp a op b pos) (dOp rd ta tb) := pe_weak (pe_op ho ha hb) (lift_op h ta tb)
theorem de_cmp {op : CmpOp} {r : R2} {rd : DR2} (ho : OpR X (compareOp op) r) (h : DOp X.K r rd) (ha : DE X ξ a ta) (hb : DE X ξ b tb) (hm : behindInMarks op b = false) : DE X ξ (.Compare a [op] [b] pos) (dOp rd ta tb) := pe_weak (pe_cmpR ho ha hb hm) (lift_op h ta tb)
theorem de_ix {r : R2} {rd : DR2} (ho : IxR X r) (h : DOp X.K r rd) (ha : DE X ξ a ta) (hb : DE X ξ b tb) (hm : PlainIx b) : DE X ξ (.Subscript a b pos) (dOp rd ta tb) := pe_weak (pe_ix ho ha hb hm) (lift_op h ta tb)
/-! ### tests -/
/-- a value that is a truth, as a test; a test's value -/
def dTest (t : DTE) : DTT := fun τ G P => t τ G fun x G1 => ∃ c, x = .bl c ∧ P c G1
theorem lift_test {K : PySem.W.Frag} {ξ : XP} (t : DTE) : ∀ σ H Q, liftT K ξ (dTest t) σ H Q → liftE K ξ t σ H fun x H1 => ∃ c, x = .bl c ∧ Q c H1 :=
  fun σ H Q ⟨τ, G, P, rs, rl, p, k⟩ => ⟨τ, G, _, rs, rl, p, fun x G1 v H1 z r1 f1 ⟨c, e, p1⟩ => by subst e; exact ⟨c, rep_bl.mp z, k c G1 H1 r1 f1 p1⟩⟩
theorem dt_val (h : DE X ξ e te) (he : ∀ whole, isTrue e X.env whole = (do let v ← whole; standAt e.pos; holding [v] (truthy v))) : DT X ξ e (dTest te) := pt_weak (pt_val h he) (lift_test te)
theorem dt_cmp {op : CmpOp} {r : R2} {rd : DR2} (ho : OpR X (compareOp op) r) (h : DOp X.K r rd) (ha : DE X ξ a ta) (hb : DE X ξ b tb) (hm : behindInMarks op b = false) : DT X ξ (.Compare a [op] [b] pos) (dTest (dOp rd ta tb)) :=
  pt_weak (pt_cmpR ho ha hb hm) fun σ H Q q => lift_op (fun x y G P v u H Q z1 z2 rl p k => h x y G P v u H Q z1 z2 rl p k) ta tb σ H _ (by
    obtain ⟨τ, G, P, rs, rl, p, k⟩ := q
    exact ⟨τ, G, _, rs, rl, p, fun x G1 v H1 z r1 f1 ⟨c, e, p1⟩ => by subst e; exact ⟨c, rep_bl.mp z, k c G1 H1 r1 f1 p1⟩⟩)
def dAndT (t u : DTT) : DTT := fun τ G P => t τ G fun c G1 => if c = true then u τ G1 P else P false G1
def dOrT (t u : DTT) : DTT := fun τ G P => t τ G fun c G1 => if c = true then P true G1 else u τ G1 P
def dNotT (t : DTT) : DTT := fun τ G P => t τ G fun c G1 => P (!c) G1
theorem lift_ifT {K : PySem.W.Frag} {ξ : XP} {α : Type} (t : DTT) {σ : L2.St} {H : Hp} {τ : DSt} {G : DH} {A : DH → Prop} {B : DH → Prop} {A' B' : Hp → Prop} (rs : RelS K H τ σ) (rl : RelX K ξ G H) (p : t τ G fun c G1 => if c = true then A G1 else B G1)
    (ha : ∀ G1 H1, RelX K ξ G1 H1 → Frame G H G1 H1 → A G1 → A' H1) (hb : ∀ G1 H1, RelX K ξ G1 H1 → Frame G H G1 H1 → B G1 → B' H1) : liftT K ξ t σ H fun c H1 => if c = true then A' H1 else B' H1 :=
  ⟨τ, G, _, rs, rl, p, fun c G1 H1 r1 f1 p1 => by
    cases c with
    | true => rw [if_pos rfl] at p1 ⊢; exact ha G1 H1 r1 f1 p1
    | false => rw [if_neg (by decide)] at p1 ⊢; exact hb G1 H1 r1 f1 p1⟩
abbrev DW (X : Cx) (x : XP) (e : Expr) (t : DTT) : Prop := PW X e (liftT X.K x t)
theorem pw_weak {X : Cx} {e : Expr} {t t' : TT} (h : PW X e t) (w : ∀ σ H Q, t' σ H Q → t σ H Q) : PW X e t' := ⟨fun wh pins s σ H Q I q => h.run wh pins s σ H Q I (w σ H Q q)⟩
variable {tA tB : DTT} {rest : List Expr}
theorem dw_and1 (ha : DT X ξ a tA) : DW X ξ (.BoolOp .And [a] pos) tA := pw_and1 ha
theorem dw_or1 (ha : DT X ξ a tA) : DW X ξ (.BoolOp .Or [a] pos) tA := pw_or1 ha
theorem dw_and (ha : DT X ξ a tA) (hb : DW X ξ (.BoolOp .And (b :: rest) pos) tB) : DW X ξ (.BoolOp .And (a :: b :: rest) pos) (dAndT tA tB) :=
  pw_weak (pw_and ha hb) fun σ H Q ⟨τ, G, P, rs, rl, p, k⟩ => lift_ifT (α := Unit) tA rs rl p (fun G1 H1 r1 f1 p1 => ⟨τ, G1, P, rs.mono (f1.keeps rl.1), r1, p1, fun d G2 H2 r2 f2 p2 => k d G2 H2 r2 (f1.trans f2) p2⟩) fun G1 H1 r1 f1 p1 => k false G1 H1 r1 f1 p1
theorem dw_or (ha : DT X ξ a tA) (hb : DW X ξ (.BoolOp .Or (b :: rest) pos) tB) : DW X ξ (.BoolOp .Or (a :: b :: rest) pos) (dOrT tA tB) :=
  pw_weak (pw_or ha hb) fun σ H Q ⟨τ, G, P, rs, rl, p, k⟩ => lift_ifT (α := Unit) tA rs rl p (fun G1 H1 r1 f1 p1 => k true G1 H1 r1 f1 p1) fun G1 H1 r1 f1 p1 => ⟨τ, G1, P, rs.mono (f1.keeps rl.1), r1, p1, fun d G2 H2 r2 f2 p2 => k d G2 H2 r2 (f1.trans f2) p2⟩
theorem dt_not (ha : DT X ξ a tA) : DT X ξ (.UnaryOp .Not a pos) (dNotT tA) :=
  pt_weak (pt_not ha) fun σ H Q ⟨τ, G, P, rs, rl, p, k⟩ => ⟨τ, G, _, rs, rl, p, fun c G1 H1 r1 f1 p1 => k (!c) G1 H1 r1 f1 p1⟩
/-- and, or, not of truths, as values -/
def dAndV (ta tb : DTE) : DTE := fun τ G P => ta τ G fun x G1 => ∃ c, x = .bl c ∧ if c = true then tb τ G1 P else P (.bl false) G1
def dOrV (ta tb : DTE) : DTE := fun τ G P => ta τ G fun x G1 => ∃ c, x = .bl c ∧ if c = true then P (.bl true) G1 else tb τ G1 P
def dNotV (ta : DTE) : DTE := fun τ G P => ta τ G fun x G1 => ∃ c, x = .bl c ∧ P (.bl (!c)) G1
theorem de_one {op : BoolOp} (h : DE X ξ a ta) : DE X ξ (.BoolOp op [a] pos) ta := pe_one h
theorem lift_ifV {K : PySem.W.Frag} {ξ : XP} (t : DTE) {σ : L2.St} {H : Hp} {τ : DSt} {G : DH} {A : DH → Prop} {B : DH → Prop} {A' B' : Hp → Prop} (rs : RelS K H τ σ) (rl : RelX K ξ G H) (p : t τ G fun x G1 => ∃ c, x = .bl c ∧ if c = true then A G1 else B G1)
    (ha : ∀ G1 H1, RelX K ξ G1 H1 → Frame G H G1 H1 → A G1 → A' H1) (hb : ∀ G1 H1, RelX K ξ G1 H1 → Frame G H G1 H1 → B G1 → B' H1) : liftE K ξ t σ H fun x H1 => ∃ c, x = .bl c ∧ if c = true then A' H1 else B' H1 :=
  ⟨τ, G, _, rs, rl, p, fun d G1 v H1 z r1 f1 ⟨c, e, p1⟩ => by
    subst e
    refine ⟨c, rep_bl.mp z, ?_⟩
    cases c with
    | true => rw [if_pos rfl] at p1 ⊢; exact ha G1 H1 r1 f1 p1
    | false => rw [if_neg (by decide)] at p1 ⊢; exact hb G1 H1 r1 f1 p1⟩
theorem de_and (ha : DE X ξ a ta) (hb : DE X ξ (.BoolOp .And (b :: rest) pos) tb) : DE X ξ (.BoolOp .And (a :: b :: rest) pos) (dAndV ta tb) :=
  pe_weak (pe_and ha hb) fun σ H Q ⟨τ, G, P, rs, rl, p, k⟩ => lift_ifV ta rs rl p (fun G1 H1 r1 f1 p1 => ⟨τ, G1, P, rs.mono (f1.keeps rl.1), r1, p1, fun d G2 v H2 z r2 f2 p2 => k d G2 v H2 z r2 (f1.trans f2) p2⟩) fun G1 H1 r1 f1 p1 => k _ G1 _ H1 (rep_bl.mpr rfl) r1 f1 p1
theorem de_or (ha : DE X ξ a ta) (hb : DE X ξ (.BoolOp .Or (b :: rest) pos) tb) : DE X ξ (.BoolOp .Or (a :: b :: rest) pos) (dOrV ta tb) :=
  pe_weak (pe_or ha hb) fun σ H Q ⟨τ, G, P, rs, rl, p, k⟩ => lift_ifV ta rs rl p (fun G1 H1 r1 f1 p1 => k _ G1 _ H1 (rep_bl.mpr rfl) r1 f1 p1) fun G1 H1 r1 f1 p1 => ⟨τ, G1, P, rs.mono (f1.keeps rl.1), r1, p1, fun d G2 v H2 z r2 f2 p2 => k d G2 v H2 z r2 (f1.trans f2) p2⟩
theorem de_not (ha : DE X ξ a ta) : DE X ξ (.UnaryOp .Not a pos) (dNotV ta) :=
  pe_weak (pe_not ha) fun σ H Q ⟨τ, G, P, rs, rl, p, k⟩ => ⟨τ, G, _, rs, rl, p, fun d G1 v H1 z r1 f1 ⟨c, e, p1⟩ => by subst e; exact ⟨c, rep_bl.mp z, k _ G1 _ H1 (rep_bl.mpr rfl) r1 f1 p1⟩⟩
def dIte (t : DTT) (ta tb : DTE) : DTE := fun τ G P => t τ G fun c G1 => if c = true then ta τ G1 P else tb τ G1 P
theorem de_ite (hc : DT X ξ c tA) (ha : DE X ξ a ta) (hb : DE X ξ b tb) : DE X ξ (.IfExp c a b pos) (dIte tA ta tb) :=
  pe_weak (pe_ifExp hc ha hb) fun σ H Q ⟨τ, G, P, rs, rl, p, k⟩ => lift_ifT (α := Unit) tA rs rl p
    (fun G1 H1 r1 f1 p1 => ⟨τ, G1, P, rs.mono (f1.keeps rl.1), r1, p1, fun d G2 v H2 z r2 f2 p2 => k d G2 v H2 z r2 (f1.trans f2) p2⟩)
    (fun G1 H1 r1 f1 p1 => ⟨τ, G1, P, rs.mono (f1.keeps rl.1), r1, p1, fun d G2 v H2 z r2 f2 p2 => k d G2 v H2 z r2 (f1.trans f2) p2⟩)
/-- a chain of two comparisons -/
def dChain (rd rd' : DR2) (ta tb tc : DTE) : DTE := fun τ G P => ta τ G fun x G1 => tb τ G1 fun y G2 => rd x y G2 fun z G3 => ∃ k, z = .bl k ∧ if k = true then tc τ G3 fun w G4 => rd' y w G4 P else P (.bl false) G3
theorem lift_chain {K : PySem.W.Frag} {r r' : R2} {rd rd' : DR2} (h : DOp K r rd) (h' : DOp K r' rd') (ta tb tc : DTE) : ∀ σ H Q, liftE K ξ (dChain rd rd' ta tb tc) σ H Q → tChain r r' (liftE K ξ ta) (liftE K ξ tb) (liftE K ξ tc) σ H Q :=
  fun σ H Q ⟨τ, G, P, rs, rl, p, k⟩ => ⟨τ, G, _, rs, rl, p, fun x G1 v H1 z r1 f1 p1 => ⟨τ, G1, _, rs.mono (f1.keeps rl.1), r1, p1, fun y G2 u H2 z2 r2 f2 p2 =>
    h x y G2 _ v u H2 _ (z.mono (f2.keeps r1.1)) z2 r2.1 p2 fun d G3 w H3 z3 r3' f3 ⟨kk, e, p3⟩ => by
      subst e
      have r3 := r2.to r3' f3
      refine ⟨kk, rep_bl.mp z3, ?_⟩
      cases kk with
      | true =>
        rw [if_pos rfl] at p3 ⊢
        exact ⟨τ, G3, _, ((rs.mono (f1.keeps rl.1)).mono (f2.keeps r1.1)).mono (f3.keeps r2.1), r3, p3, fun d G4 w' H4 z4 r4 f4 p4 => h' y d G4 P u w' H4 Q ((z2.mono (f3.keeps r2.1)).mono (f4.keeps r3.1)) z4 r4.1 p4 fun d G5 w H5 z5 r5 f5 p5 => k d G5 w H5 z5 (r4.to r5 f5) (f1.trans (f2.trans (f3.trans (f4.trans f5)))) p5⟩
      | false =>
        rw [if_neg (by decide)] at p3 ⊢
        exact k _ G3 _ H3 (rep_bl.mpr rfl) r3 (f1.trans (f2.trans f3)) p3⟩⟩
theorem de_chain {op op' : CmpOp} {r r' : R2} {rd rd' : DR2} (h : DOp X.K r rd) (h' : DOp X.K r' rd')
    (pc : PE X (.Compare a [op, op'] [b, c] pos) (tChain r r' (liftE X.K ξ ta) (liftE X.K ξ tb) (liftE X.K ξ tc))) : DE X ξ (.Compare a [op, op'] [b, c] pos) (dChain rd rd' ta tb tc) := pe_weak pc (lift_chain h h' ta tb tc)
/-! ### arguments, displays -/
def dNil : DTA := fun _ G P => P [] G
def dCons (ta : DTE) (tr : DTA) : DTA := fun τ G P => ta τ G fun x G1 => tr τ G1 fun xs G2 => P (x :: xs) G2
theorem da_nil : DA X ξ [] dNil := pa_weak pa_nil fun σ H Q ⟨τ, G, P, rs, rl, p, k⟩ => k [] G [] H (repL_nil.mpr rfl) rl (Frame.refl G H) p
theorem da_cons (ha : DE X ξ e te) (hr : DA X ξ es t) (hs : starEach (e :: es) X.env = (false, eval e X.env) :: starEach es X.env) : DA X ξ (e :: es) (dCons te t) :=
  pa_weak (pa_cons ha hr hs) fun σ H Q ⟨τ, G, P, rs, rl, p, k⟩ => ⟨τ, G, _, rs, rl, p, fun x G1 v H1 z r1 f1 p1 => ⟨τ, G1, _, rs.mono (f1.keeps rl.1), r1, p1, fun xs G2 vs H2 z2 r2 f2 p2 =>
    k (x :: xs) G2 (v :: vs) H2 (repL_cons.mpr ⟨v, vs, rfl, z.mono (f2.keeps r1.1), z2⟩) r2 (f1.trans f2) p2⟩⟩
def dTup (t : DTA) : DTE := fun τ G P => t τ G fun xs G1 => xs.length ≤ sizeLine ∧ P (.tup xs) G1
def dLst (t : DTA) : DTE := fun τ G P => t τ G fun xs G1 => xs.length ≤ sizeLine ∧ ∀ p, G1 p = none → P (.ref p) (updD G1 p (.lst xs))
theorem de_tup {k : Nat} (h : DA X ξ es t) : DE X ξ (.Tuple es k pos) (dTup t) :=
  pe_weak (pe_tup h) fun σ H Q ⟨τ, G, P, rs, rl, p, k⟩ => ⟨τ, G, _, rs, rl, p, fun xs G1 vs H1 z r1 f1 ⟨hl, p1⟩ => ⟨by rw [z.length]; exact hl, fun q hq =>
    have ⟨r2, f2⟩ := r1.1.aside (u := .tup vs) hq
    k (.tup xs) G1 _ _ (rep_tup.mpr ⟨q, vs, rfl, SqT.of upd_same, z.mono (f2.keeps r1.1)⟩) (r1.to r2 f2) (f1.trans f2) p1⟩⟩
theorem de_lst (h : DA X ξ es t) : DE X ξ (.List es pos) (dLst t) :=
  pe_weak (pe_lst h) fun σ H Q ⟨τ, G, P, rs, rl, p, k⟩ => ⟨τ, G, _, rs, rl, p, fun xs G1 vs H1 z r1 f1 ⟨hl, p1⟩ => ⟨by rw [z.length]; exact hl, fun q hq =>
    have ⟨r2, f2⟩ := r1.1.new (p := q) (u := .lst vs) (o := .lst xs) hq ⟨vs, upd_same, z.mono (keeps_new hq)⟩
    k (.ref q) _ _ _ (rep_ref.mpr rfl) (r1.to r2 f2) (f1.trans f2) (p1 q (r1.1.fresh hq))⟩⟩
end
end DL
end
section
set_option Elab.async false
set_option linter.all false
set_option maxRecDepth 100000
set_option autoImplicit false
namespace DL
open PySem PySem.Spec PyProof.Rows L2
section
variable {X : Cx} {K : PySem.W.Frag}
theorem DOp.or {r r' : R2} {rd rd' : DR2} (h : DOp K r rd) (h' : DOp K r' rd') : DOp K (fun x y H Q => r x y H Q ∨ r' x y H Q) (fun x y G P => rd x y G P ∨ rd' x y G P) :=
  fun x y G P v u H Q z1 z2 rl p k => p.imp (fun p => h x y G P v u H Q z1 z2 rl p k) (fun p => h' x y G P v u H Q z1 z2 rl p k)
theorem DOp.imp {r : R2} {rd rd' : DR2} (h : DOp K r rd) (w : ∀ x y G P, rd' x y G P → rd x y G P) : DOp K r rd' := fun x y G P v u H Q z1 z2 rl p k => h x y G P v u H Q z1 z2 rl (w x y G P p) k
/-! ### flat data -/
def toF : DV → Option V
  | .non => some .non
  | .bl b => some (.bl b)
  | .int i => some (.int i)
  | .str x => some (.str x)
  | _ => none
theorem toF_rep {d : DV} {f v : V} {H : Hp} (h : toF d = some f) (r : Rep K H d v) : v = f := by
  cases d with
  | non => cases h; exact rep_non.mp r
  | bl b => cases h; exact rep_bl.mp r
  | int b => cases h; exact rep_int.mp r
  | str b => cases h; exact rep_str.mp r
  | _ => cases h
theorem toF_flat {d : DV} {f : V} (h : toF d = some f) : flatV f = true := by
  cases d with
  | non => cases h; rfl
  | bl b => cases h; rfl
  | int b => cases h; rfl
  | str b => cases h; rfl
  | _ => cases h
def fpart (d : DV) : V := (toF d).getD .non
theorem toF_all : ∀ {ds : List DV} {vs : List V} {H : Hp}, (ds.all fun d => (toF d).isSome) = true → RepL K H ds vs → vs = ds.map fpart ∧ vs.all flatV = true
  | [], vs, H, _, r => by rw [repL_nil.mp r]; exact ⟨rfl, rfl⟩
  | d :: ds, vs, H, h, r => by
    obtain ⟨v, w, rfl, r1, r2⟩ := repL_cons.mp r
    rw [List.all_cons, Bool.and_eq_true] at h
    obtain ⟨f, hf⟩ := Option.isSome_iff_exists.mp h.1
    obtain ⟨e, a⟩ := toF_all h.2 r2
    have ev := toF_rep hf r1
    subst ev
    refine ⟨by rw [List.map_cons, ← e]; unfold fpart; rw [hf]; rfl, ?_⟩
    rw [List.all_cons, toF_flat hf, a]; rfl
/-! ### ints -/
def dII (C : Int → Int → Prop) (g : Int → Int → DV) : DR2 := fun x y G P => ∃ i j, x = .int i ∧ y = .int j ∧ C i j ∧ P (g i j) G
theorem dop_I {C : Int → Int → Prop} {g : Int → Int → V} {gd : Int → Int → DV} (h : ∀ i j H, Rep K H (gd i j) (g i j)) : DOp K (rI C g) (dII C gd) :=
  fun x y G P v u H Q z1 z2 rl ⟨i, j, ex, ey, c, p⟩ k => by
    subst ex ey
    exact ⟨i, j, rep_int.mp z1, rep_int.mp z2, c, k _ G _ H (h i j H) rl (Frame.refl G H) p⟩
theorem dop_I0 {g : Int → Int → V} {gd : Int → Int → DV} (h : ∀ i j H, Rep K H (gd i j) (g i j)) : DOp K (rI0 g) (dII (fun _ _ => True) gd) :=
  fun x y G P v u H Q z1 z2 rl ⟨i, j, ex, ey, _, p⟩ k => by
    subst ex ey
    exact ⟨i, j, rep_int.mp z1, rep_int.mp z2, k _ G _ H (h i j H) rl (Frame.refl G H) p⟩
/-! ### + -/
def dAdd : DR2 := fun x y G P => match x, y with
  | .int i, .int j => P (.int (i + j)) G
  | .str a, .str b => a.length + b.length ≤ sizeLine ∧ P (.str (a ++ b)) G
  | .tup xs, .tup ys => xs.length + ys.length ≤ sizeLine ∧ P (.tup (xs ++ ys)) G
  | .ref a, .ref b => ∃ xs ys, G a = some (.lst xs) ∧ G b = some (.lst ys) ∧ xs.length + ys.length ≤ sizeLine ∧ ∀ p, G p = none → P (.ref p) (updD G p (.lst (xs ++ ys)))
  | _, _ => False
abbrev rStrAdd : R2 := fun x y H Q => ∃ i j, x = .str i ∧ y = .str j ∧ i.length + j.length ≤ sizeLine ∧ Q (.str (i ++ j)) H
abbrev rAddAll (K : PySem.W.Frag) : R2 := fun x y H Q => rI0 (fun i j => .int (i + j)) x y H Q ∨ (rStrAdd x y H Q ∨ (rCatA K x y H Q ∨ rCat x y H Q))
theorem op_addAll : OpR X (binaryOp .Add) (rAddAll X.K) := op_add.or (op_add_str.or (op_catA.or op_cat))
theorem dop_add : DOp K (rAddAll K) dAdd := fun x y G P v u H Q z1 z2 rl p k => by
  unfold dAdd at p
  split at p
  · exact .inl ⟨_, _, rep_int.mp z1, rep_int.mp z2, k _ G _ H (rep_int.mpr rfl) rl (Frame.refl G H) p⟩
  · exact .inr (.inl ⟨_, _, rep_str.mp z1, rep_str.mp z2, p.1, k _ G _ H (rep_str.mpr rfl) rl (Frame.refl G H) p.2⟩)
  · rename_i xs ys
    obtain ⟨a, vs, e1, s1, r1⟩ := rep_tup.mp z1
    obtain ⟨b, us, e2, s2, r2⟩ := rep_tup.mp z2
    refine .inr (.inr (.inl ⟨a, b, vs, us, e1, e2, s1, s2, by rw [r1.length, r2.length]; exact p.1, fun e => ?_, fun n e => ?_, fun n1 n2 q hq => ?_⟩))
    · subst e
      have : xs = [] := List.eq_nil_of_length_eq_zero (by rw [← r1.length]; rfl)
      subst this
      exact k _ G _ H (rep_tup.mpr ⟨b, us, rfl, s2, r2⟩) rl (Frame.refl G H) p.2
    · subst e
      have : ys = [] := List.eq_nil_of_length_eq_zero (by rw [← r2.length]; rfl)
      subst this
      rw [List.append_nil] at p
      exact k _ G _ H (rep_tup.mpr ⟨a, vs, rfl, s1, r1⟩) rl (Frame.refl G H) p.2
    · have ⟨r3, f3⟩ := rl.aside (u := .tup (vs ++ us)) hq
      exact k _ G _ _ (rep_tup.mpr ⟨q, _, rfl, SqT.of upd_same, (r1.append r2).mono (f3.keeps rl)⟩) r3 f3 p.2
  · obtain ⟨xs, ys, ga, gb, hl, p⟩ := p
    obtain ⟨vs, h1, r1⟩ := rl _ _ ga
    obtain ⟨us, h2, r2⟩ := rl _ _ gb
    refine .inr (.inr (.inr ⟨_, _, vs, us, rep_ref.mp z1, rep_ref.mp z2, h1, h2, by rw [r1.length, r2.length]; exact hl, fun q hq => ?_⟩))
    have ⟨r3, f3⟩ := rl.new (p := q) (u := .lst (vs ++ us)) (o := .lst (xs ++ ys)) hq ⟨_, upd_same, (r1.append r2).mono (keeps_new hq)⟩
    exact k _ _ _ _ (rep_ref.mpr rfl) r3 f3 (p q (rl.fresh hq))
  · exact p.elim
/-! ### -, //, %, ** -/
abbrev dSub : DR2 := dII (fun _ _ => True) fun i j => .int (i - j)
theorem dop_sub : DOp K (rI0 fun i j => .int (i - j)) dSub := dop_I0 fun _ _ _ => rep_int.mpr rfl
abbrev dFdiv : DR2 := dII CDivN fun i j => .int (i.fdiv j)
theorem dop_fdiv : DOp K (rI CDivN fun i j => .int (i.fdiv j)) dFdiv := dop_I fun _ _ _ => rep_int.mpr rfl
abbrev dMod : DR2 := dII (fun _ j => 0 < j) fun i j => .int (i % j)
theorem dop_mod : DOp K (rI (fun _ j => 0 < j) fun i j => .int (i % j)) dMod := dop_I fun _ _ _ => rep_int.mpr rfl
abbrev dPow : DR2 := dII CPow fun i j => .int (i ^ j.toNat)
theorem dop_pow : DOp K (rI CPow fun i j => .int (i ^ j.toNat)) dPow := dop_I fun _ _ _ => rep_int.mpr rfl
/-! ### < and its like -/
abbrev sLt (a b : Str) : Bool := decide (a.cps.toList < b.cps.toList)
def dLt : DR2 := fun x y G P => match x, y with
  | .int i, .int j => P (.bl (decide (i < j))) G
  | .str a, .str b => P (.bl (sLt a b)) G
  | _, _ => False
def dLe : DR2 := fun x y G P => match x, y with
  | .int i, .int j => P (.bl (decide (i ≤ j))) G
  | .str a, .str b => P (.bl (!sLt b a)) G
  | _, _ => False
def dGt : DR2 := fun x y G P => match x, y with
  | .int i, .int j => P (.bl (decide (j < i))) G
  | .str a, .str b => P (.bl (sLt b a)) G
  | _, _ => False
def dGe : DR2 := fun x y G P => match x, y with
  | .int i, .int j => P (.bl (decide (j ≤ i))) G
  | .str a, .str b => P (.bl (!sLt a b)) G
  | _, _ => False
abbrev rCmpAll (f : Int → Int → V) (g : Str → Str → V) : R2 := fun x y H Q => rI0 f x y H Q ∨ ∃ i j, x = .str i ∧ y = .str j ∧ Q (g i j) H
theorem dop_cmp {f : Int → Int → Bool} {g : Str → Str → Bool} {rd : DR2} (h : ∀ x y G (P : DK), rd x y G P → (∃ i j, x = .int i ∧ y = .int j ∧ P (.bl (f i j)) G) ∨ ∃ i j, x = .str i ∧ y = .str j ∧ P (.bl (g i j)) G) :
    DOp K (rCmpAll (fun i j => .bl (f i j)) (fun i j => .bl (g i j))) rd := fun x y G P v u H Q z1 z2 rl p0 k => by
  rcases h x y G P p0 with ⟨i, j, rfl, rfl, p⟩ | ⟨i, j, rfl, rfl, p⟩
  · exact .inl ⟨i, j, rep_int.mp z1, rep_int.mp z2, k _ G _ H (rep_bl.mpr rfl) rl (Frame.refl G H) p⟩
  · exact .inr ⟨i, j, rep_str.mp z1, rep_str.mp z2, k _ G _ H (rep_bl.mpr rfl) rl (Frame.refl G H) p⟩
theorem op_ltAll : OpR X (compareOp .Lt) (rCmpAll (fun i j => .bl (decide (i < j))) (fun i j => .bl (sLt i j))) := op_lt.or op_lt_str
theorem op_leAll : OpR X (compareOp .LtE) (rCmpAll (fun i j => .bl (decide (i ≤ j))) (fun i j => .bl (!sLt j i))) := op_le.or op_le_str
theorem op_gtAll : OpR X (compareOp .Gt) (rCmpAll (fun i j => .bl (decide (j < i))) (fun i j => .bl (sLt j i))) := op_gt.or op_gt_str
theorem op_geAll : OpR X (compareOp .GtE) (rCmpAll (fun i j => .bl (decide (j ≤ i))) (fun i j => .bl (!sLt i j))) := op_ge.or op_ge_str
theorem dop_lt : DOp K (rCmpAll (fun i j => .bl (decide (i < j))) (fun i j => .bl (sLt i j))) dLt := dop_cmp fun x y G P p => by
  unfold dLt at p; split at p
  · exact .inl ⟨_, _, rfl, rfl, p⟩
  · exact .inr ⟨_, _, rfl, rfl, p⟩
  · exact p.elim
theorem dop_le : DOp K (rCmpAll (fun i j => .bl (decide (i ≤ j))) (fun i j => .bl (!sLt j i))) dLe := dop_cmp fun x y G P p => by
  unfold dLe at p; split at p
  · exact .inl ⟨_, _, rfl, rfl, p⟩
  · exact .inr ⟨_, _, rfl, rfl, p⟩
  · exact p.elim
theorem dop_gt : DOp K (rCmpAll (fun i j => .bl (decide (j < i))) (fun i j => .bl (sLt j i))) dGt := dop_cmp fun x y G P p => by
  unfold dGt at p; split at p
  · exact .inl ⟨_, _, rfl, rfl, p⟩
  · exact .inr ⟨_, _, rfl, rfl, p⟩
  · exact p.elim
theorem dop_ge : DOp K (rCmpAll (fun i j => .bl (decide (j ≤ i))) (fun i j => .bl (!sLt i j))) dGe := dop_cmp fun x y G P p => by
  unfold dGe at p; split at p
  · exact .inl ⟨_, _, rfl, rfl, p⟩
  · exact .inr ⟨_, _, rfl, rfl, p⟩
  · exact p.elim
/-! ### ==, != -/
def omap {α β : Type} (f : α → Option β) : List α → Option (List β)
  | [] => some []
  | x :: xs => match f x, omap f xs with
    | some d, some ds => some (d :: ds)
    | _, _ => none
/-- a datum read through the heap: tuples, lists, scalars, to a depth -/
def toPD (G : DH) : Nat → DV → Option PyData
  | _, .non => some .none
  | _, .bl b => some (.bool b)
  | _, .int i => some (.int i)
  | _, .str x => some (.str x)
  | n + 1, .tup xs => (omap (toPD G n) xs).map .tuple
  | n + 1, .lk xs => (omap (toPD G n) xs).map .list
  | n + 1, .xt xs => (omap (toPD G n) xs).map .tuple
  | n + 1, .ref a => match G a with
    | some (.lst xs) => (omap (toPD G n) xs).map .list
    | _ => none
  | _, _ => none
theorem sqL_weak {H : Hp} {a : Addr} {vs : List V} (h : SqL K H0 a vs) : SqL K H a vs := by
  rcases h with (h | ⟨o, h⟩) | h
  · cases h
  · cases h
  · exact .inr h
theorem depthAll_le {n : Nat} : ∀ {ps : List PyData}, (∀ p ∈ ps, p.depth ≤ n) → PyData.depthAll ps ≤ n
  | [], _ => by unfold PyData.depthAll; exact Nat.zero_le _
  | p :: ps, h => by
    unfold PyData.depthAll
    exact Nat.max_le.mpr ⟨h p (List.mem_cons_self ..), depthAll_le fun q hq => h q (List.mem_cons_of_mem _ hq)⟩
theorem omap_dp {G : DH} {H : Hp} {n : Nat} (ih : ∀ d p v, toPD G n d = some p → Rep K H d v → Dp K H v p ∧ p.depth ≤ n) : ∀ (xs : List DV) (ps : List PyData) (vs : List V), omap (toPD G n) xs = some ps → RepL K H xs vs → DpAll K H vs ps ∧ ∀ p ∈ ps, p.depth ≤ n
  | [], ps, vs, h, r => by cases h; rw [repL_nil.mp r]; exact ⟨.nil, fun _ h => nomatch h⟩
  | x :: xs, ps, vs, h, r => by
    obtain ⟨v, w, rfl, r1, r2⟩ := repL_cons.mp r
    unfold omap at h
    split at h
    · rename_i d ds e1 e2
      cases h
      obtain ⟨h1, l1⟩ := ih x d v e1 r1
      obtain ⟨h2, l2⟩ := omap_dp ih xs ds w e2 r2
      refine ⟨.cons h1 h2, fun p hp => ?_⟩
      rcases List.mem_cons.mp hp with rfl | hp
      · exact l1
      · exact l2 p hp
    · cases h
theorem toPD_dp {G : DH} {H : Hp} (rl : Rel K G H) : ∀ (n : Nat) (d : DV) (p : PyData) (v : V), toPD G n d = some p → Rep K H d v → Dp K H v p ∧ p.depth ≤ n
  | n, .non, p, v, h, r => by
    have : p = .none := by unfold toPD at h; cases n <;> (cases h; rfl)
    subst this; rw [rep_non.mp r]; exact ⟨.non, by unfold PyData.depth; exact Nat.zero_le _⟩
  | n, .bl b, p, v, h, r => by
    have : p = .bool b := by unfold toPD at h; cases n <;> (cases h; rfl)
    subst this; rw [rep_bl.mp r]; exact ⟨.bl b, by unfold PyData.depth; exact Nat.zero_le _⟩
  | n, .int b, p, v, h, r => by
    have : p = .int b := by unfold toPD at h; cases n <;> (cases h; rfl)
    subst this; rw [rep_int.mp r]; exact ⟨.int b, by unfold PyData.depth; exact Nat.zero_le _⟩
  | n, .str b, p, v, h, r => by
    have : p = .str b := by unfold toPD at h; cases n <;> (cases h; rfl)
    subst this; rw [rep_str.mp r]; exact ⟨.str b, by unfold PyData.depth; exact Nat.zero_le _⟩
  | 0, .tup xs, p, v, h, r => by unfold toPD at h; cases h
  | 0, .lk xs, p, v, h, r => by unfold toPD at h; cases h
  | 0, .xt xs, p, v, h, r => by unfold toPD at h; cases h
  | 0, .ref xs, p, v, h, r => by unfold toPD at h; cases h
  | n, .ty xs, p, v, h, r => by unfold toPD at h; cases n <;> cases h
  | n, .fv L, p, v, h, r => by unfold toPD at h; cases n <;> cases h
  | n + 1, .tup xs, p, v, h, r => by
    unfold toPD at h
    obtain ⟨ps, e, rfl⟩ := Option.map_eq_some_iff.mp h
    obtain ⟨a, vs, rfl, s, r1⟩ := rep_tup.mp r
    obtain ⟨h1, l1⟩ := omap_dp (toPD_dp rl n) xs ps vs e r1
    exact ⟨.tup s h1, by unfold PyData.depth; exact Nat.succ_le_succ (depthAll_le l1)⟩
  | n + 1, .xt xs, p, v, h, r => by
    unfold toPD at h
    obtain ⟨ps, e, rfl⟩ := Option.map_eq_some_iff.mp h
    obtain ⟨a, vs, rfl, s, r1⟩ := rep_tup.mp (rep_forget r)
    obtain ⟨h1, l1⟩ := omap_dp (toPD_dp rl n) xs ps vs e r1
    exact ⟨.tup s h1, by unfold PyData.depth; exact Nat.succ_le_succ (depthAll_le l1)⟩
  | n + 1, .lk xs, p, v, h, r => by
    unfold toPD at h
    obtain ⟨ps, e, rfl⟩ := Option.map_eq_some_iff.mp h
    obtain ⟨a, vs, rfl, s, r1⟩ := rep_lk.mp r
    obtain ⟨h1, l1⟩ := omap_dp (toPD_dp rl n) xs ps vs e r1
    refine ⟨.lst ?_ h1, by unfold PyData.depth; exact Nat.succ_le_succ (depthAll_le l1)⟩
    rcases s with ⟨o, s⟩ | s
    · exact .inl (.inr ⟨o, s⟩)
    · exact sqL_weak s
  | n + 1, .ref a, p, v, h, r => by
    unfold toPD at h
    split at h
    · rename_i xs g
      obtain ⟨ps, e, rfl⟩ := Option.map_eq_some_iff.mp h
      rw [rep_ref.mp r]
      obtain ⟨vs, hv, r1⟩ := rl _ _ g
      obtain ⟨h1, l1⟩ := omap_dp (toPD_dp rl n) xs ps vs e r1
      exact ⟨.lst (SqL.of hv) h1, by unfold PyData.depth; exact Nat.succ_le_succ (depthAll_le l1)⟩
    · cases h
/-- how deep data may be that are compared -/
def dEq : DR2 := fun x y G P => (∃ f g, toF x = some f ∧ toF y = some g ∧ scal f g = true ∧ P (.bl (decide (f = g))) G) ∨
  ∃ d e, toPD G 60 x = some d ∧ toPD G 60 y = some e ∧ d.canLay0 = true ∧ e.canLay0 = true ∧ P (.bl (PyData.eqv d e)) G
def dNe : DR2 := fun x y G P => (∃ f g, toF x = some f ∧ toF y = some g ∧ scal f g = true ∧ P (.bl (!decide (f = g))) G) ∨
  ∃ d e, toPD G 60 x = some d ∧ toPD G 60 y = some e ∧ d.canLay0 = true ∧ e.canLay0 = true ∧ P (.bl (!PyData.eqv d e)) G
theorem shaped_of {d : PyData} (h : d.canLay0 = true) (l : d.depth ≤ 60) : SeqAt.shaped d = true := by
  unfold SeqAt.shaped
  rw [h, Bool.true_and]
  exact decide_eq_true (by omega)
theorem dop_eq : DOp K (fun x y H Q => rEq x y H Q ∨ rEqD K x y H Q) dEq := fun x y G P v u H Q z1 z2 rl p k => by
  rcases p with ⟨f, g, e1, e2, s, p⟩ | ⟨d, e, e1, e2, c1, c2, p⟩
  · rw [toF_rep e1 z1, toF_rep e2 z2]
    exact .inl ⟨s, k _ G _ H (rep_bl.mpr rfl) rl (Frame.refl G H) p⟩
  · obtain ⟨h1, l1⟩ := toPD_dp rl 60 x d v e1 z1
    obtain ⟨h2, l2⟩ := toPD_dp rl 60 y e u e2 z2
    exact .inr ⟨d, e, h1, h2, shaped_of c1 l1, shaped_of c2 l2, k _ G _ H (rep_bl.mpr rfl) rl (Frame.refl G H) p⟩
theorem dop_ne : DOp K (fun x y H Q => rNe x y H Q ∨ rNeD K x y H Q) dNe := fun x y G P v u H Q z1 z2 rl p k => by
  rcases p with ⟨f, g, e1, e2, s, p⟩ | ⟨d, e, e1, e2, c1, c2, p⟩
  · rw [toF_rep e1 z1, toF_rep e2 z2]
    exact .inl ⟨s, k _ G _ H (rep_bl.mpr rfl) rl (Frame.refl G H) p⟩
  · obtain ⟨h1, l1⟩ := toPD_dp rl 60 x d v e1 z1
    obtain ⟨h2, l2⟩ := toPD_dp rl 60 y e u e2 z2
    exact .inr ⟨d, e, h1, h2, shaped_of c1 l1, shaped_of c2 l2, k _ G _ H (rep_bl.mpr rfl) rl (Frame.refl G H) p⟩
theorem op_eqAll (hu : X.A.units + 64 < cLine) : OpR X (compareOp .Eq) (fun x y H Q => rEq x y H Q ∨ rEqD X.K x y H Q) := op_eq.or (op_eqD hu)
theorem op_neAll (hu : X.A.units + 64 < cLine) : OpR X (compareOp .NotEq) (fun x y H Q => rNe x y H Q ∨ rNeD X.K x y H Q) := op_ne.or (op_neD hu)
/-! ### in, not in -/
def keyD : DV → Option Key
  | .int i => some (.inl i)
  | .str x => some (.inr x)
  | _ => none
theorem keyD_rep {d : DV} {k : Key} {v : V} {H : Hp} (h : keyD d = some k) (r : Rep K H d v) : v = kV k := by
  cases d with
  | int i => cases h; exact rep_int.mp r
  | str i => cases h; exact rep_str.mp r
  | _ => cases h
/-- a dict's value at a key -/
def valD {κ : Type} [DecidableEq κ] (kvs : List (κ × DV)) (k : κ) : Option DV := (kvs.find? fun kv => decide (kv.1 = k)).map (·.2)
theorem valD_rep {κ : Type} [DecidableEq κ] {H : Hp} (k : κ) : ∀ {kvs : List (κ × DV)} {ps : List (κ × V)}, RepP K H kvs ps → (valD kvs k = none ∧ valV ps k = none) ∨ ∃ d v, valD kvs k = some d ∧ valV ps k = some v ∧ Rep K H d v
  | _, _, .nil => .inl ⟨rfl, rfl⟩
  | p :: ks, q :: ps, .cons ⟨e, r⟩ t => by
    by_cases h : p.1 = k
    · exact .inr ⟨p.2, q.2, by unfold valD; simp [List.find?_cons, h], by unfold valV; simp [List.find?_cons, ← e, h], r⟩
    · have h1 : valD (p :: ks) k = valD ks k := by unfold valD; rw [List.find?_cons, decide_eq_false h]
      have h2 : valV (q :: ps) k = valV ps k := by unfold valV; rw [List.find?_cons, decide_eq_false (by rw [← e]; exact h)]
      rw [h1, h2]
      exact valD_rep k t
/-- one text within another -/
def inStr (a b : Str) : Bool := !(Builtin.Str.occurrences b a 0 b.length 1).isEmpty
def inFlat (x : DV) (xs : List DV) : Bool := inV (fpart x) (xs.map fpart)
def flats (xs : List DV) : Bool := xs.all fun d => (toF d).isSome
def dIn (neg : Bool) : DR2 := fun x y G P => match y with
  | .str b => ∃ a, x = .str a ∧ P (.bl (xor neg (inStr a b))) G
  | .tup xs => (toF x).isSome = true ∧ flats xs = true ∧ P (.bl (xor neg (inFlat x xs))) G
  | .ref a => match G a with
    | some (.lst xs) => (toF x).isSome = true ∧ flats xs = true ∧ P (.bl (xor neg (inFlat x xs))) G
    | some (.dK kvs) => ∃ k, keyD x = some k ∧ P (.bl (xor neg (valD kvs k).isSome)) G
    | _ => False
  | _ => False
abbrev rInDk (neg : Bool) : R2 := fun x y H Q => ∃ a o, y = .ref a ∧ DGet H a x o ∧ Q (.bl (xor neg o.isSome)) H
theorem op_inDk (hu : X.A.units + 1 < cLine) : OpR X (compareOp .In) (rInDk false) := fun pins s σ H x y v u Q I rx ry ⟨a, o, ey, g, q⟩ => by
  subst ey
  obtain rfl : u = Value.ref a := ry
  exact d_in hu I g rx fun s' I' => ⟨.bl o.isSome, H, I', rfl, by rw [Bool.false_xor] at q; exact q⟩
theorem op_notInDk (hu : X.A.units + 1 < cLine) : OpR X (compareOp .NotIn) (rInDk true) := fun pins s σ H x y v u Q I rx ry ⟨a, o, ey, g, q⟩ => by
  subst ey
  obtain rfl : u = Value.ref a := ry
  exact d_notIn hu I g rx fun s' I' => ⟨.bl (!o.isSome), H, I', rfl, by rw [Bool.true_xor] at q; exact q⟩
abbrev rInStr (neg : Bool) : R2 := fun x y H Q => ∃ i j, x = .str i ∧ y = .str j ∧ Q (.bl (xor neg (inStr i j))) H
theorem op_inStr : OpR X (compareOp .In) (rInStr false) := fun pins s σ H x y v u Q I rx ry ⟨i, j, ex, ey, q⟩ =>
  op_in_str pins s σ H x y v u Q I rx ry ⟨i, j, ex, ey, by rw [Bool.false_xor] at q; exact q⟩
theorem op_notInStr : OpR X (compareOp .NotIn) (rInStr true) := fun pins s σ H x y v u Q I rx ry ⟨i, j, ex, ey, q⟩ =>
  op_notin_str pins s σ H x y v u Q I rx ry ⟨i, j, ex, ey, by rw [Bool.true_xor] at q; exact q⟩
abbrev rInAll (K : PySem.W.Frag) (neg : Bool) : R2 := fun x y H Q => rInStr neg x y H Q ∨ (rIn K neg x y H Q ∨ rInDk neg x y H Q)
theorem op_inAll (hu : X.A.units + 1 < cLine) : OpR X (compareOp .In) (rInAll X.K false) := op_inStr.or (op_in_seq.or (op_inDk hu))
theorem op_notInAll (hu : X.A.units + 1 < cLine) : OpR X (compareOp .NotIn) (rInAll X.K true) := op_notInStr.or (op_notIn_seq.or (op_notInDk hu))
theorem if_xor (neg b : Bool) : (if neg then !b else b) = xor neg b := by cases neg <;> cases b <;> rfl
theorem dop_in {neg : Bool} : DOp K (rInAll K neg) (dIn neg) := fun x y G P v u H Q z1 z2 rl p k => by
  unfold dIn at p
  split at p
  · obtain ⟨a, e, p⟩ := p
    subst e
    exact .inl ⟨a, _, rep_str.mp z1, rep_str.mp z2, k _ G _ H (rep_bl.mpr rfl) rl (Frame.refl G H) p⟩
  · rename_i xs
    obtain ⟨h1, h2, p⟩ := p
    obtain ⟨f, hf⟩ := Option.isSome_iff_exists.mp h1
    obtain ⟨b, us, e2, s2, r2⟩ := rep_tup.mp z2
    obtain ⟨e3, a3⟩ := toF_all h2 r2
    have e1 := toF_rep hf z1
    refine .inr (.inl ⟨b, us, e2, .inr s2, by rw [e1]; exact toF_flat hf, a3, ?_⟩)
    have ef : fpart x = v := by unfold fpart; rw [hf, e1]; rfl
    rw [if_xor, e3, ← ef]
    exact k _ G _ H (rep_bl.mpr rfl) rl (Frame.refl G H) p
  · rename_i a
    split at p
    · rename_i xs g
      obtain ⟨h1, h2, p⟩ := p
      obtain ⟨f, hf⟩ := Option.isSome_iff_exists.mp h1
      obtain ⟨us, hh, r2⟩ := rl _ _ g
      obtain ⟨e3, a3⟩ := toF_all h2 r2
      have e1 := toF_rep hf z1
      refine .inr (.inl ⟨a, us, rep_ref.mp z2, .inl (SqL.of hh), by rw [e1]; exact toF_flat hf, a3, ?_⟩)
      have ef : fpart x = v := by unfold fpart; rw [hf, e1]; rfl
      rw [if_xor, e3, ← ef]
      exact k _ G _ H (rep_bl.mpr rfl) rl (Frame.refl G H) p
    · rename_i kvs g
      obtain ⟨kk, hk, p⟩ := p
      obtain ⟨ps, hh, r2⟩ := rl _ _ g
      refine .inr (.inr ⟨a, valV ps kk, rep_ref.mp z2, by rw [keyD_rep hk z1]; exact DGet.k hh, ?_⟩)
      have es : (valV ps kk).isSome = (valD kvs kk).isSome := by
        rcases valD_rep kk r2 with ⟨q1, q2⟩ | ⟨d, w, q1, q2, _⟩ <;> rw [q1, q2] <;> rfl
      rw [es]
      exact k _ G _ H (rep_bl.mpr rfl) rl (Frame.refl G H) p
    · exact p.elim
  · exact p.elim
/-! ### is, is not: None, True, False -/
def isNonD : DV → Bool
  | .non => true
  | _ => false
def dIs (neg : Bool) : DR2 := fun x y G P => match y with
  | .non => P (.bl (xor neg (isNonD x))) G
  | .bl b => ∃ a, x = .bl a ∧ P (.bl (xor neg (decide (a = b)))) G
  | _ => False
abbrev rIsAll (neg : Bool) : R2 := fun x y H Q => (y = .non ∧ Q (.bl (xor neg (decide (x = .non)))) H) ∨ ∃ a b, x = .bl a ∧ y = .bl b ∧ Q (.bl (xor neg (decide (a = b)))) H
theorem op_isAll : OpR X (compareOp .Is) (rIsAll false) := fun pins s σ H x y v u Q I rx ry h => by
  rcases h with ⟨e, q⟩ | ⟨a, b, e1, e2, q⟩
  · exact op_isN pins s σ H x y v u Q I rx ry ⟨e, by rw [Bool.false_xor] at q; exact q⟩
  · exact op_is_bl pins s σ H x y v u Q I rx ry ⟨a, b, e1, e2, by rw [Bool.false_xor] at q; exact q⟩
theorem op_isnotAll : OpR X (compareOp .IsNot) (rIsAll true) := fun pins s σ H x y v u Q I rx ry h => by
  rcases h with ⟨e, q⟩ | ⟨a, b, e1, e2, q⟩
  · exact op_notN pins s σ H x y v u Q I rx ry ⟨e, by rw [Bool.true_xor] at q; exact q⟩
  · exact op_isnot_bl pins s σ H x y v u Q I rx ry ⟨a, b, e1, e2, by rw [Bool.true_xor] at q; exact q⟩
theorem rep_isNon {d : DV} {v : V} {H : Hp} (r : Rep K H d v) : decide (v = .non) = isNonD d := by
  cases d with
  | non => rw [rep_non.mp r]; rfl
  | bl b => rw [rep_bl.mp r]; rfl
  | int b => rw [rep_int.mp r]; rfl
  | str b => rw [rep_str.mp r]; rfl
  | ref b => rw [rep_ref.mp r]; rfl
  | ty b => rw [rep_ty.mp r]; rfl
  | tup b => obtain ⟨a, vs, e, _⟩ := rep_tup.mp r; rw [e]; rfl
  | lk b => obtain ⟨a, vs, e, _⟩ := rep_lk.mp r; rw [e]; rfl
  | xt b => obtain ⟨a, vs, e, _⟩ := rep_xt.mp r; rw [e]; rfl
  | fv b => obtain ⟨a, vs, e, _⟩ := rep_fv.mp r; rw [e]; rfl
theorem dop_is {neg : Bool} : DOp K (rIsAll neg) (dIs neg) := fun x y G P v u H Q z1 z2 rl p k => by
  unfold dIs at p
  split at p
  · exact .inl ⟨rep_non.mp z2, by rw [rep_isNon z1]; exact k _ G _ H (rep_bl.mpr rfl) rl (Frame.refl G H) p⟩
  · obtain ⟨a, e, p⟩ := p
    subst e
    exact .inr ⟨a, _, rep_bl.mp z1, rep_bl.mp z2, k _ G _ H (rep_bl.mpr rfl) rl (Frame.refl G H) p⟩
  · exact p.elim
/-! products -/
theorem RepL.rep {H : Hp} {ds : List DV} {vs : List V} (r : RepL K H ds vs) : ∀ k : Nat, RepL K H (List.replicate k ds).flatten (List.replicate k vs).flatten
  | 0 => repL_nil.mpr rfl
  | k + 1 => by
    rw [List.replicate_succ, List.replicate_succ, List.flatten_cons, List.flatten_cons]
    exact r.append (RepL.rep r k)
def dMul : DR2 := fun x y G P => match x, y with
  | .int i, .int j => CMul i j ∧ P (.int (i * j)) G
  | .tup xs, .int k => -(2 ^ 62) ≤ k ∧ k ≤ 1000 ∧ xs.length ≤ 1000 ∧ P (.tup (List.replicate k.toNat xs).flatten) G
  | .str z, .int k => -(2 ^ 62) ≤ k ∧ k ≤ 1000 ∧ z.length ≤ 1000 ∧ P (.str (strRep z k)) G
  | .ref a, .int k => match G a with
    | some (.lst xs) => -(2 ^ 63) ≤ k ∧ k < 2 ^ 63 ∧ xs.length * k.toNat ≤ sizeLine ∧ ∀ p, G p = none → P (.ref p) (updD G p (.lst (List.replicate k.toNat xs).flatten))
    | _ => False
  | _, _ => False
abbrev rMulAll (K : PySem.W.Frag) : R2 := fun x y H Q => rI CMul (fun i j => .int (i * j)) x y H Q ∨ ((∃ z k, x = V.str z ∧ y = .int k ∧ -(2 ^ 62) ≤ k ∧ k ≤ 1000 ∧ z.length ≤ 1000 ∧ Q (.str (strRep z k)) H) ∨ (rRepA K x y H Q ∨ rRep x y H Q))
theorem op_mulAll : OpR X (binaryOp .Mult) (rMulAll X.K) := op_mul.or (op_repS.or (op_repA.or op_rep))
theorem dop_mul : DOp K (rMulAll K) dMul := fun x y G P v u H Q z1 z2 rl p k => by
  unfold dMul at p
  split at p
  · exact .inl ⟨_, _, rep_int.mp z1, rep_int.mp z2, p.1, k _ G _ H (rep_int.mpr rfl) rl (Frame.refl _ _) p.2⟩
  · rename_i xs j
    obtain ⟨h1, h2, h3, p⟩ := p
    obtain ⟨a, vs, e, s, r⟩ := rep_tup.mp z1
    subst e
    refine .inr (.inr (.inl ⟨a, j, vs, rfl, rep_int.mp z2, s, h1, h2, by rw [r.length]; exact h3, fun hh => ?_, fun _ l hl => ?_⟩))
    · refine k _ G _ H (rep_tup.mpr ⟨a, vs, rfl, s, ?_⟩) rl (Frame.refl _ _) p
      rcases hh with e | e
      · have e2 : xs = [] := by
          have := r.length
          rw [e] at this
          exact List.eq_nil_of_length_eq_zero this.symm
        rw [e2, e]
        have : ∀ n : Nat, (List.replicate n ([] : List DV)).flatten = [] := fun n => by induction n with
          | zero => rfl
          | succ n ih => rw [List.replicate_succ, List.flatten_cons, ih]; rfl
        rw [this]
        exact repL_nil.mpr rfl
      · rw [e]
        have : (List.replicate (1 : Int).toNat xs).flatten = xs := by simp
        rw [this]
        exact r
    · have ⟨r2, f2⟩ := rl.aside (u := .tup (List.replicate j.toNat vs).flatten) hl
      exact k _ G _ _ (rep_tup.mpr ⟨l, _, rfl, SqT.of upd_same, (r.mono (f2.keeps rl)).rep j.toNat⟩) r2 f2 p
  · exact .inr (.inl ⟨_, _, rep_str.mp z1, rep_int.mp z2, p.1, p.2.1, p.2.2.1, k _ G _ H (rep_str.mpr rfl) rl (Frame.refl _ _) p.2.2.2⟩)
  · rename_i a j
    split at p
    · rename_i xs g
      obtain ⟨h1, h2, h3, p⟩ := p
      obtain ⟨vs, hv, r⟩ := rl _ _ g
      refine .inr (.inr (.inr ⟨a, j, vs, rep_ref.mp z1, rep_int.mp z2, hv, h1, h2, by rw [r.length]; exact h3, fun l hl => ?_⟩))
      have ⟨r2, f2⟩ := rl.new (p := l) (u := .lst (List.replicate j.toNat vs).flatten) (o := .lst (List.replicate j.toNat xs).flatten) hl ⟨_, upd_same, (r.mono (keeps_new hl)).rep j.toNat⟩
      exact k _ _ _ _ (rep_ref.mpr rfl) r2 f2 (p l (rl.fresh hl))
    · exact p.elim
  · exact p.elim
end
end DL
end
section
set_option Elab.async false
set_option linter.all false
set_option maxRecDepth 100000
set_option autoImplicit false
namespace DL
open PySem PySem.Spec PyProof.Rows L2
section
variable {X : Cx} {K : PySem.W.Frag} {ξ : XP}
/-! ### a[i] -/
def dIx : DR2 := fun x y G P => match x with
  | .tup xs => ∃ i v, y = .int i ∧ atI xs i = some v ∧ P v G
  | .lk xs => ∃ i v, y = .int i ∧ atI xs i = some v ∧ P v G
  | .str z => ∃ i c, y = .int i ∧ z.length ≤ sizeLine ∧ atI z.cps.toList i = some c ∧ P (.str ⟨#[c]⟩) G
  | .ref a => match G a with
    | some (.lst xs) => ∃ i v, y = .int i ∧ atI xs i = some v ∧ P v G
    | some (.dK kvs) => ∃ k v, keyD y = some k ∧ valD kvs k = some v ∧ P v G
    | _ => False
  | _ => False
abbrev rIxDk : R2 := fun x y H Q => ∃ a v, x = .ref a ∧ DGet H a y (some v) ∧ Q v H
theorem ix_dk (hu : X.A.units + 1 < cLine) : IxR X rIxDk := fun value slice pins s σ H x y v u Q I rx ry ⟨a, w, ex, g, q⟩ hs => by
  subst ex
  obtain rfl : v = Value.ref a := rx
  exact tail_any (dict_typeIs I g) PySem.F.slot_dict_getitem.lookup (d_getItem hu I g ry fun w' s' I' r' => ⟨w, H, I', r', q⟩) hs
abbrev rIxAll (K : PySem.W.Frag) : R2 := fun x y H Q => rIx K x y H Q ∨ rIxDk x y H Q
theorem ix_all (hu : X.A.units + 1 < cLine) : IxR X (rIxAll X.K) := ix_seq.or (ix_dk hu)
theorem ixN_len {n m : Nat} (h : n = m) (i : Int) : ixN n i = ixN m i := by rw [h]
theorem atI_rep {H : Hp} {xs : List DV} {vs : List V} (r : RepL K H xs vs) {i : Int} {d : DV} (h : atI xs i = some d) : ∃ v, atI vs i = some v ∧ Rep K H d v := by
  unfold atI at h ⊢
  rw [r.length]
  obtain ⟨j, hj, e⟩ := Option.bind_eq_some_iff.mp h
  obtain ⟨v, hv, z⟩ := r.get' e
  exact ⟨v, Option.bind_eq_some_iff.mpr ⟨j, hj, hv⟩, z⟩
theorem dop_ix : DOp K (rIxAll K) dIx := fun x y G P v u H Q z1 z2 rl p k => by
  unfold dIx at p
  split at p
  · obtain ⟨i, d, e, h, p⟩ := p
    subst e
    obtain ⟨a, vs, e1, s1, r1⟩ := rep_tup.mp z1
    obtain ⟨w, hw, z⟩ := atI_rep r1 h
    exact .inl (.inr (.inl ⟨a, vs, i, w, e1, rep_int.mp z2, s1, hw, k _ G _ H z rl (Frame.refl G H) p⟩))
  · obtain ⟨i, d, e, h, p⟩ := p
    subst e
    obtain ⟨a, vs, e1, s1, r1⟩ := rep_lk.mp z1
    obtain ⟨w, hw, z⟩ := atI_rep r1 h
    refine .inl (.inl ⟨a, vs, i, w, e1, rep_int.mp z2, ?_, hw, k _ G _ H z rl (Frame.refl G H) p⟩)
    rcases s1 with ⟨o, s⟩ | s
    · exact .inl (.inr ⟨o, s⟩)
    · exact sqL_weak s
  · obtain ⟨i, c, e, hz, h, p⟩ := p
    subst e
    exact .inl (.inr (.inr ⟨_, i, c, rep_str.mp z1, rep_int.mp z2, hz, h, k _ G _ H (rep_str.mpr rfl) rl (Frame.refl G H) p⟩))
  · rename_i a
    split at p
    · rename_i xs g
      obtain ⟨i, d, e, h, p⟩ := p
      subst e
      obtain ⟨vs, hv, r1⟩ := rl _ _ g
      obtain ⟨w, hw, z⟩ := atI_rep r1 h
      exact .inl (.inl ⟨a, vs, i, w, rep_ref.mp z1, rep_int.mp z2, SqL.of hv, hw, k _ G _ H z rl (Frame.refl G H) p⟩)
    · rename_i kvs g
      obtain ⟨kk, d, hk, h, p⟩ := p
      obtain ⟨ps, hh, r2⟩ := rl _ _ g
      rcases valD_rep kk r2 with ⟨q1, q2⟩ | ⟨d', w, q1, q2, z⟩
      · rw [q1] at h; cases h
      · rw [q1] at h; cases h
        exact .inr ⟨a, w, rep_ref.mp z1, by rw [keyD_rep hk z2, ← q2]; exact DGet.k hh, k _ G _ H z rl (Frame.refl G H) p⟩
    · exact p.elim
  · exact p.elim
/-! ### a[lo:hi] -/
def cutD (xs : List DV) (lo hi : Option Int) : List DV := (xs.drop (HT.sIx xs.length 0 lo)).take (HT.sIx xs.length xs.length hi - HT.sIx xs.length 0 lo)
theorem cut_rep {H : Hp} {xs : List DV} {vs : List V} (r : RepL K H xs vs) (lo hi : Option Int) : RepL K H (cutD xs lo hi) (cutV vs lo hi) := by
  unfold cutD cutV
  rw [r.length]
  exact (r.drop _).take _
abbrev DRS := DV → Option Int → Option Int → DH → DK → Prop
def dSlR : DRS := fun x lo hi G P => match x with
  | .tup xs => P (.tup (cutD xs lo hi)) G
  | .lk xs => ∀ p, G p = none → P (.ref p) (updD G p (.lst (cutD xs lo hi)))
  | .str z => z.length ≤ sizeLine ∧ P (.str (cutS z lo hi)) G
  | .ref a => match G a with
    | some (.lst xs) => ∀ p, G p = none → P (.ref p) (updD G p (.lst (cutD xs lo hi)))
    | _ => False
  | _ => False
abbrev rSlAll (K : PySem.W.Frag) : V → Option Int → Option Int → Hp → VK → Prop := fun x lo hi H Q => rSlA K x lo hi H Q ∨ (rSlL K x lo hi H Q ∨ rSlS x lo hi H Q)
theorem sl_all : SlR X (rSlAll X.K) := sl_tupA.or (sl_list.or sl_str)
theorem cutD_whole (xs : List DV) (lo hi : Option Int) (h : HT.sIx xs.length 0 lo = 0 ∧ HT.sIx xs.length xs.length hi = xs.length) : cutD xs lo hi = xs := by
  unfold cutD
  rw [h.1, h.2]
  simp
theorem dsl_all (x : DV) (lo hi : Option Int) (G : DH) (P : DK) (v : V) (H : Hp) (Q : VK) (z1 : Rep K H x v) (rl : Rel K G H) (p : dSlR x lo hi G P)
    (k : ∀ d G' w H', Rep K H' d w → Rel K G' H' → Frame G H G' H' → P d G' → Q w H') : rSlAll K v lo hi H Q := by
  unfold dSlR at p
  split at p
  · rename_i xs
    obtain ⟨a, vs, e1, s1, r1⟩ := rep_tup.mp z1
    refine .inl ⟨a, vs, e1, s1, fun hw => ?_, fun hw q hq => ?_⟩
    · rw [r1.length] at hw
      rw [cutD_whole xs lo hi hw] at p
      exact k _ G _ H (rep_tup.mpr ⟨a, vs, rfl, s1, r1⟩) rl (Frame.refl G H) p
    · have ⟨r3, f3⟩ := rl.aside (u := .tup (cutV vs lo hi)) hq
      exact k _ G _ _ (rep_tup.mpr ⟨q, _, rfl, SqT.of upd_same, (cut_rep r1 lo hi).mono (f3.keeps rl)⟩) r3 f3 p
  · rename_i xs
    obtain ⟨a, vs, e1, s1, r1⟩ := rep_lk.mp z1
    refine .inr (.inl ⟨a, vs, e1, ?_, fun q hq => ?_⟩)
    · rcases s1 with ⟨o, s⟩ | s
      · exact .inl (.inr ⟨o, s⟩)
      · exact sqL_weak s
    · have ⟨r3, f3⟩ := rl.new (p := q) (u := .lst (cutV vs lo hi)) (o := .lst (cutD xs lo hi)) hq ⟨_, upd_same, (cut_rep r1 lo hi).mono (keeps_new hq)⟩
      exact k _ _ _ _ (rep_ref.mpr rfl) r3 f3 (p q (rl.fresh hq))
  · exact .inr (.inr ⟨_, rep_str.mp z1, p.1, k _ G _ H (rep_str.mpr rfl) rl (Frame.refl G H) p.2⟩)
  · rename_i a
    split at p
    · rename_i xs g
      obtain ⟨vs, hv, r1⟩ := rl _ _ g
      refine .inr (.inl ⟨a, vs, rep_ref.mp z1, SqL.of hv, fun q hq => ?_⟩)
      have ⟨r3, f3⟩ := rl.new (p := q) (u := .lst (cutV vs lo hi)) (o := .lst (cutD xs lo hi)) hq ⟨_, upd_same, (cut_rep r1 lo hi).mono (keeps_new hq)⟩
      exact k _ _ _ _ (rep_ref.mpr rfl) r3 f3 (p q (rl.fresh hq))
    · exact p.elim
  · exact p.elim
abbrev DTO := DSt → DH → (Option Int → DH → Prop) → Prop
def liftO (K : PySem.W.Frag) (ξ : XP) (t : DTO) : TO := fun σ H Q => ∃ (τ : DSt) (G : DH) (P : Option Int → DH → Prop), RelS K H τ σ ∧ RelX K ξ G H ∧ t τ G P ∧ ∀ d G' H', RelX K ξ G' H' → Frame G H G' H' → P d G' → Q d H'
def dPart (t : DTE) : DTO := fun τ G P => t τ G fun x G1 => ∃ i, x = .int i ∧ P (some i) G1
def dNoPart : DTO := fun _ G P => P none G
theorem po_weak {e : Option Expr} {t t' : TO} (h : PO X e t) (w : ∀ σ H Q, t' σ H Q → t σ H Q) : PO X e t' := ⟨fun pins s σ H Q I q => h.run pins s σ H Q I (w σ H Q q)⟩
theorem do_none : PO X none (liftO X.K ξ dNoPart) := po_weak po_none fun σ H Q ⟨τ, G, P, rs, rl, p, k⟩ => k none G H rl (Frame.refl G H) p
theorem do_some {e : Expr} {te : DTE} (h : DE X ξ e te) : PO X (some e) (liftO X.K ξ (dPart te)) :=
  po_weak (po_some h) fun σ H Q ⟨τ, G, P, rs, rl, p, k⟩ => ⟨τ, G, _, rs, rl, p, fun d G1 v H1 z r1 f1 ⟨i, e, p1⟩ => by subst e; exact ⟨i, rep_int.mp z, k (some i) G1 H1 r1 f1 p1⟩⟩
def dSl (te : DTE) (tl th : DTO) : DTE := fun τ G P => te τ G fun x G1 => tl τ G1 fun l G2 => th τ G2 fun u G3 => dSlR x l u G3 P
theorem de_slice {e : Expr} {lo hi : Option Expr} {te : DTE} {tl th : DTO} {pos p2 : Pos} (he : DE X ξ e te) (hl : PO X lo (liftO X.K ξ tl)) (hu : PO X hi (liftO X.K ξ th)) : DE X ξ (.Subscript e (.Slice lo hi none p2) pos) (dSl te tl th) :=
  pe_weak (pe_slice sl_all he hl hu) fun σ H Q ⟨τ, G, P, rs, rl, p, k⟩ => ⟨τ, G, _, rs, rl, p, fun x G1 v H1 z r1 f1 p1 => ⟨τ, G1, _, rs.mono (f1.keeps rl.1), r1, p1, fun l G2 H2 r2 f2 p2 => ⟨τ, G2, _, (rs.mono (f1.keeps rl.1)).mono (f2.keeps r1.1), r2, p2, fun u G3 H3 r3 f3 p3 =>
    dsl_all x l u G3 P v H3 Q ((z.mono (f2.keeps r1.1)).mono (f3.keeps r2.1)) r3.1 p3 fun d G4 w H4 z4 r4 f4 p4 => k d G4 w H4 z4 (r3.to r4 f4) (f1.trans (f2.trans (f3.trans f4))) p4⟩⟩⟩
/-! ### built-in functions and types, called -/
abbrev DRC := List DV → DH → DK → Prop
def DCal (K : PySem.W.Frag) (r : List V → Hp → VK → Prop) (rd : DRC) : Prop := ∀ xs G (P : DK) vs H (Q : VK), RepL K H xs vs → Rel K G H → rd xs G P →
  (∀ d G' w H', Rep K H' d w → Rel K G' H' → Frame G H G' H' → P d G' → Q w H') → r vs H Q
def dCB (rd : DRC) (t : DTA) : DTE := fun τ G P => t τ G fun xs G1 => rd xs G1 P
theorem lift_cb {r : List V → Hp → VK → Prop} {rd : DRC} (h : DCal K r rd) (t : DTA) : ∀ σ H Q, liftE K ξ (dCB rd t) σ H Q → liftA K ξ t σ H fun vs H1 => r vs H1 Q :=
  fun σ H Q ⟨τ, G, P, rs, rl, p, k⟩ => ⟨τ, G, _, rs, rl, p, fun xs G1 vs H1 z r1 f1 p1 => h xs G1 P vs H1 Q z r1.1 p1 fun d G2 w H2 z2 r2 f2 p2 => k d G2 w H2 z2 (r1.to r2 f2) (f1.trans f2) p2⟩
theorem DCal.or {r r' : List V → Hp → VK → Prop} {rd rd' : DRC} (h : DCal K r rd) (h' : DCal K r' rd') : DCal K (fun xs H Q => r xs H Q ∨ r' xs H Q) (fun xs G P => rd xs G P ∨ rd' xs G P) :=
  fun xs G P vs H Q z rl p k => p.imp (fun p => h xs G P vs H Q z rl p k) (fun p => h' xs G P vs H Q z rl p k)
theorem repL_one {H : Hp} {x : DV} {vs : List V} : RepL K H [x] vs ↔ ∃ v, vs = [v] ∧ Rep K H x v := by
  rw [repL_cons]
  constructor
  · rintro ⟨v, r, e, h, h2⟩; rw [repL_nil.mp h2] at e; exact ⟨v, e, h⟩
  · rintro ⟨v, e, h⟩; exact ⟨v, [], e, h, repL_nil.mpr rfl⟩
theorem repL_two {H : Hp} {x y : DV} {vs : List V} : RepL K H [x, y] vs ↔ ∃ v u, vs = [v, u] ∧ Rep K H x v ∧ Rep K H y u := by
  rw [repL_cons]
  constructor
  · rintro ⟨v, r, e, h, h2⟩
    obtain ⟨u, e2, h3⟩ := repL_one.mp h2
    rw [e2] at e; exact ⟨v, u, e, h, h3⟩
  · rintro ⟨v, u, e, h, h3⟩; exact ⟨v, [u], e, h, repL_one.mpr ⟨u, rfl, h3⟩⟩
/-- a list or a tuple, read -/
def seqD (G : DH) : DV → Option (List DV)
  | .tup xs => some xs
  | .lk xs => some xs
  | .ref a => match G a with
    | some (.lst xs) => some xs
    | _ => none
  | _ => none
theorem seqD_rep {G : DH} {H : Hp} {x : DV} {xs : List DV} {v : V} (rl : Rel K G H) (h : seqD G x = some xs) (z : Rep K H x v) : ∃ a vs, v = .ref a ∧ RepL K H xs vs ∧ ((SqT K H a vs ∧ x = .tup xs) ∨ (SqL K H a vs ∧ ∀ ys, x ≠ .tup ys)) := by
  unfold seqD at h
  split at h
  · cases h
    obtain ⟨a, vs, e1, s1, r1⟩ := rep_tup.mp z
    exact ⟨a, vs, e1, r1, .inl ⟨s1, rfl⟩⟩
  · cases h
    obtain ⟨a, vs, e1, s1, r1⟩ := rep_lk.mp z
    refine ⟨a, vs, e1, r1, .inr ⟨?_, fun ys e => by cases e⟩⟩
    rcases s1 with ⟨o, s⟩ | s
    · exact .inl (.inr ⟨o, s⟩)
    · exact sqL_weak s
  · rename_i a
    split at h
    · rename_i ys g
      cases h
      obtain ⟨vs, hv, r1⟩ := rl _ _ g
      exact ⟨a, vs, rep_ref.mp z, r1, .inr ⟨SqL.of hv, fun ys e => by cases e⟩⟩
    · cases h
  · cases h
/-- len -/
def dLen : DRC := fun xs G P => match xs with
  | [.str z] => z.length ≤ sizeLine ∧ P (.int z.length) G
  | [.ref a] => match G a with
    | some (.lst ys) => P (.int ys.length) G
    | some (.dK kvs) => P (.int kvs.length) G
    | _ => False
  | [.tup ys] => P (.int ys.length) G
  | [.lk ys] => P (.int ys.length) G
  | _ => False
abbrev rLenAll (K : PySem.W.Frag) : List V → Hp → VK → Prop := fun xs H Q => (∃ x n, xs = [x] ∧ LenV K x H n ∧ Q (.int n) H) ∨ ∃ a kvs, xs = [V.ref a] ∧ H a = some (.dK kvs) ∧ Q (.int kvs.length) H
theorem cr_lenAll : CallR X (.builtin "len") (rLenAll X.K) := call_len.or call_lenD
theorem dc_len : DCal K (rLenAll K) dLen := fun xs G P vs H Q zs rl p k => by
  unfold dLen at p
  split at p
  · obtain ⟨v, rfl, z⟩ := repL_one.mp zs
    rw [rep_str.mp z]
    exact .inl ⟨_, _, rfl, ⟨p.1, rfl⟩, k _ G _ H (rep_int.mpr rfl) rl (Frame.refl G H) p.2⟩
  · obtain ⟨v, rfl, z⟩ := repL_one.mp zs
    rw [rep_ref.mp z]
    split at p
    · rename_i ys g
      obtain ⟨us, hv, r1⟩ := rl _ _ g
      exact .inl ⟨_, _, rfl, .inl ⟨us, SqL.of hv, rfl⟩, k _ G _ H (rep_int.mpr (by rw [r1.length])) rl (Frame.refl G H) p⟩
    · rename_i kvs g
      obtain ⟨us, hv, r1⟩ := rl _ _ g
      have : us.length = kvs.length := (Paired.length r1).symm
      exact .inr ⟨_, us, rfl, hv, k _ G _ H (rep_int.mpr (by rw [this])) rl (Frame.refl G H) p⟩
    · exact p.elim
  · obtain ⟨v, rfl, z⟩ := repL_one.mp zs
    obtain ⟨a, us, rfl, s1, r1⟩ := rep_tup.mp z
    exact .inl ⟨_, _, rfl, .inr ⟨us, s1, rfl⟩, k _ G _ H (rep_int.mpr (by rw [r1.length])) rl (Frame.refl G H) p⟩
  · obtain ⟨v, rfl, z⟩ := repL_one.mp zs
    obtain ⟨a, us, rfl, r1, h⟩ := seqD_rep rl (x := .lk _) rfl z
    rcases h with ⟨_, e⟩ | ⟨s1, _⟩
    · cases e
    · exact .inl ⟨_, _, rfl, .inl ⟨us, s1, rfl⟩, k _ G _ H (rep_int.mpr (by rw [r1.length])) rl (Frame.refl G H) p⟩
  · exact p.elim
/-- int(x), bool(x) of an int, a truth; str(n) -/
def dInt : DRC := fun xs G P => match xs with
  | [.int i] => P (.int i) G
  | [.bl b] => P (.int (if b then 1 else 0)) G
  | _ => False
theorem dc_int : DCal K (fun xs H Q => (∃ i, xs = [V.int i] ∧ Q (V.int i) H) ∨ ∃ k, xs = [V.bl k] ∧ Q (V.int (if k then 1 else 0)) H) dInt := fun xs G P vs H Q zs rl p k => by
  unfold dInt at p
  split at p
  · obtain ⟨v, rfl, z⟩ := repL_one.mp zs
    rw [rep_int.mp z]
    exact .inl ⟨_, rfl, k _ G _ H (rep_int.mpr rfl) rl (Frame.refl G H) p⟩
  · obtain ⟨v, rfl, z⟩ := repL_one.mp zs
    rw [rep_bl.mp z]
    exact .inr ⟨_, rfl, k _ G _ H (rep_int.mpr rfl) rl (Frame.refl G H) p⟩
  · exact p.elim
def dStrI : DRC := fun xs G P => match xs with
  | [.int i] => i.natAbs.log2 < 1920 ∧ P (.str (toString i)) G
  | _ => False
theorem dc_str : DCal K (fun xs H Q => ∃ i : Int, xs = [V.int i] ∧ i.natAbs.log2 < 1920 ∧ Q (.str (toString i)) H) dStrI := fun xs G P vs H Q zs rl p k => by
  unfold dStrI at p
  split at p
  · obtain ⟨v, rfl, z⟩ := repL_one.mp zs
    rw [rep_int.mp z]
    exact ⟨_, rfl, p.1, k _ G _ H (rep_str.mpr rfl) rl (Frame.refl G H) p.2⟩
  · exact p.elim
/-- max(i, j), min(i, j) -/
def dMax2 : DRC := fun xs G P => match xs with
  | [.int i, .int j] => P (.int (if j > i then j else i)) G
  | _ => False
def dMin2 : DRC := fun xs G P => match xs with
  | [.int i, .int j] => P (.int (if j < i then j else i)) G
  | _ => False
theorem dc_max2 : DCal K (fun xs H Q => ∃ i j, xs = [V.int i, V.int j] ∧ Q (.int (if j > i then j else i)) H) dMax2 := fun xs G P vs H Q zs rl p k => by
  unfold dMax2 at p
  split at p
  · obtain ⟨v, u, rfl, z1, z2⟩ := repL_two.mp zs
    rw [rep_int.mp z1, rep_int.mp z2]
    exact ⟨_, _, rfl, k _ G _ H (rep_int.mpr rfl) rl (Frame.refl G H) p⟩
  · exact p.elim
theorem dc_min2 : DCal K (fun xs H Q => ∃ i j, xs = [V.int i, V.int j] ∧ Q (.int (if j < i then j else i)) H) dMin2 := fun xs G P vs H Q zs rl p k => by
  unfold dMin2 at p
  split at p
  · obtain ⟨v, u, rfl, z1, z2⟩ := repL_two.mp zs
    rw [rep_int.mp z1, rep_int.mp z2]
    exact ⟨_, _, rfl, k _ G _ H (rep_int.mpr rfl) rl (Frame.refl G H) p⟩
  · exact p.elim
/-- list(x), tuple(x) of a list, a tuple -/
def dListOf : DRC := fun xs G P => ∃ x ys, xs = [x] ∧ seqD G x = some ys ∧ ∀ p, G p = none → P (.ref p) (updD G p (.lst ys))
def dTupOf : DRC := fun xs G P => ∃ x ys, xs = [x] ∧ seqD G x = some ys ∧ P (.tup ys) G
theorem dc_listOf : DCal K (fun xs H Q => ∃ p ys, xs = [V.ref p] ∧ (SqL K H p ys ∨ SqT K H p ys) ∧ ∀ l, H l = none → Q (.ref l) (upd H l (.lst ys))) dListOf := fun xs G P vs H Q zs rl ⟨x, ys, e, h, p⟩ k => by
  subst e
  obtain ⟨v, rfl, z⟩ := repL_one.mp zs
  obtain ⟨a, us, rfl, r1, q⟩ := seqD_rep rl h z
  refine ⟨a, us, rfl, q.symm.imp (·.1) (·.1), fun l hl => ?_⟩
  have ⟨r3, f3⟩ := rl.new (p := l) (u := .lst us) (o := .lst ys) hl ⟨us, upd_same, r1.mono (keeps_new hl)⟩
  exact k _ _ _ _ (rep_ref.mpr rfl) r3 f3 (p l (rl.fresh hl))
theorem dc_tupOf : DCal K (fun xs H Q => ∃ p ys, xs = [V.ref p] ∧ ((SqL K H p ys ∧ ∀ l, H l = none → Q (.ref l) (upd H l (.tup ys))) ∨ (SqT K H p ys ∧ Q (.ref p) H))) dTupOf := fun xs G P vs H Q zs rl ⟨x, ys, e, h, p⟩ k => by
  subst e
  obtain ⟨v, rfl, z⟩ := repL_one.mp zs
  obtain ⟨a, us, rfl, r1, q⟩ := seqD_rep rl h z
  refine ⟨a, us, rfl, ?_⟩
  rcases q with ⟨s1, e⟩ | ⟨s1, _⟩
  · exact .inr ⟨s1, k _ G _ H (rep_tup.mpr ⟨a, us, rfl, s1, r1⟩) rl (Frame.refl G H) p⟩
  · refine .inl ⟨s1, fun l hl => ?_⟩
    have ⟨r3, f3⟩ := rl.aside (u := .tup us) hl
    exact k _ G _ _ (rep_tup.mpr ⟨l, us, rfl, SqT.of upd_same, r1.mono (keeps_new hl)⟩) r3 f3 p
/-- all, any of a list of truths -/
def dAll : DRC := fun xs G P => ∃ (a : Addr) (bs : List Bool), xs = [.ref a] ∧ G a = some (.lst (bs.map DV.bl)) ∧ P (.bl (bs.all id)) G
def dAny : DRC := fun xs G P => ∃ (a : Addr) (bs : List Bool), xs = [.ref a] ∧ G a = some (.lst (bs.map DV.bl)) ∧ P (.bl (bs.any id)) G
theorem dc_all : DCal K (rAll K) dAll := fun xs G P vs H Q zs rl ⟨a, bs, e, g, p⟩ k => by
  subst e
  obtain ⟨v, rfl, z⟩ := repL_one.mp zs
  rw [rep_ref.mp z]
  obtain ⟨us, hv, r1⟩ := rl _ _ g
  rw [RepL.bls.mp r1] at hv
  exact ⟨a, bs, rfl, SqL.of hv, k _ G _ H (rep_bl.mpr rfl) rl (Frame.refl G H) p⟩
theorem dc_any : DCal K (rAny K) dAny := fun xs G P vs H Q zs rl ⟨a, bs, e, g, p⟩ k => by
  subst e
  obtain ⟨v, rfl, z⟩ := repL_one.mp zs
  rw [rep_ref.mp z]
  obtain ⟨us, hv, r1⟩ := rl _ _ g
  rw [RepL.bls.mp r1] at hv
  exact ⟨a, bs, rfl, SqL.of hv, k _ G _ H (rep_bl.mpr rfl) rl (Frame.refl G H) p⟩
/-- sorted of texts (below 64) -/
def dSorted : DRC := fun xs G P => ∃ (a : Addr) (ss : List Str), xs = [.ref a] ∧ G a = some (.lst (ss.map DV.str)) ∧ ss.length < 64 ∧ ∀ (ys : List Str) (p : Addr), ys.Perm ss → sortedS ys = true → G p = none → P (.ref p) (updD G p (.lst (ys.map DV.str)))
theorem dc_sorted : DCal K (rSortedS K) dSorted := fun xs G P vs H Q zs rl ⟨a, ss, e, g, hl, p⟩ k => by
  subst e
  obtain ⟨v, rfl, z⟩ := repL_one.mp zs
  rw [rep_ref.mp z]
  obtain ⟨us, hv, r1⟩ := rl _ _ g
  rw [RepL.strs.mp r1] at hv
  refine ⟨a, ss, rfl, SqL.of hv, hl, fun ys q hp hs hq => ?_⟩
  have ⟨r3, f3⟩ := rl.new (p := q) (u := .lst (ys.map V.str)) (o := .lst (ys.map DV.str)) hq ⟨_, upd_same, RepL.strs.mpr rfl⟩
  exact k _ _ _ _ (rep_ref.mpr rfl) r3 f3 (p ys q hp hs (rl.fresh hq))
/-! ### methods of built-in types -/
abbrev DRM := DV → List DV → DH → DK → Prop
def DMet (K : PySem.W.Frag) (r : V → List V → Hp → VK → Prop) (rd : DRM) : Prop := ∀ x xs G (P : DK) v vs H (Q : VK), Rep K H x v → RepL K H xs vs → Rel K G H → rd x xs G P →
  (∀ d G' w H', Rep K H' d w → Rel K G' H' → Frame G H G' H' → P d G' → Q w H') → r v vs H Q
/-- the type by which a method is found -/
def tyD (G : DH) : DV → Option String
  | .str _ => some "str"
  | .int _ => some "int"
  | .ref a => match G a with
    | some (.lst _) => some "list"
    | some (.dK _) => some "dict"
    | _ => none
  | _ => none
theorem tyD_rep {G : DH} {H : Hp} {T : String} {x : DV} {v : V} (rl : Rel K G H) (h : tyD G x = some T) (z : Rep K H x v) : tyV K T v H := by
  unfold tyD at h
  split at h
  · cases h; rw [rep_str.mp z]; rfl
  · cases h; rw [rep_int.mp z]; rfl
  · rw [rep_ref.mp z]
    split at h
    · rename_i xs g
      cases h
      obtain ⟨us, hv, _⟩ := rl _ _ g
      exact .inl ⟨rfl, us, SqL.of hv⟩
    · rename_i xs g
      cases h
      obtain ⟨us, hv, _⟩ := rl _ _ g
      exact .inr (.inr (.inl ⟨rfl, .inl ⟨us, hv⟩⟩))
    · cases h
  · cases h
def dBM0 (T : String) (rd : DRM) (to : DTE) : DTE := fun τ G P => to τ G fun x G1 => tyD G1 x = some T ∧ rd x [] G1 P
def dBM (T : String) (rd : DRM) (to : DTE) (t : DTA) : DTE := fun τ G P => to τ G fun x G1 => tyD G1 x = some T ∧ t τ G1 fun xs G2 => rd x xs G2 P
theorem lift_bm0 {T : String} {r : V → List V → Hp → VK → Prop} {rd : DRM} (h : DMet K r rd) (to : DTE) : ∀ σ H Q, liftE K ξ (dBM0 T rd to) σ H Q → tBM0 K T r (liftE K ξ to) σ H Q :=
  fun σ H Q ⟨τ, G, P, rs, rl, p, k⟩ => ⟨τ, G, _, rs, rl, p, fun x G1 v H1 z r1 f1 ⟨ty, p1⟩ => ⟨tyD_rep r1.1 ty z, h x [] G1 P v [] H1 Q z (repL_nil.mpr rfl) r1.1 p1 fun d G2 w H2 z2 r2 f2 p2 => k d G2 w H2 z2 (r1.to r2 f2) (f1.trans f2) p2⟩⟩
theorem lift_bm {T : String} {r : V → List V → Hp → VK → Prop} {rd : DRM} (h : DMet K r rd) (to : DTE) (t : DTA) : ∀ σ H Q, liftE K ξ (dBM T rd to t) σ H Q → tBM K T r (liftE K ξ to) (liftA K ξ t) σ H Q :=
  fun σ H Q ⟨τ, G, P, rs, rl, p, k⟩ => ⟨τ, G, _, rs, rl, p, fun x G1 v H1 z r1 f1 ⟨ty, p1⟩ => ⟨tyD_rep r1.1 ty z, ⟨τ, G1, _, rs.mono (f1.keeps rl.1), r1, p1, fun xs G2 vs H2 z2 r2 f2 p2 =>
    h x xs G2 P v vs H2 Q (z.mono (f2.keeps r1.1)) z2 r2.1 p2 fun d G3 w H3 z3 r3 f3 p3 => k d G3 w H3 z3 (r2.to r3 f3) (f1.trans (f2.trans f3)) p3⟩⟩⟩
def dAppend : DRM := fun x xs G P => ∃ a ys y, x = .ref a ∧ xs = [y] ∧ G a = some (.lst ys) ∧ ys.length < sizeLine ∧ P .non (updD G a (.lst (ys ++ [y])))
theorem dm_append : DMet K rAppend dAppend := fun x xs G P v vs H Q z zs rl ⟨a, ys, y, e1, e2, g, hl, p⟩ k => by
  subst e1 e2
  obtain ⟨u, rfl, zy⟩ := repL_one.mp zs
  obtain ⟨us, hv, r1⟩ := rl _ _ g
  refine ⟨a, us, u, rep_ref.mp z, rfl, hv, by rw [r1.length]; exact hl, ?_⟩
  have kk := rl.keepsW (u := .lst (us ++ [u])) g
  have ⟨r3, f3⟩ := rl.write (u := .lst (us ++ [u])) (o' := .lst (ys ++ [y])) g ⟨_, upd_same, (r1.append (repL_one.mpr ⟨u, rfl, zy⟩)).mono kk⟩
  exact k _ _ _ _ (rep_non.mpr rfl) r3 f3 p
def dExtend : DRM := fun x xs G P => ∃ a b ys zs, x = .ref a ∧ xs = [.ref b] ∧ G a = some (.lst ys) ∧ G b = some (.lst zs) ∧ ys.length + zs.length ≤ sizeLine ∧ P .non (updD G a (.lst (ys ++ zs)))
theorem dm_extend : DMet K rExtend dExtend := fun x xs G P v vs H Q z zs rl ⟨a, b, ys, ws, e1, e2, g, gb, hl, p⟩ k => by
  subst e1 e2
  obtain ⟨u, rfl, zy⟩ := repL_one.mp zs
  obtain ⟨us, hv, r1⟩ := rl _ _ g
  obtain ⟨us2, hv2, r2⟩ := rl _ _ gb
  refine ⟨a, b, us, us2, rep_ref.mp z, by rw [rep_ref.mp zy], hv, hv2, by rw [r1.length, r2.length]; exact hl, ?_⟩
  have kk := rl.keepsW (u := .lst (us ++ us2)) g
  have ⟨r3, f3⟩ := rl.write (u := .lst (us ++ us2)) (o' := .lst (ys ++ ws)) g ⟨_, upd_same, (r1.append r2).mono kk⟩
  exact k _ _ _ _ (rep_non.mpr rfl) r3 f3 p
theorem RepL.dropLast {H : Hp} {ds : List DV} {vs : List V} (h : RepL K H ds vs) : RepL K H ds.dropLast vs.dropLast := by
  rw [List.dropLast_eq_take, List.dropLast_eq_take, h.length]
  exact h.take _
def dPop : DRM := fun x xs G P => ∃ a ys y, x = .ref a ∧ xs = [] ∧ G a = some (.lst ys) ∧ ys[ys.length - 1]? = some y ∧ P y (updD G a (.lst ys.dropLast))
theorem dm_pop : DMet K rPop dPop := fun x xs G P v vs H Q z zs rl ⟨a, ys, y, e1, e2, g, hl, p⟩ k => by
  subst e1 e2
  obtain ⟨us, hv, r1⟩ := rl _ _ g
  obtain ⟨u, hu, zu⟩ := r1.get' hl
  refine ⟨a, us, u, rep_ref.mp z, repL_nil.mp zs, hv, by rw [r1.length]; exact hu, ?_⟩
  have kk := rl.keepsW (u := .lst us.dropLast) g
  have ⟨r3, f3⟩ := rl.write (u := .lst us.dropLast) (o' := .lst ys.dropLast) g ⟨_, upd_same, r1.dropLast.mono kk⟩
  exact k _ _ _ _ (zu.mono kk) r3 f3 p
/-- d.get(k), d.get(k, x) -/
def dGet : DRM := fun x xs G P => ∃ a kvs, x = .ref a ∧ G a = some (.dK kvs) ∧ ((∃ y k, xs = [y] ∧ keyD y = some k ∧ P ((valD kvs k).getD .non) G) ∨ ∃ y k z, xs = [y, z] ∧ keyD y = some k ∧ P ((valD kvs k).getD z) G)
abbrev rGet : V → List V → Hp → VK → Prop := fun x xs H Q => ∃ a, x = .ref a ∧ ((∃ y o, xs = [y] ∧ DGet H a y o ∧ Q (o.getD .non) H) ∨ ∃ y z o, xs = [y, z] ∧ DGet H a y o ∧ Q (o.getD z) H)
theorem mt_get (hu : X.A.units + 1 < cLine) : MtR X "dict.get" rGet := fun pins s σ H x xs v us Q I rx rs ⟨a, ex, h⟩ => by
  subst ex
  obtain rfl : v = Value.ref a := rx
  rcases h with ⟨y, o, e, g, q⟩ | ⟨y, z, o, e, g, q⟩
  · subst e
    obtain ⟨u, rfl, ru⟩ := vals1 rs
    exact d_get1 hu I g ru fun w' s' I' r' => ⟨_, H, I', r', q⟩
  · subst e
    obtain ⟨u, w, rfl, ru, rw'⟩ := vals2 rs
    exact d_get2 hu I g ru rw' fun w' s' I' r' => ⟨_, H, I', r', q⟩
theorem dm_get : DMet K rGet dGet := fun x xs G P v vs H Q z zs rl ⟨a, kvs, e, g, h⟩ k => by
  subst e
  obtain ⟨ps, hv, r1⟩ := rl _ _ g
  refine ⟨a, rep_ref.mp z, ?_⟩
  rcases h with ⟨y, kk, e, hk, p⟩ | ⟨y, kk, w, e, hk, p⟩
  · subst e
    obtain ⟨u, rfl, zu⟩ := repL_one.mp zs
    refine .inl ⟨u, valV ps kk, rfl, by rw [keyD_rep hk zu]; exact DGet.k hv, ?_⟩
    rcases valD_rep kk r1 with ⟨q1, q2⟩ | ⟨d', w, q1, q2, zz⟩
    · rw [q1] at p; rw [q2]; exact k _ G _ H (rep_non.mpr rfl) rl (Frame.refl G H) p
    · rw [q1] at p; rw [q2]; exact k _ G _ H zz rl (Frame.refl G H) p
  · subst e
    obtain ⟨u, w', rfl, zu, zw⟩ := repL_two.mp zs
    refine .inr ⟨u, w', valV ps kk, rfl, by rw [keyD_rep hk zu]; exact DGet.k hv, ?_⟩
    rcases valD_rep kk r1 with ⟨q1, q2⟩ | ⟨d', w2, q1, q2, zz⟩
    · rw [q1] at p; rw [q2]; exact k _ G _ H zw rl (Frame.refl G H) p
    · rw [q1] at p; rw [q2]; exact k _ G _ H zz rl (Frame.refl G H) p
end
end DL
end
section
set_option Elab.async false
set_option linter.all false
set_option maxRecDepth 100000
set_option autoImplicit false
namespace DL
open PySem PySem.Spec PyProof.Rows L2
structure DEnds where
  nx : DSt → DH → Prop
  rt : DK
  bk : DSt → DH → Prop := fun _ _ => False
  ct : DSt → DH → Prop := fun _ _ => False
abbrev DTS := DEnds → DSt → DH → Prop
structure EndsR (K : PySem.W.Frag) (ξ : XP) (G : DH) (H : Hp) (E : DEnds) (D : Ends) : Prop where
  nx : ∀ τ' G' σ' H', RelS K H' τ' σ' → RelX K ξ G' H' → Frame G H G' H' → E.nx τ' G' → D.nx σ' H'
  rt : ∀ d G' v H', Rep K H' d v → RelX K ξ G' H' → Frame G H G' H' → E.rt d G' → D.rt v H'
  bk : ∀ τ' G' σ' H', RelS K H' τ' σ' → RelX K ξ G' H' → Frame G H G' H' → E.bk τ' G' → D.bk σ' H'
  ct : ∀ τ' G' σ' H', RelS K H' τ' σ' → RelX K ξ G' H' → Frame G H G' H' → E.ct τ' G' → D.ct σ' H'
theorem EndsR.mono {K : PySem.W.Frag} {ξ : XP} {G G1 : DH} {H H1 : Hp} {E : DEnds} {D : Ends} (e : EndsR K ξ G H E D) (f : Frame G H G1 H1) : EndsR K ξ G1 H1 E D :=
  ⟨fun τ' G' σ' H' a b c d => e.nx τ' G' σ' H' a b (f.trans c) d, fun d G' v H' a b c q => e.rt d G' v H' a b (f.trans c) q, fun τ' G' σ' H' a b c d => e.bk τ' G' σ' H' a b (f.trans c) d, fun τ' G' σ' H' a b c d => e.ct τ' G' σ' H' a b (f.trans c) d⟩
def liftS (K : PySem.W.Frag) (ξ : XP) (t : DTS) : TS := fun D σ H => ∃ (τ : DSt) (G : DH) (E : DEnds), RelS K H τ σ ∧ RelX K ξ G H ∧ t E τ G ∧ EndsR K ξ G H E D
abbrev DS (X : Cx) (ξ : XP) (st : Stmt) (t : DTS) : Prop := PS X st (liftS X.K ξ t)
abbrev DSs (X : Cx) (ξ : XP) (st : List Stmt) (t : DTS) : Prop := PSs X st (liftS X.K ξ t)
section
variable {X : Cx} {ξ : XP} {st : Stmt} {rest a b body : List Stmt} {t u tb : DTS} {e c : Expr} {te ta : DTE} {tc : DTT} {pos : Pos}
def dNext : DTS := fun E τ G => E.nx τ G
def dSeq (t u : DTS) : DTS := fun E τ G => t { E with nx := u E } τ G
theorem dss_nil : DSs X ξ [] dNext := pss_weak pss_nil fun D σ H ⟨τ, G, E, rs, rl, p, er⟩ => er.nx τ G σ H rs rl (Frame.refl G H) p
theorem dss_cons (h1 : DS X ξ st t) (h2 : DSs X ξ rest u) : DSs X ξ (st :: rest) (dSeq t u) :=
  pss_weak (pss_cons h1 h2) fun D σ H ⟨τ, G, E, rs, rl, p, er⟩ => ⟨τ, G, { E with nx := u E }, rs, rl, p, ⟨fun τ' G' σ' H' rs' rl' f q => ⟨τ', G', E, rs', rl', q, er.mono f⟩, er.rt, er.bk, er.ct⟩⟩
theorem ds_pass : DS X ξ (.Pass pos) dNext := ps_weak ps_pass fun D σ H ⟨τ, G, E, rs, rl, p, er⟩ => er.nx τ G σ H rs rl (Frame.refl G H) p
theorem ds_doc {x : Str} {j : Nat} {pos' : Pos} : DS X ξ (.Expr (.Constant (.str x) j pos) pos') dNext := ps_weak ps_doc fun D σ H ⟨τ, G, E, rs, rl, p, er⟩ => er.nx τ G σ H rs rl (Frame.refl G H) p
def dBreak : DTS := fun E τ G => E.bk τ G
def dCont : DTS := fun E τ G => E.ct τ G
theorem ds_break : DS X ξ (.Break pos) dBreak := ps_weak ps_break fun D σ H ⟨τ, G, E, rs, rl, p, er⟩ => er.bk τ G σ H rs rl (Frame.refl G H) p
theorem ds_continue : DS X ξ (.Continue pos) dCont := ps_weak ps_continue fun D σ H ⟨τ, G, E, rs, rl, p, er⟩ => er.ct τ G σ H rs rl (Frame.refl G H) p
def dNever : DTS := fun _ _ _ => False
theorem ds_never : DS X ξ st dNever := ps_weak ps_never fun D σ H ⟨τ, G, E, rs, rl, p, er⟩ => p
def dDrop (te : DTE) : DTS := fun E τ G => te τ G fun _ G1 => E.nx τ G1
theorem ds_expr (he : DE X ξ e te) (hs : swapsWith e none pos.line X.env = pure false) : DS X ξ (.Expr e pos) (dDrop te) :=
  ps_weak (ps_expr he hs) fun D σ H ⟨τ, G, E, rs, rl, p, er⟩ => ⟨τ, G, _, rs, rl, p, fun d G1 v H1 z r1 f1 p1 => er.nx τ G1 σ H1 (rs.mono (f1.keeps rl.1)) r1 f1 p1⟩
def dRet (te : DTE) : DTS := fun E τ G => te τ G E.rt
theorem ds_ret (he : DE X ξ e te) : DS X ξ (.Return (some e) pos) (dRet te) := ps_weak (ps_ret he) fun D σ H ⟨τ, G, E, rs, rl, p, er⟩ => ⟨τ, G, _, rs, rl, p, er.rt⟩
def dRetN : DTS := fun E _ G => E.rt .non G
theorem ds_retN : DS X ξ (.Return none pos) dRetN := ps_weak ps_retN fun D σ H ⟨τ, G, E, rs, rl, p, er⟩ => er.rt .non G _ H (rep_non.mpr rfl) rl (Frame.refl G H) p
def dIf (c : DTT) (t u : DTS) : DTS := fun E τ G => c τ G fun b G1 => if b = true then t E τ G1 else u E τ G1
theorem ds_if (hc : DT X ξ c tc) (ha : DSs X ξ a t) (hb : DSs X ξ b u) : DS X ξ (.If c a b pos) (dIf tc t u) :=
  ps_weak (ps_if hc ha hb) fun D σ H ⟨τ, G, E, rs, rl, p, er⟩ => lift_ifT (α := Unit) tc rs rl p
    (fun G1 H1 r1 f1 p1 => ⟨τ, G1, E, rs.mono (f1.keeps rl.1), r1, p1, er.mono f1⟩) fun G1 H1 r1 f1 p1 => ⟨τ, G1, E, rs.mono (f1.keeps rl.1), r1, p1, er.mono f1⟩
/-! ### targets that are names -/
inductive Tg where
  | n (i : Nat)
  | t (ts : List Tg)
mutual
def asgD : Tg → DV → DSt → Option DSt
  | .n i, d, τ => some (τ.set i (some d))
  | .t ts, .tup xs, τ => asgDs ts xs τ
  | .t _, _, _ => none
def asgDs : List Tg → List DV → DSt → Option DSt
  | [], [], τ => some τ
  | t :: ts, x :: xs, τ => match asgD t x τ with
    | some τ1 => asgDs ts xs τ1
    | none => none
  | _, _, _ => none
end
mutual
def gTg (K : PySem.W.Frag) : Tg → TG
  | .n i => gName i
  | .t ts => gTup K ts.length (gTgs K ts)
def gTgs (K : PySem.W.Frag) : List Tg → TGs
  | [] => gNil
  | t :: ts => gCons (gTg K t) (gTgs K ts)
end
mutual
def Tg.vars : Tg → List Nat
  | .n i => [i]
  | .t ts => Tg.varss ts
def Tg.varss : List Tg → List Nat
  | [] => []
  | t :: ts => t.vars ++ Tg.varss ts
end
/-- slots that only differ at vs -/
structure Diff (vs : List Nat) (σ σ' : L2.St) : Prop where
  len : σ'.length = σ.length
  out : ∀ i, i ∉ vs → σ'[i]? = σ[i]?
mutual
theorem asg_run {K : PySem.W.Frag} {H : Hp} : ∀ (tg : Tg) (d : DV) (v : V) (τ τ2 : DSt) (σ : L2.St) (Q : L2.St → Hp → Prop), asgD tg d τ = some τ2 → Rep K H d v → RelS K H τ σ → (∀ σ2, RelS K H τ2 σ2 → Diff tg.vars σ σ2 → Q σ2 H) → gTg K tg v σ H Q
  | .n i, d, v, τ, τ2, σ, Q, h, z, rs, q => by
    unfold asgD at h; cases h
    unfold gTg gName
    refine q _ (rs.set i z) ⟨by simp, fun j hj => ?_⟩
    unfold Tg.vars at hj
    rw [List.getElem?_set_ne (fun e => hj (by rw [e]; exact List.mem_singleton_self _))]
  | .t ts, d, v, τ, τ2, σ, Q, h, z, rs, q => by
    cases d with
    | tup xs =>
      unfold asgD at h
      obtain ⟨a, vs, e, s, r⟩ := rep_tup.mp z
      unfold gTg gTup
      have hl : xs.length = ts.length := asgDs_len ts xs τ τ2 h
      refine ⟨a, vs, e, s, by rw [r.length, hl], ?_⟩
      have e2 : (Tg.t ts).vars = Tg.varss ts := by rw [Tg.vars]
      exact asgs_run ts xs vs τ τ2 σ Q h r rs (by rw [e2] at q; exact q)
    | _ => unfold asgD at h; cases h
theorem asgs_run {K : PySem.W.Frag} {H : Hp} : ∀ (ts : List Tg) (ds : List DV) (vs : List V) (τ τ2 : DSt) (σ : L2.St) (Q : L2.St → Hp → Prop), asgDs ts ds τ = some τ2 → RepL K H ds vs → RelS K H τ σ → (∀ σ2, RelS K H τ2 σ2 → Diff (Tg.varss ts) σ σ2 → Q σ2 H) → gTgs K ts vs σ H Q
  | [], ds, vs, τ, τ2, σ, Q, h, z, rs, q => by
    cases ds with
    | nil =>
      unfold asgDs at h; cases h
      unfold gTgs gNil
      exact ⟨repL_nil.mp z, q σ rs ⟨rfl, fun _ _ => rfl⟩⟩
    | cons x xs => unfold asgDs at h; cases h
  | t :: ts, ds, vs, τ, τ2, σ, Q, h, z, rs, q => by
    cases ds with
    | nil => unfold asgDs at h; cases h
    | cons x xs =>
      unfold asgDs at h
      obtain ⟨v, r, e, z1, z2⟩ := repL_cons.mp z
      split at h
      · rename_i τ1 h1
        unfold gTgs gCons
        refine ⟨v, r, e, asg_run t x v τ τ1 σ _ h1 z1 rs fun σ1 rs1 d1 => asgs_run ts xs r τ1 τ2 σ1 Q h z2 rs1 fun σ2 rs2 d2 => q σ2 rs2 ⟨d2.len.trans d1.len, fun i hi => ?_⟩⟩
        rw [Tg.varss, List.mem_append, not_or] at hi
        exact (d2.out i hi.2).trans (d1.out i hi.1)
      · cases h
theorem asgDs_len : ∀ (ts : List Tg) (ds : List DV) (τ τ2 : DSt), asgDs ts ds τ = some τ2 → ds.length = ts.length
  | [], ds, τ, τ2, h => by
    cases ds with
    | nil => rfl
    | cons x xs => unfold asgDs at h; cases h
  | t :: ts, ds, τ, τ2, h => by
    cases ds with
    | nil => unfold asgDs at h; cases h
    | cons x xs =>
      unfold asgDs at h
      split at h
      · rename_i τ1 h1
        rw [List.length_cons, List.length_cons, asgDs_len ts xs τ1 τ2 h]
      · cases h
end
/-- names = e -/
def dAsg (tg : Tg) (te : DTE) : DTS := fun E τ G => te τ G fun d G1 => ∃ τ2, asgD tg d τ = some τ2 ∧ E.nx τ2 G1
theorem lift_asg {K : PySem.W.Frag} (tg : Tg) (te : DTE) : ∀ D σ H, liftS K ξ (dAsg tg te) D σ H → tAsg (liftE K ξ te) (gTg K tg) D σ H :=
  fun D σ H ⟨τ, G, E, rs, rl, p, er⟩ => ⟨τ, G, _, rs, rl, p, fun d G1 v H1 z r1 f1 ⟨τ2, h, p1⟩ => asg_run tg d v τ τ2 σ _ h z (rs.mono (f1.keeps rl.1)) fun σ2 rs2 _ => er.nx τ2 G1 σ2 H1 rs2 r1 f1 p1⟩
/-- two names = two values, nothing made -/
def dPar (i j : Nat) (ta : DTA) : DTS := fun E τ G => ta τ G fun ds G1 => ∃ x y, ds = [x, y] ∧ E.nx ((τ.set i (some x)).set j (some y)) G1
theorem lift_par {K : PySem.W.Frag} (i j : Nat) (ta : DTA) : ∀ D σ H, liftS K ξ (dPar i j ta) D σ H → tPar i j (liftA K ξ ta) D σ H :=
  fun D σ H ⟨τ, G, E, rs, rl, p, er⟩ => ⟨τ, G, _, rs, rl, p, fun ds G1 vs H1 z r1 f1 ⟨x, y, e, p1⟩ => by
    subst e
    obtain ⟨v, u, rfl, z1, z2⟩ := repL_two.mp z
    exact ⟨v, u, rfl, er.nx _ G1 _ H1 (((rs.mono (f1.keeps rl.1)).set i z1).set j z2) r1 f1 p1⟩⟩
/-! ### o[i] = e, o.f = e, name op= e -/
def ixNat (n : Nat) (i : Int) : Option Nat := ixN n i
def putD {κ : Type} [DecidableEq κ] (kvs : List (κ × DV)) (k : κ) (v : DV) : List (κ × DV) := if (kvs.any fun kv => decide (kv.1 = k)) = true then kvs.map fun kv => if kv.1 = k then (kv.1, v) else kv else kvs ++ [(k, v)]
def dSet : DV → DV → DV → DH → (DH → Prop) → Prop := fun o i v G P => match o with
  | .ref a => match G a with
    | some (.lst xs) => ∃ k j, i = .int k ∧ ixN xs.length k = some j ∧ P (updD G a (.lst (xs.set j v)))
    | some (.dK kvs) => ∃ k, keyD i = some k ∧ kvs.length < sizeLine ∧ P (updD G a (.dK (putD kvs k v)))
    | _ => False
  | _ => False
end
end DL
end
section
set_option Elab.async false
set_option linter.all false
set_option maxRecDepth 100000
set_option autoImplicit false
namespace DL
open PySem PySem.Spec PyProof.Rows L2
section
variable {X : Cx} {ξ : XP} {K : PySem.W.Frag}
theorem any_rep {κ : Type} [DecidableEq κ] {H : Hp} (k : κ) : ∀ {kvs : List (κ × DV)} {ps : List (κ × V)}, RepP K H kvs ps → (kvs.any fun kv => decide (kv.1 = k)) = ps.any fun kv => decide (kv.1 = k)
  | _, _, .nil => rfl
  | p :: ks, q :: ps, .cons ⟨e, r⟩ t => by rw [List.any_cons, List.any_cons, e, any_rep k t]
theorem map_rep {κ : Type} [DecidableEq κ] {H : Hp} (k : κ) {d : DV} {v : V} (z : Rep K H d v) : ∀ {kvs : List (κ × DV)} {ps : List (κ × V)}, RepP K H kvs ps → RepP K H (kvs.map fun kv => if kv.1 = k then (kv.1, d) else kv) (ps.map fun kv => if kv.1 = k then (kv.1, v) else kv)
  | _, _, .nil => .nil
  | p :: ks, q :: ps, .cons ⟨e, r⟩ t => by
    refine .cons ?_ (map_rep k z t)
    dsimp only
    by_cases h : p.1 = k
    · rw [if_pos h, if_pos (e ▸ h)]; exact ⟨e, z⟩
    · rw [if_neg h, if_neg (e ▸ h)]; exact ⟨e, r⟩
theorem app_rep {κ : Type} {H : Hp} {as bs : List (κ × DV)} {cs ds : List (κ × V)} (h : RepP K H as cs) (g : RepP K H bs ds) : RepP K H (as ++ bs) (cs ++ ds) := by
  induction h with
  | nil => exact g
  | cons r t ih => exact .cons r ih
theorem putD_rep {κ : Type} [DecidableEq κ] {H : Hp} (k : κ) {d : DV} {v : V} (z : Rep K H d v) {kvs : List (κ × DV)} {ps : List (κ × V)} (r : RepP K H kvs ps) : RepP K H (putD kvs k d) (putK ps k v) := by
  unfold putD putK
  rw [any_rep k r]
  split
  · exact map_rep k z r
  · exact app_rep r (.cons ⟨rfl, z⟩ .nil)
abbrev rSetDk : TSet := fun o i v H Q => ∃ a H', o = .ref a ∧ DPut H a i v H' ∧ Q H'
theorem set_dk (hu : X.A.units + 1 < cLine) : PSet X rSetDk := fun pins s σ H o i v ov iv u Q I ro ri rv ⟨a, H', e, g, q⟩ => by
  subst e
  obtain rfl : ov = Value.ref a := ro
  exact d_setItem hu I g ri rv fun s' I' => ⟨H', I', q⟩
abbrev rSetAll : TSet := fun o i v H Q => rSetL o i v H Q ∨ rSetDk o i v H Q
theorem set_all (hu : X.A.units + 1 < cLine) : PSet X rSetAll := fun pins s σ H o i v ov iv u Q I ro ri rv h => by
  rcases h with h | h
  · exact set_list pins s σ H o i v ov iv u Q I ro ri rv h
  · exact set_dk hu pins s σ H o i v ov iv u Q I ro ri rv h
theorem dset_run {o i v : DV} {G : DH} {P : DH → Prop} {ov iv vv : V} {H : Hp} {Q : Hp → Prop} (zo : Rep K H o ov) (zi : Rep K H i iv) (zv : Rep K H v vv) (rl : Rel K G H) (p : dSet o i v G P)
    (k : ∀ G' H', Rel K G' H' → Frame G H G' H' → P G' → Q H') : rSetAll ov iv vv H Q := by
  unfold dSet at p
  split at p
  · rename_i a
    split at p
    · rename_i xs g
      obtain ⟨n, j, e, hj, p⟩ := p
      subst e
      obtain ⟨us, hv, r1⟩ := rl _ _ g
      have kk := rl.keepsW (u := .lst (us.set j vv)) g
      have ⟨r3, f3⟩ := rl.write (u := .lst (us.set j vv)) (o' := .lst (xs.set j v)) g ⟨_, upd_same, (r1.set j zv).mono kk⟩
      exact .inl ⟨a, us, n, j, rep_ref.mp zo, rep_int.mp zi, hv, by rw [r1.length]; exact hj, k _ _ r3 f3 p⟩
    · rename_i kvs g
      obtain ⟨kk, hk, hl, p⟩ := p
      obtain ⟨ps, hv, r1⟩ := rl _ _ g
      have kp := rl.keepsW (u := .dK (putK ps kk vv)) g
      have ⟨r3, f3⟩ := rl.write (u := .dK (putK ps kk vv)) (o' := .dK (putD kvs kk v)) g ⟨_, upd_same, (putD_rep kk zv r1).mono kp⟩
      have hl2 : ps.length = kvs.length := (Paired.length r1).symm
      exact .inr ⟨a, _, rep_ref.mp zo, by rw [keyD_rep hk zi]; exact DPut.k hv (by rw [hl2]; exact hl), k _ _ r3 f3 p⟩
    · exact p.elim
  · exact p.elim
def dSetS (to ti te : DTE) : DTS := fun E τ G => te τ G fun v G1 => to τ G1 fun o G2 => ti τ G2 fun i G3 => dSet o i v G3 fun G4 => E.nx τ G4
theorem lift_set (to ti te : DTE) : ∀ D σ H, liftS K ξ (dSetS to ti te) D σ H → tAsg (liftE K ξ te) (gSub (liftE K ξ to) (liftE K ξ ti) rSetAll) D σ H :=
  fun D σ H ⟨τ, G, E, rs, rl, p, er⟩ => ⟨τ, G, _, rs, rl, p, fun v G1 vv H1 zv r1 f1 p1 => ⟨τ, G1, _, rs.mono (f1.keeps rl.1), r1, p1, fun o G2 ov H2 zo r2 f2 p2 => ⟨τ, G2, _, (rs.mono (f1.keeps rl.1)).mono (f2.keeps r1.1), r2, p2, fun i G3 iv H3 zi r3 f3 p3 =>
    dset_run (zo.mono (f3.keeps r2.1)) zi ((zv.mono (f2.keeps r1.1)).mono (f3.keeps r2.1)) r3.1 p3 fun G4 H4 r4 f4 p4 => er.nx τ G4 σ H4 ((((rs.mono (f1.keeps rl.1)).mono (f2.keeps r1.1)).mono (f3.keeps r2.1)).mono (f4.keeps r3.1)) (r3.to r4 f4) (f1.trans (f2.trans (f3.trans f4))) p4⟩⟩⟩
/-! ### fields -/
def putFD (f : String) (v : DV) : List (String × DV) → List (String × DV)
  | [] => [(f, v)]
  | (g, w) :: r => if g = f then (g, v) :: r else (g, w) :: putFD f v r
theorem putF_eq (f : Str) (v : V) : ∀ l : List (Str × V), putF f v l = match l with | [] => [(f, v)] | (g, w) :: r => if g = f then (g, v) :: r else (g, w) :: putF f v r
  | [] => rfl
  | (g, w) :: r => rfl
theorem putFD_rep {H : Hp} (f : String) {d : DV} {v : V} (z : Rep K H d v) : ∀ {fs : List (String × DV)} {gs : List (Str × V)}, RepF K H fs gs → RepF K H (putFD f d fs) (putF f v gs)
  | _, _, .nil => .cons ⟨rfl, z⟩ .nil
  | (g, w) :: r, (g', w') :: r', .cons ⟨e, q⟩ t => by
    have e' : Str.ofString g = g' := e
    subst e'
    unfold putFD
    rw [putF_eq]
    dsimp only
    by_cases h : g = f
    · rw [if_pos h, if_pos (by rw [h])]; exact .cons ⟨rfl, z⟩ t
    · rw [if_neg h, if_neg (fun e => h (ofString_inj.mp e))]; exact .cons ⟨rfl, q⟩ (putFD_rep f z t)
theorem lookF_rep {H : Hp} (f : String) : ∀ {fs : List (String × DV)} {gs : List (Str × V)}, RepF K H fs gs → (fs.lookup f = none ∧ gs.lookup (Str.ofString f) = none) ∨ ∃ d v, fs.lookup f = some d ∧ gs.lookup (Str.ofString f) = some v ∧ Rep K H d v
  | _, _, .nil => .inl ⟨rfl, rfl⟩
  | (g, w) :: r, (g', w') :: r', .cons ⟨e, q⟩ t => by
    have e' : Str.ofString g = g' := e
    subst e'
    by_cases h : f = g
    · subst h
      exact .inr ⟨w, w', by simp [List.lookup], by simp [List.lookup], q⟩
    · have h1 : (f == g) = false := by simpa using h
      have h2 : (Str.ofString f == Str.ofString g) = false := by
        cases hh : (Str.ofString f == Str.ofString g) with
        | false => rfl
        | true => exact absurd (ofString_inj.mp (eq_of_beq hh)) h
      rw [List.lookup_cons, List.lookup_cons, h1, h2]
      exact lookF_rep f t
/-- what the written part says of the classes' fields -/
def FldOk (K : PySem.W.Frag) (c f : String) : Prop := Cls K (He.ga K c) ∧ NoAttr K (He.ga K c) (Str.ofString f)
/-- o.f of an instance of one of the classes cs -/
def dFld (cs : List String) (f : String) (ta : DTE) : DTE := fun τ G P => ta τ G fun x G1 => ∃ a c fs d, x = .ref a ∧ G1 a = some (.ins c fs) ∧ c ∈ cs ∧ fs.lookup f = some d ∧ P d G1
theorem de_fld {cs : List String} {e : Expr} {f : String} {te : DTE} {pos : Pos} (hc : ∀ c ∈ cs, FldOk X.K c f) (he : DE X ξ e te) (hb : attributeBase e (Str.ofString f) X.env (eval e X.env) = eval e X.env) : DE X ξ (.Attribute e (Str.ofString f) pos) (dFld cs f te) :=
  pe_weak (pe_fld he hb) fun σ H Q ⟨τ, G, P, rs, rl, p, k⟩ => ⟨τ, G, _, rs, rl, p, fun x G1 v H1 z r1 f1 ⟨a, c, fs, d, e, g, hm, l, p1⟩ => by
    subst e
    obtain ⟨dx, gs, hh, rf⟩ := r1.1 _ _ g
    rcases lookF_rep f rf with ⟨q1, _⟩ | ⟨d', w, q1, q2, zz⟩
    · rw [q1] at l; cases l
    · rw [q1] at l; cases l
      exact ⟨a, _, dx, gs, w, rep_ref.mp z, hh, (hc c hm).1, (hc c hm).2, q2, k _ G1 w H1 zz r1 f1 p1⟩⟩
def dFldS (cs : List String) (f : String) (to te : DTE) : DTS := fun E τ G => te τ G fun v G1 => to τ G1 fun x G2 => ∃ a c fs, x = .ref a ∧ G2 a = some (.ins c fs) ∧ c ∈ cs ∧ fs.length < 1000 ∧ E.nx τ (updD G2 a (.ins c (putFD f v fs)))
theorem ds_fld {cs : List String} {o e : Expr} {f : String} {to te : DTE} {pos pos' : Pos} (hc : ∀ c ∈ cs, FldOk X.K c f) (ho : DE X ξ o to) (he : DE X ξ e te) (hs : swapsWith e (some (.Attribute o (Str.ofString f) pos')) pos.line X.env = pure false) :
    DS X ξ (.Assign [.Attribute o (Str.ofString f) pos'] e pos) (dFldS cs f to te) :=
  ps_weak (ps_fld ho he hs) fun D σ H ⟨τ, G, E, rs, rl, p, er⟩ => ⟨τ, G, _, rs, rl, p, fun v G1 vv H1 zv r1 f1 p1 => ⟨τ, G1, _, rs.mono (f1.keeps rl.1), r1, p1, fun x G2 xv H2 z r2 f2 ⟨a, c, fs, e, g, hm, hl, p2⟩ => by
    subst e
    obtain ⟨dx, gs, hh, rf⟩ := r2.1 _ _ g
    have hl2 : gs.length = fs.length := (Paired.length rf).symm
    have kk := r2.1.keepsW (u := .ins (He.ga X.K c) dx (putF (Str.ofString f) vv gs)) g
    have ⟨r3, f3⟩ := r2.1.write (u := .ins (He.ga X.K c) dx (putF (Str.ofString f) vv gs)) (o' := .ins c (putFD f v fs)) g ⟨dx, _, upd_same, (putFD_rep f (zv.mono (f2.keeps r1.1)) rf).mono kk⟩
    exact ⟨a, _, dx, gs, rep_ref.mp z, hh, (hc c hm).1, (hc c hm).2, by rw [hl2]; exact hl, er.nx τ _ σ _ (((rs.mono (f1.keeps rl.1)).mono (f2.keeps r1.1)).mono (f3.keeps r2.1)) (r2.to r3 f3) (f1.trans (f2.trans f3)) p2⟩⟩⟩
/-- name op= e -/
def dAug (i : Nat) (rd : DR2) (te : DTE) : DTS := fun E τ G => ∃ x, τ[i]? = some (some x) ∧ te τ G fun y G1 => rd x y G1 fun z G2 => E.nx (τ.set i (some z)) G2
theorem lift_aug {r : R2} {rd : DR2} (h : DOp K r rd) (i : Nat) (te : DTE) : ∀ D σ H, liftS K ξ (dAug i rd te) D σ H → tAug i (liftE K ξ te) r D σ H :=
  fun D σ H ⟨τ, G, E, rs, rl, ⟨x, hx, p⟩, er⟩ => by
    obtain ⟨v, hv, z⟩ := rs.get i x hx
    exact ⟨v, hv, ⟨τ, G, _, rs, rl, p, fun y G1 u H1 zy r1 f1 p1 => h x y G1 _ v u H1 _ (z.mono (f1.keeps rl.1)) zy r1.1 p1 fun d G2 w H2 z2 r2 f2 p2 =>
      er.nx _ G2 _ H2 (((rs.mono (f1.keeps rl.1)).mono (f2.keeps r1.1)).set i z2) (r1.to r2 f2) (f1.trans f2) p2⟩⟩
/-! ### what is walked -/
/-- an iterator of the layer goes over data, as long as they live -/
def JOk (K : PySem.W.Frag) (H1 : Hp) (J : It) (xs : List DV) (live : DH → Prop) : Prop := ∀ i G H, Keeps H1 H → Rel K G H → live G →
  (∀ d, xs[i]? = some d → J.go i H ∧ ∀ x H', J.yld i H x H' → Rep K H' d x ∧ Rel K G H' ∧ Frame G H G H') ∧ (i = xs.length → J.stop i H)
abbrev DTI := DSt → DH → (List DV → (DH → Prop) → DH → Prop) → Prop
def liftI (K : PySem.W.Frag) (ξ : XP) (wi : DTI) : TI := fun σ H R => ∃ (τ : DSt) (G : DH) (P : List DV → (DH → Prop) → DH → Prop), RelS K H τ σ ∧ RelX K ξ G H ∧ wi τ G P ∧
  ∀ xs live G' H' J, RelX K ξ G' H' → Frame G H G' H' → JOk K H' J xs live → P xs live G' → R J H'
abbrev DI (X : Cx) (ξ : XP) (tg iter : Expr) (wi : DTI) : Prop := PI X tg iter (liftI X.K ξ wi)
theorem pi_weak {tg e : Expr} {t t' : TI} (h : PI X tg e t) (w : ∀ σ H Q, t' σ H Q → t σ H Q) : PI X tg e t' := ⟨fun pins s σ H Q I q => h.run pins s σ H Q I (w σ H Q q)⟩
/-- for target in wi -/
def dFor (wi : DTI) (tg : Tg) (tb : DTS) : DTS := fun E τ G => wi τ G fun xs live G1 => ∃ Pv : Nat → DSt → DH → Prop, Pv 0 τ G1 ∧ ∀ i τ G, i ≤ xs.length → Pv i τ G → live G ∧
  match xs[i]? with
  | some x => ∃ τ2, asgD tg x τ = some τ2 ∧ tb { E with nx := Pv (i + 1), ct := Pv (i + 1), bk := E.nx } τ2 G
  | none => E.nx τ G
theorem lift_for (wi : DTI) (tg : Tg) (tb : DTS) : ∀ D σ H, liftS K ξ (dFor wi tg tb) D σ H → tFor (liftI K ξ wi) (gTg K tg) (liftS K ξ tb) D σ H :=
  fun D σ H ⟨τ, G, E, rs, rl, p, er⟩ => ⟨τ, G, _, rs, rl, p, fun xs live G1 H1 J r1 f1 jo ⟨Pv, h0, hs⟩ => by
    refine ⟨fun i m σ H' => m = xs.length - i ∧ i ≤ xs.length ∧ ∃ τ' G', RelS K H' τ' σ ∧ RelX K ξ G' H' ∧ Frame G1 H1 G' H' ∧ Pv i τ' G', ⟨_, rfl, Nat.zero_le _, τ, G1, rs.mono (f1.keeps rl.1), r1, Frame.refl _ _, h0⟩, ?_⟩
    rintro i m σ1 H2 ⟨rfl, hi, τ', G', rs', rl', f', pv⟩
    obtain ⟨lv, hb⟩ := hs i τ' G' hi pv
    obtain ⟨jg, jst⟩ := jo i G' H2 (f'.keeps r1.1) rl'.1 lv
    by_cases hlt : i < xs.length
    · have hx : xs[i]? = some xs[i] := List.getElem?_eq_getElem hlt
      rw [hx] at hb
      obtain ⟨τ2, ha, hb⟩ := hb
      obtain ⟨g1, g2⟩ := jg _ hx
      refine .inr ⟨g1, fun σ' H' => i + 1 ≤ xs.length ∧ ∃ τ' G', RelS K H' τ' σ' ∧ RelX K ξ G' H' ∧ Frame G1 H1 G' H' ∧ Pv (i + 1) τ' G', fun σ' H' ⟨l, q⟩ => ⟨xs.length - (i + 1), by omega, rfl, l, q⟩, fun x H3 hy => ?_⟩
      obtain ⟨zx, r3, f3⟩ := g2 x H3 hy
      refine asg_run tg _ x τ' τ2 σ1 _ ha zx (rs'.mono (f3.keeps rl'.1)) fun σ2 rs2 _ => ?_
      have e3 := ((er.mono f1).mono f').mono f3
      exact ⟨τ2, G', _, rs2, rl'.to r3 f3, hb, ⟨fun τa Ga σa Ha a b c d => ⟨hlt, τa, Ga, a, b, f'.trans (f3.trans c), d⟩, e3.rt, e3.nx, fun τa Ga σa Ha a b c d => ⟨hlt, τa, Ga, a, b, f'.trans (f3.trans c), d⟩⟩⟩
    · have hx : xs[i]? = none := List.getElem?_eq_none (by omega)
      rw [hx] at hb
      exact .inl ⟨jst (by omega), er.nx τ' G' σ1 H2 rs' rl' (f1.trans f') hb⟩⟩
/-- while -/
def dWhile (c : DTT) (tb : DTS) : DTS := fun E τ G => ∃ Pv : Nat → DSt → DH → Prop, (∃ m, Pv m τ G) ∧ ∀ m τ G, Pv m τ G → c τ G fun b G1 =>
  if b = true then tb { E with nx := fun τ' G' => ∃ m', m' < m ∧ Pv m' τ' G', ct := fun τ' G' => ∃ m', m' < m ∧ Pv m' τ' G', bk := E.nx } τ G1 else E.nx τ G1
theorem lift_while (c : DTT) (tb : DTS) : ∀ D σ H, liftS K ξ (dWhile c tb) D σ H → tWhile (liftT K ξ c) (liftS K ξ tb) D σ H :=
  fun D σ H ⟨τ, G, E, rs, rl, ⟨Pv, ⟨m, h0⟩, hs⟩, er⟩ => by
    refine ⟨fun m σ H' => ∃ τ' G', RelS K H' τ' σ ∧ RelX K ξ G' H' ∧ Frame G H G' H' ∧ Pv m τ' G', ⟨m, τ, G, rs, rl, Frame.refl G H, h0⟩, ?_⟩
    rintro m σ1 H1 ⟨τ', G', rs', rl', f', pv⟩
    refine ⟨τ', G', _, rs', rl', hs m τ' G' pv, fun b G2 H2 r2 f2 p2 => ?_⟩
    have e2 := (er.mono f').mono f2
    cases b with
    | true =>
      dsimp only at p2 ⊢
      rw [if_pos rfl] at p2 ⊢
      refine ⟨fun σ' H' => ∃ m', m' < m ∧ ∃ τ' G', RelS K H' τ' σ' ∧ RelX K ξ G' H' ∧ Frame G H G' H' ∧ Pv m' τ' G', fun σ' H' ⟨m', l, q⟩ => ⟨m', l, q⟩, τ', G2, _, rs'.mono (f2.keeps rl'.1), r2, p2, ?_⟩
      exact ⟨fun τa Ga σa Ha a b c ⟨m', l, d⟩ => ⟨m', l, τa, Ga, a, b, f'.trans (f2.trans c), d⟩, e2.rt, e2.nx, fun τa Ga σa Ha a b c ⟨m', l, d⟩ => ⟨m', l, τa, Ga, a, b, f'.trans (f2.trans c), d⟩⟩
    | false =>
      dsimp only at p2 ⊢
      rw [if_neg (by decide)] at p2 ⊢
      exact e2.nx τ' G2 σ1 H2 (rs'.mono (f2.keeps rl'.1)) r2 (Frame.refl _ _) p2
end
end DL
end
section
set_option Elab.async false
set_option linter.all false
set_option maxRecDepth 100000
set_option autoImplicit false
namespace DL
open PySem PySem.Spec PyProof.Rows L2
section
variable {X : Cx} {ξ : XP} {K : PySem.W.Frag}
/-! ### what is walked -/
def chrs (s : Str) : List DV := s.cps.toList.map fun c => .str ⟨#[c]⟩
def itOf (G : DH) (d : DV) : Option (List DV) := match d with
  | .str s => some (chrs s)
  | d => seqD G d
theorem atL {xs : List DV} {vs : List V} {H : Hp} (r : RepL K H xs vs) {i : Nat} {d : DV} (h : xs[i]? = some d) : ∃ v, vs[i]? = some v ∧ Rep K H d v := r.get' h
theorem jok_list {G1 : DH} {H1 : Hp} {x : DV} {a : Addr} {xs : List DV} (z : Rep K H1 x (.ref a)) (n : ∀ ys, x ≠ .tup ys) : JOk K H1 (Itl K a) xs (fun G => seqD G x = some xs) := fun i G H k rl lv => by
  obtain ⟨b, vs, e, r, ⟨_, q⟩ | ⟨q, _⟩⟩ := seqD_rep rl lv (z.mono k)
  · exact absurd q (n _)
  · cases e
    refine ⟨fun d hd => ?_, fun hl => ⟨vs, q, by rw [r.length]; omega⟩⟩
    obtain ⟨v, hv, zv⟩ := atL r hd
    refine ⟨⟨vs, v, q, hv⟩, fun y H' ⟨eH, hy⟩ => ?_⟩
    subst eH
    have e1 := hy vs q
    rw [hv] at e1
    cases e1
    exact ⟨zv, rl, Frame.refl _ _⟩
theorem jok_tup {G1 : DH} {H1 : Hp} {a : Addr} {xs : List DV} {live : DH → Prop} (z : Rep K H1 (.tup xs) (.ref a)) : JOk K H1 (Itt K a) xs live := fun i G H k rl lv => by
  obtain ⟨b, vs, e, q, r⟩ := rep_tup.mp (z.mono k)
  cases e
  refine ⟨fun d hd => ?_, fun hl => ⟨vs, q, by rw [r.length]; omega⟩⟩
  obtain ⟨v, hv, zv⟩ := atL r hd
  refine ⟨⟨vs, v, q, hv⟩, fun y H' ⟨eH, hy⟩ => ?_⟩
  subst eH
  have e1 := hy vs q
  rw [hv] at e1
  cases e1
  exact ⟨zv, rl, Frame.refl _ _⟩
theorem jok_str {H1 : Hp} {s : Str} {live : DH → Prop} : JOk K H1 (Its s) (chrs s) live := fun i G H k rl lv => by
  have hs : (chrs s).length = s.cps.size := by simp [chrs]
  refine ⟨fun d hd => ?_, fun hl => by rw [hs] at hl; exact Nat.le_of_eq hl.symm⟩
  have hi : i < s.cps.size := by
    have := (List.getElem?_eq_some_iff.mp hd).1
    rw [hs] at this; exact this
  refine ⟨hi, fun y H' ⟨eH, c, hc, hy⟩ => ?_⟩
  subst eH
  unfold chrs at hd
  rw [List.getElem?_map, Array.getElem?_toList, hc] at hd
  cases hd
  exact ⟨rep_str.mpr hy, rl, Frame.refl _ _⟩
def rngD (lo : Int) (n : Nat) : List DV := (List.range n).map fun i => .int (lo + (i : Nat))
theorem rngD_len (lo : Int) (n : Nat) : (rngD lo n).length = n := by simp [rngD]
theorem jok_rng {H1 : Hp} {lo : Int} {n : Nat} {live : DH → Prop} : JOk K H1 (Itr lo n) (rngD lo n) live := fun i G H k rl lv => by
  refine ⟨fun d hd => ?_, fun hl => by rw [rngD_len] at hl; exact Nat.le_of_eq hl.symm⟩
  have hi : i < n := by
    have := (List.getElem?_eq_some_iff.mp hd).1
    rw [rngD_len] at this; exact this
  refine ⟨hi, fun y H' ⟨eH, hy⟩ => ?_⟩
  subst eH
  unfold rngD at hd
  rw [List.getElem?_map, List.getElem?_range hi] at hd
  cases hd
  exact ⟨rep_int.mpr hy, rl, Frame.refl _ _⟩
def zipD (xs ys : List DV) : List DV := (xs.zip ys).map fun p => .tup [p.1, p.2]
theorem zipD_at {xs ys : List DV} {i : Nat} {d : DV} (h : (zipD xs ys)[i]? = some d) : ∃ x y, xs[i]? = some x ∧ ys[i]? = some y ∧ d = .tup [x, y] := by
  unfold zipD at h
  rw [List.getElem?_map] at h
  cases q : (xs.zip ys)[i]? with
  | none => rw [q] at h; cases h
  | some p =>
    rw [q] at h
    cases h
    obtain ⟨q1, q2⟩ := List.getElem?_zip_eq_some.mp q
    exact ⟨_, _, q1, q2, rfl⟩
theorem rep_pair {G : DH} {H : Hp} {T : Addr} {d e : DV} {x y : V} (rl : Rel K G H) (hT : H T = none) (z1 : Rep K H d x) (z2 : Rep K H e y) : Rep K (upd H T (.tup [x, y])) (.tup [d, e]) (.ref T) ∧ Rel K G (upd H T (.tup [x, y])) ∧ Frame G H G (upd H T (.tup [x, y])) := by
  obtain ⟨r2, f2⟩ := rl.aside (u := .tup [x, y]) hT
  exact ⟨rep_tup.mpr ⟨T, _, rfl, SqT.of upd_same, repL_two.mpr ⟨x, y, rfl, z1.mono (f2.keeps rl), z2.mono (f2.keeps rl)⟩⟩, r2, f2⟩
theorem zipD_len (xs ys : List DV) : (zipD xs ys).length = min xs.length ys.length := by simp [zipD]
theorem jok_zip {H1 : Hp} {x y : DV} {a b : Addr} {xs ys : List DV} (z : Rep K H1 x (.ref a)) (n : ∀ us, x ≠ .tup us) (z' : Rep K H1 y (.ref b)) (n' : ∀ us, y ≠ .tup us) :
    JOk K H1 (Itz K a b) (zipD xs ys) (fun G => seqD G x = some xs ∧ seqD G y = some ys) := fun i G H k rl ⟨l1, l2⟩ => by
  obtain ⟨_, vs, e, r, ⟨_, q⟩ | ⟨q, _⟩⟩ := seqD_rep rl l1 (z.mono k)
  · exact absurd q (n _)
  cases e
  obtain ⟨_, us, e, r', ⟨_, q'⟩ | ⟨q', _⟩⟩ := seqD_rep rl l2 (z'.mono k)
  · exact absurd q' (n' _)
  cases e
  refine ⟨fun d hd => ?_, fun hl => ⟨vs, us, q, q', by rw [r.length, r'.length]; rw [zipD_len] at hl; omega⟩⟩
  obtain ⟨dx, dy, h1, h2, ed⟩ := zipD_at hd
  obtain ⟨v, hv, zv⟩ := atL r h1
  obtain ⟨u, hu, zu⟩ := atL r' h2
  refine ⟨⟨vs, us, v, u, q, q', hv, hu⟩, fun w H' ⟨T, v', u', ew, hT, eH, g1, g2⟩ => ?_⟩
  have e1 := g1 vs q
  have e2 := g2 us q'
  rw [hv] at e1; rw [hu] at e2
  cases e1; cases e2
  subst ew eH ed
  exact rep_pair rl hT zv zu
theorem jok_zipT {H1 : Hp} {a b : Addr} {xs ys : List DV} {live : DH → Prop} (z : Rep K H1 (.tup xs) (.ref a)) (z' : Rep K H1 (.tup ys) (.ref b)) :
    JOk K H1 (RZ.ItzT K a b) (zipD xs ys) live := fun i G H k rl _ => by
  obtain ⟨_, vs, e, q, r⟩ := rep_tup.mp (z.mono k)
  cases e
  obtain ⟨_, us, e, q', r'⟩ := rep_tup.mp (z'.mono k)
  cases e
  refine ⟨fun d hd => ?_, fun hl => ⟨vs, us, q, q', by rw [r.length, r'.length]; rw [zipD_len] at hl; omega⟩⟩
  obtain ⟨dx, dy, h1, h2, ed⟩ := zipD_at hd
  obtain ⟨v, hv, zv⟩ := atL r h1
  obtain ⟨u, hu, zu⟩ := atL r' h2
  refine ⟨⟨vs, us, v, u, q, q', hv, hu⟩, fun w H' ⟨T, v', u', ew, hT, eH, g1, g2⟩ => ?_⟩
  have e1 := g1 vs q
  have e2 := g2 us q'
  rw [hv] at e1; rw [hu] at e2
  cases e1; cases e2
  subst ew eH ed
  exact rep_pair rl hT zv zu
def enumD (xs : List DV) : List DV := xs.mapIdx fun i x => .tup [.int ((i : Nat) : Int), x]
theorem enumD_at (xs : List DV) (i : Nat) : (enumD xs)[i]? = (xs[i]?).map fun x => .tup [.int ((i : Nat) : Int), x] := by unfold enumD; rw [List.getElem?_mapIdx]
theorem enumD_len (xs : List DV) : (enumD xs).length = xs.length := by unfold enumD; rw [List.length_mapIdx]
theorem jok_enum {H1 : Hp} {x : DV} {a : Addr} {xs : List DV} (z : Rep K H1 x (.ref a)) (n : ∀ us, x ≠ .tup us) :
    JOk K H1 (Ite K a) (enumD xs) (fun G => seqD G x = some xs) := fun i G H k rl l1 => by
  obtain ⟨_, vs, e, r, ⟨_, q⟩ | ⟨q, _⟩⟩ := seqD_rep rl l1 (z.mono k)
  · exact absurd q (n _)
  cases e
  refine ⟨fun d hd => ?_, fun hl => ⟨vs, q, by rw [r.length]; rw [enumD_len] at hl; omega⟩⟩
  rw [enumD_at] at hd
  cases hx : xs[i]? with
  | none => rw [hx] at hd; cases hd
  | some dx =>
    rw [hx] at hd
    cases hd
    obtain ⟨v, hv, zv⟩ := atL r hx
    refine ⟨⟨vs, v, q, hv⟩, fun w H' ⟨T, v', ew, hT, eH, g1⟩ => ?_⟩
    have e1 := g1 vs q
    rw [hv] at e1
    cases e1
    subst ew eH
    exact rep_pair rl hT (rep_int.mpr rfl) zv
/-! the judgements -/
def iSeq (K : PySem.W.Frag) (te : TE) : TI := fun σ H R => te σ H fun v H1 => (∃ x, v = .str x ∧ R (Its x) H1) ∨ ∃ a, v = .ref a ∧ (((∃ xs, SqL K H1 a xs) ∧ R (Itl K a) H1) ∨ ((∃ xs, SqT K H1 a xs) ∧ R (Itt K a) H1))
theorem pi_seq {tg e : Expr} {te : TE} (he : PE X e te) : PI X tg e (iSeq X.K te) := by
  refine ⟨fun pins s σ H R I h => ?_⟩
  refine thn (he.run pins s σ H _ I h) fun v s1 ⟨x, H1, I1, r1, q1⟩ => ?_
  rcases q1 with ⟨x, e, q⟩ | ⟨a, e, ⟨⟨xs, hq⟩, q⟩ | ⟨⟨xs, hq⟩, q⟩⟩
  · subst e
    obtain ⟨t, rfl⟩ := r1
    cases ha : x.cps.all (· < 128)
    · exact wpAny_pyIter_wide ha (pi_one (tk := s1.toks) I1 _ (turn_str _ x t "str_iterator" (.inr rfl)) ⟨_, Heap.get?_push_size _ rfl, rfl, rfl⟩ q)
    · exact wpAny_pyIter_ascii ha (pi_one (tk := s1.toks) I1 _ (turn_str _ x t "str_ascii_iterator" (.inl rfl)) ⟨_, Heap.get?_push_size _ rfl, rfl, rfl⟩ q)
  · subst e
    cases r1
    obtain ⟨its, rv, p, hz⟩ := I1.list hq
    exact wpAny_pyIter_list p.isList (pi_one (tk := s1.toks) I1 _ (turn_list a _) ⟨_, Heap.get?_push_size _ rfl, rfl, rfl⟩ q)
  · subst e
    cases r1
    obtain ⟨its, rv, p, hz⟩ := I1.tuple hq
    exact wpAny_pyIter_tuple (show s1.heap.IsTuple a its.toArray from p) (pi_one (tk := s1.toks) I1 _ (turn_tuple a _) ⟨_, Heap.get?_push_size _ rfl, rfl, rfl⟩ q)
def dSeqI (te : DTE) : DTI := fun τ G P => te τ G fun x G1 => ∃ xs, itOf G1 x = some xs ∧ P xs (fun G' => itOf G' x = some xs) G1
theorem di_seq {tg e : Expr} {te : DTE} (he : DE X ξ e te) : DI X ξ tg e (dSeqI te) := pi_weak (pi_seq he) fun σ H R ⟨τ, G, P, rs, rl, p, k⟩ => ⟨τ, G, _, rs, rl, p, fun d G1 v H1 z r1 f1 ⟨xs, hx, p1⟩ => by
  cases d with
  | str s =>
    cases hx
    exact .inl ⟨s, rep_str.mp z, k _ _ G1 H1 _ r1 f1 jok_str p1⟩
  | tup ys =>
    cases hx
    obtain ⟨a, vs, e, q, r⟩ := rep_tup.mp z
    subst e
    exact .inr ⟨a, rfl, .inr ⟨⟨vs, q⟩, k _ _ G1 H1 _ r1 f1 (jok_tup (G1 := G1) z) p1⟩⟩
  | lk ys =>
    obtain ⟨a, vs, e, r, ⟨_, q⟩ | ⟨q, n⟩⟩ := seqD_rep r1.1 (x := .lk ys) hx z
    · cases q
    subst e
    exact .inr ⟨a, rfl, .inl ⟨⟨vs, q⟩, k _ _ G1 H1 _ r1 f1 (jok_list (G1 := G1) z n) p1⟩⟩
  | ref b =>
    obtain ⟨a, vs, e, r, ⟨_, q⟩ | ⟨q, n⟩⟩ := seqD_rep r1.1 (x := .ref b) hx z
    · cases q
    subst e
    exact .inr ⟨a, rfl, .inl ⟨⟨vs, q⟩, k _ _ G1 H1 _ r1 f1 (jok_list (G1 := G1) z n) p1⟩⟩
  | _ => cases hx⟩
def dRng1 (t : DTA) : DTI := fun τ G P => t τ G fun ds G1 => ∃ j : Int, ds = [.int j] ∧ -(2 ^ 62) ≤ j ∧ j < 2 ^ 62 ∧ P (rngD 0 j.toNat) (fun _ => True) G1
def dRng2 (t : DTA) : DTI := fun τ G P => t τ G fun ds G1 => ∃ i j : Int, ds = [.int i, .int j] ∧ (-(2 ^ 62) ≤ i ∧ i < 2 ^ 62 ∧ -(2 ^ 62) ≤ j ∧ j < 2 ^ 62) ∧ P (rngD i (j - i).toNat) (fun _ => True) G1
theorem lift_rng1 (t : DTA) : ∀ σ H R, liftI K ξ (dRng1 t) σ H R → iRng1 (liftA K ξ t) σ H R := fun σ H R ⟨τ, G, P, rs, rl, p, k⟩ => ⟨τ, G, _, rs, rl, p, fun ds G1 vs H1 z r1 f1 ⟨j, e, h1, h2, p1⟩ => by
  subst e
  obtain ⟨v, rfl, zv⟩ := repL_one.mp z
  exact ⟨j, by rw [rep_int.mp zv], h1, h2, k _ _ G1 H1 _ r1 f1 jok_rng p1⟩⟩
theorem lift_rng2 (t : DTA) : ∀ σ H R, liftI K ξ (dRng2 t) σ H R → iRng2 (liftA K ξ t) σ H R := fun σ H R ⟨τ, G, P, rs, rl, p, k⟩ => ⟨τ, G, _, rs, rl, p, fun ds G1 vs H1 z r1 f1 ⟨i, j, e, h1, p1⟩ => by
  subst e
  obtain ⟨v, u, rfl, zv, zu⟩ := repL_two.mp z
  exact ⟨i, j, by rw [rep_int.mp zv, rep_int.mp zu], h1, k _ _ G1 H1 _ r1 f1 jok_rng p1⟩⟩
def dZip (t : DTA) : DTI := fun τ G P => t τ G fun ds G1 => ∃ x y, ds = [x, y] ∧ ((∃ xs ys, x = .tup xs ∧ y = .tup ys ∧ P (zipD xs ys) (fun _ => True) G1) ∨
  ∃ xs ys, (∀ us, x ≠ .tup us) ∧ (∀ us, y ≠ .tup us) ∧ seqD G1 x = some xs ∧ seqD G1 y = some ys ∧ P (zipD xs ys) (fun G' => seqD G' x = some xs ∧ seqD G' y = some ys) G1)
theorem lift_zip (t : DTA) : ∀ σ H R, liftI K ξ (dZip t) σ H R → RZ.iZipA K (liftA K ξ t) σ H R := fun σ H R ⟨τ, G, P, rs, rl, p, k⟩ => ⟨τ, G, _, rs, rl, p, fun ds G1 vs H1 z r1 f1 ⟨x, y, e, p1⟩ => by
  subst e
  obtain ⟨v, u, rfl, zv, zu⟩ := repL_two.mp z
  rcases p1 with ⟨xs, ys, rfl, rfl, p1⟩ | ⟨xs, ys, n1, n2, h1, h2, p1⟩
  · obtain ⟨a, vs, rfl, q1, _⟩ := rep_tup.mp zv
    obtain ⟨b, us, rfl, q2, _⟩ := rep_tup.mp zu
    exact ⟨a, b, vs, us, rfl, .inr ⟨q1, q2, k _ _ G1 H1 _ r1 f1 (jok_zipT zv zu) p1⟩⟩
  · obtain ⟨a, vs, rfl, _, ⟨_, q⟩ | ⟨q1, _⟩⟩ := seqD_rep r1.1 h1 zv
    · exact absurd q (n1 _)
    obtain ⟨b, us, rfl, _, ⟨_, q⟩ | ⟨q2, _⟩⟩ := seqD_rep r1.1 h2 zu
    · exact absurd q (n2 _)
    exact ⟨a, b, vs, us, rfl, .inl ⟨q1, q2, k _ _ G1 H1 _ r1 f1 (jok_zip zv n1 zu n2) p1⟩⟩⟩
/-- list(zip(..)) -/
def dLzip (t : DTA) : DTE := fun τ G P => t τ G fun ds G1 => ∃ x y xs ys, ds = [x, y] ∧ ((x = .tup xs ∧ y = .tup ys) ∨ ((∀ us, x ≠ .tup us) ∧ (∀ us, y ≠ .tup us) ∧ seqD G1 x = some xs ∧ seqD G1 y = some ys)) ∧
  ∀ p, G1 p = none → P (.ref p) (updD G1 p (.lst (zipD xs ys)))
theorem paired_pair {H : Hp} : ∀ {ts : List Addr} {xs ys : List DV} {vs us : List V}, RepL K H xs vs → RepL K H ys us → Paired (fun (t : Addr) (q : V × V) => H t = some (.tup [q.1, q.2])) ts (vs.zip us) → RepL K H (zipD xs ys) (ts.map V.ref)
  | ts, [], ys, vs, us, h1, h2, h => by
    rw [repL_nil.mp h1] at h
    cases h
    exact repL_nil.mpr rfl
  | ts, x :: xs, [], vs, us, h1, h2, h => by
    rw [repL_nil.mp h2, List.zip_nil_right] at h
    cases h
    exact repL_nil.mpr rfl
  | ts, x :: xs, y :: ys, vs, us, h1, h2, h => by
    obtain ⟨v, vs', rfl, a1, a2⟩ := repL_cons.mp h1
    obtain ⟨u, us', rfl, b1, b2⟩ := repL_cons.mp h2
    rw [List.zip_cons_cons] at h
    cases h with
    | cons e r =>
      exact repL_cons.mpr ⟨_, _, rfl, rep_tup.mpr ⟨_, _, rfl, SqT.of e, repL_two.mpr ⟨_, _, rfl, a1, b1⟩⟩, paired_pair a2 b2 r⟩
theorem lift_lzip (t : DTA) : ∀ σ H Q, liftE K ξ (dLzip t) σ H Q → LzI.tListZip K (liftA K ξ t) σ H Q := fun σ H Q ⟨τ, G, P, rs, rl, p, k⟩ => ⟨τ, G, _, rs, rl, p, fun ds G1 vs H1 z r1 f1 ⟨x, y, xs, ys, e, hx, p1⟩ => by
  subst e
  obtain ⟨v, u, rfl, zv, zu⟩ := repL_two.mp z
  have fin : ∀ {a b : Addr} {vs us : List V}, RepL K H1 xs vs → RepL K H1 ys us → ∀ (H' : Hp) (p : Addr) (ts : List Addr), (∀ c o, H1 c = some o → H' c = some o) → H1 p = none → (∀ t ∈ ts, H1 t = none) → p ∉ ts → H' p = some (.lst (ts.map V.ref)) → Paired (fun (t : Addr) (q : V × V) => H' t = some (.tup [q.1, q.2])) ts (vs.zip us) → Q (.ref p) H' := by
    intro a b vs us c1 c2 H' p ts kp np nt hp e5 e6
    have kk : Keeps H1 H' := ⟨fun a xs h => kp a _ h, fun a o u h => kp a _ h, fun a u h => kp a _ h⟩
    have f2 : Frame G1 H1 (updD G1 p (.lst (zipD xs ys))) H' := fun a o q g _ => ⟨kp a o q, by rw [updD_ne (ne_of_none q np)]; exact g⟩
    refine (fun (r2 : Rel K (updD G1 p (.lst (zipD xs ys))) H') => ?_) ⟨fun a ob g => ?_, r1.1.tab.ext kp⟩
    · exact k _ _ _ _ (rep_ref.mpr rfl) (r1.to r2 f2) (f1.trans f2) (p1 p (r1.1.fresh np))
    · by_cases e : a = p
      · rw [e, updD_same] at g; cases g; rw [e]
        exact ⟨_, e5, paired_pair (c1.mono kk) (c2.mono kk) e6⟩
      · rw [updD_ne e] at g
        refine (r1.1.rep a ob g).mono kk ?_
        rcases r1.1.un g with ⟨_, q⟩ | ⟨_, q⟩ | ⟨_, _, _, q⟩ <;> rw [q, kp a _ q]
  rcases hx with ⟨rfl, rfl⟩ | ⟨n1, n2, h1, h2⟩
  · obtain ⟨a, vs, rfl, q1, c1⟩ := rep_tup.mp zv
    obtain ⟨b, us, rfl, q2, c2⟩ := rep_tup.mp zu
    exact ⟨a, b, vs, us, rfl, .inr ⟨q1, q2⟩, fin (a := a) (b := b) c1 c2⟩
  · obtain ⟨a, vs, rfl, c1, ⟨_, q⟩ | ⟨q1, _⟩⟩ := seqD_rep r1.1 h1 zv
    · exact absurd q (n1 _)
    obtain ⟨b, us, rfl, c2, ⟨_, q⟩ | ⟨q2, _⟩⟩ := seqD_rep r1.1 h2 zu
    · exact absurd q (n2 _)
    exact ⟨a, b, vs, us, rfl, .inl ⟨q1, q2⟩, fin (a := a) (b := b) c1 c2⟩⟩
theorem jok_enumT {H1 : Hp} {a : Addr} {xs : List DV} {live : DH → Prop} (z : Rep K H1 (.tup xs) (.ref a)) : JOk K H1 (Itet K a) (enumD xs) live := fun i G H k rl l1 => by
  obtain ⟨_, vs, e, q, r⟩ := rep_tup.mp (z.mono k)
  cases e
  refine ⟨fun d hd => ?_, fun hl => ⟨vs, q, by rw [r.length]; rw [enumD_len] at hl; omega⟩⟩
  rw [enumD_at] at hd
  cases hx : xs[i]? with
  | none => rw [hx] at hd; cases hd
  | some dx =>
    rw [hx] at hd
    cases hd
    obtain ⟨v, hv, zv⟩ := atL r hx
    refine ⟨⟨vs, v, q, hv⟩, fun w H' ⟨T, v', ew, hT, eH, g1⟩ => ?_⟩
    have e1 := g1 vs q
    rw [hv] at e1
    cases e1
    subst ew eH
    exact rep_pair rl hT (rep_int.mpr rfl) zv
def dEnum (t : DTA) : DTI := fun τ G P => t τ G fun ds G1 => ∃ x xs, ds = [x] ∧ seqD G1 x = some xs ∧ P (enumD xs) (fun G' => seqD G' x = some xs) G1
theorem lift_enum (t : DTA) : ∀ σ H R, liftI K ξ (dEnum t) σ H R → iEnumA K (liftA K ξ t) σ H R := fun σ H R ⟨τ, G, P, rs, rl, p, k⟩ => ⟨τ, G, _, rs, rl, p, fun ds G1 vs H1 z r1 f1 ⟨x, xs, e, h1, p1⟩ => by
  subst e
  obtain ⟨v, rfl, zv⟩ := repL_one.mp z
  obtain ⟨a, vs, rfl, _, ⟨q1, ex⟩ | ⟨q1, n1⟩⟩ := seqD_rep r1.1 h1 zv
  · subst ex
    exact ⟨a, rfl, .inr ⟨⟨vs, q1⟩, k _ _ G1 H1 _ r1 f1 (jok_enumT zv) p1⟩⟩
  · exact ⟨a, rfl, .inl ⟨⟨vs, q1⟩, k _ _ G1 H1 _ r1 f1 (jok_enum zv n1) p1⟩⟩⟩
/-! ### list, dict comprehensions -/
def wipeD (τ : DSt) : List Nat → DSt
  | [] => τ
  | v :: vs => (wipeD τ vs).set v none
theorem wipe_rep {H : Hp} {τ : DSt} {σ : L2.St} (rs : RelS K H τ σ) : ∀ vs, RelS K H (wipeD τ vs) (wipe σ vs)
  | [] => rs
  | v :: vs => (wipe_rep rs vs).unset v
theorem wipe_at (σ : L2.St) : ∀ (vs : List Nat) (i : Nat), (wipe σ vs)[i]? = if i ∈ vs then (σ[i]?).map (fun _ => none) else σ[i]?
  | [], i => by simp [wipe]
  | v :: vs, i => by
    unfold wipe
    have ih := wipe_at σ vs i
    by_cases e : v = i
    · subst e
      rw [if_pos List.mem_cons_self]
      by_cases hl : v < (wipe σ vs).length
      · rw [List.getElem?_set_self hl]
        rw [wipe_length] at hl
        rw [List.getElem?_eq_getElem hl]; rfl
      · rw [List.getElem?_eq_none (by simpa using hl)]
        rw [wipe_length] at hl
        rw [List.getElem?_eq_none (by omega)]; rfl
    · rw [List.getElem?_set_ne e, ih]
      simp only [List.mem_cons]
      by_cases hm : i ∈ vs
      · rw [if_pos hm, if_pos (.inr hm)]
      · rw [if_neg hm, if_neg (fun q => q.elim (fun z => e z.symm) hm)]
theorem wipe_diff {σ σ2 : L2.St} {us vs : List Nat} (d : Diff us (wipe σ vs) σ2) (h : ∀ i ∈ us, i ∈ vs) : wipe σ2 vs = wipe σ vs := by
  apply List.ext_getElem?
  intro i
  rw [wipe_at, wipe_at]
  by_cases hm : i ∈ vs
  · rw [if_pos hm, if_pos hm]
    have hl : σ2.length = σ.length := by rw [d.len, wipe_length]
    by_cases hi : i < σ.length
    · rw [List.getElem?_eq_getElem hi, List.getElem?_eq_getElem (l := σ2) (by omega)]; rfl
    · rw [List.getElem?_eq_none (l := σ) (by omega), List.getElem?_eq_none (l := σ2) (by omega)]
  · rw [if_neg hm, if_neg hm, d.out i (fun q => hm (h i q)), wipe_at, if_neg hm]
/-- nothing is let out -/
def xi0 : XP := ⟨fun _ _ _ => False, fun _ _ _ => False⟩
theorem relX0 {G : DH} {H : Hp} (r : Rel K G H) : RelX K xi0 G H := ⟨r, ⟨fun _ _ _ _ _ _ _ _ _ _ z => z.elim, fun _ _ _ _ _ z => z.elim⟩⟩
def dYes : DTT := fun _ G P => P true G
def dLc (wi : DTI) (tg : Tg) (tt : DTT) (te : DTE) (vs : List Nat) : DTE := fun τ G P => wi τ G fun xs live G1 => ∀ D, G1 D = none → ∃ Pv : Nat → List DV → DH → Prop, Pv 0 [] (updD G1 D (.lst [])) ∧ ∀ i acc G, i ≤ xs.length → Pv i acc G → G D = some (.lst acc) ∧ live G ∧
  match xs[i]? with
  | some x => ∃ τ2, asgD tg x (wipeD τ vs) = some τ2 ∧ tt τ2 G fun b G3 => if b = true then te τ2 G3 fun y G4 => G4 D = some (.lst acc) ∧ acc.length < sizeLine ∧ Pv (i + 1) (acc ++ [y]) (updD G4 D (.lst (acc ++ [y]))) else Pv (i + 1) acc G3
  | none => P (.ref D) G
theorem lift_lc (wi : DTI) (tg : Tg) (tt : DTT) (te : DTE) (vs : List Nat) (hv : ∀ i ∈ tg.vars, i ∈ vs) : ∀ σ H Q, liftE K ξ (dLc wi tg tt te vs) σ H Q → tLc (liftI K ξ wi) (gTg K tg) (liftT K xi0 tt) (liftE K xi0 te) vs σ H Q :=
  fun σ H Q ⟨τ, G, P, rs, rl, p, k⟩ => ⟨τ, G, _, rs, rl, p, fun xs live G1 H1 J r1 f1 jo p1 D hD => by
    obtain ⟨Pv, h0, hs⟩ := p1 D (r1.1.fresh hD)
    have ⟨r1', f1'⟩ := r1.1.new (p := D) (u := .lst []) (o := .lst []) hD ⟨[], upd_same, repL_nil.mpr rfl⟩
    refine ⟨fun i m H' => m = xs.length - i ∧ i ≤ xs.length ∧ ∃ acc G', Rel K G' H' ∧ Frame G1 H1 G' H' ∧ Pv i acc G', ⟨_, rfl, Nat.zero_le _, [], _, r1', f1', h0⟩, ?_⟩
    rintro i m H2 ⟨rfl, hi, acc, G', rl', f', pv⟩
    obtain ⟨hD', lv, hb⟩ := hs i acc G' hi pv
    obtain ⟨jg, jst⟩ := jo i G' H2 (f'.keeps r1.1) rl' lv
    by_cases hlt : i < xs.length
    · have hx : xs[i]? = some xs[i] := List.getElem?_eq_getElem hlt
      rw [hx] at hb
      obtain ⟨τ2, ha, hb⟩ := hb
      obtain ⟨g1, g2⟩ := jg _ hx
      refine .inr ⟨g1, fun H' => i + 1 ≤ xs.length ∧ ∃ acc G', Rel K G' H' ∧ Frame G1 H1 G' H' ∧ Pv (i + 1) acc G', fun H' ⟨l, q⟩ => ⟨xs.length - (i + 1), by omega, rfl, l, q⟩, fun x H3 hy => ?_⟩
      obtain ⟨zx, r3, f3⟩ := g2 x H3 hy
      have kk : Keeps H H3 := ((f1.keeps rl.1).trans (f'.keeps r1.1)).trans (f3.keeps rl')
      refine asg_run tg _ x (wipeD τ vs) τ2 (wipe σ vs) _ ha zx (wipe_rep (rs.mono kk) vs) fun σ2 rs2 df => ⟨wipe_diff df hv, τ2, G', _, rs2, relX0 r3, hb, fun b G4 H4 r4 f4 p4 => ?_⟩
      cases b with
      | false =>
        dsimp only at p4 ⊢
        rw [if_neg (by decide)] at p4 ⊢
        exact ⟨hlt, acc, G4, r4.1, f'.trans (f3.trans f4), p4⟩
      | true =>
        dsimp only at p4 ⊢
        rw [if_pos rfl] at p4 ⊢
        refine ⟨τ2, G4, _, rs2.mono (f4.keeps r3), relX0 r4.1, p4, fun y G5 v H5 zy r5 f5 ⟨h5, hl, p5⟩ => ?_⟩
        obtain ⟨us, hus, ru⟩ := r5.1 _ _ h5
        have kw := r5.1.keepsW (u := .lst (us ++ [v])) h5
        have ⟨r6, f6⟩ := r5.1.write (u := .lst (us ++ [v])) (o' := .lst (acc ++ [y])) h5 ⟨_, upd_same, (ru.mono kw).append (repL_one.mpr ⟨v, rfl, zy.mono kw⟩)⟩
        exact ⟨us, hus, by rw [ru.length]; exact hl, hlt, _, _, r6, f'.trans (f3.trans (f4.trans (f5.trans f6))), p5⟩
    · have hx : xs[i]? = none := List.getElem?_eq_none (by omega)
      rw [hx] at hb
      exact .inl ⟨jst (by omega), k _ _ _ _ (rep_ref.mpr rfl) (r1.to rl' f') (f1.trans f') hb⟩⟩
def dDc (wi : DTI) (tg : Tg) (tt : DTT) (tk tv : DTE) (vs : List Nat) : DTE := fun τ G P => wi τ G fun xs live G1 => ∀ D, G1 D = none → ∃ Pv : Nat → List (Key × DV) → DH → Prop, Pv 0 [] (updD G1 D (.dK [])) ∧ ∀ i acc G, i ≤ xs.length → Pv i acc G → G D = some (.dK acc) ∧ live G ∧
  match xs[i]? with
  | some x => ∃ τ2, asgD tg x (wipeD τ vs) = some τ2 ∧ tt τ2 G fun b G3 => if b = true then tk τ2 G3 fun y G4 => tv τ2 G4 fun z G5 => ∃ k, keyD y = some k ∧ G5 D = some (.dK acc) ∧ acc.length < sizeLine ∧ Pv (i + 1) (putD acc k z) (updD G5 D (.dK (putD acc k z))) else Pv (i + 1) acc G3
  | none => P (.ref D) G
theorem lift_dc (wi : DTI) (tg : Tg) (tt : DTT) (tk tv : DTE) (vs : List Nat) (hv : ∀ i ∈ tg.vars, i ∈ vs) : ∀ σ H Q, liftE K ξ (dDc wi tg tt tk tv vs) σ H Q → tDc (liftI K ξ wi) (gTg K tg) (liftT K xi0 tt) (liftE K xi0 tk) (liftE K xi0 tv) vs σ H Q :=
  fun σ H Q ⟨τ, G, P, rs, rl, p, k⟩ => ⟨τ, G, _, rs, rl, p, fun xs live G1 H1 J r1 f1 jo p1 D hD => by
    obtain ⟨Pv, h0, hs⟩ := p1 D (r1.1.fresh hD)
    have ⟨r1', f1'⟩ := r1.1.new (p := D) (u := .dK []) (o := .dK []) hD ⟨[], upd_same, .nil⟩
    refine ⟨fun i m H' => m = xs.length - i ∧ i ≤ xs.length ∧ ∃ acc G', Rel K G' H' ∧ Frame G1 H1 G' H' ∧ Pv i acc G', ⟨_, rfl, Nat.zero_le _, [], _, r1', f1', h0⟩, ?_⟩
    rintro i m H2 ⟨rfl, hi, acc, G', rl', f', pv⟩
    obtain ⟨hD', lv, hb⟩ := hs i acc G' hi pv
    obtain ⟨jg, jst⟩ := jo i G' H2 (f'.keeps r1.1) rl' lv
    by_cases hlt : i < xs.length
    · have hx : xs[i]? = some xs[i] := List.getElem?_eq_getElem hlt
      rw [hx] at hb
      obtain ⟨τ2, ha, hb⟩ := hb
      obtain ⟨g1, g2⟩ := jg _ hx
      refine .inr ⟨g1, fun H' => i + 1 ≤ xs.length ∧ ∃ acc G', Rel K G' H' ∧ Frame G1 H1 G' H' ∧ Pv (i + 1) acc G', fun H' ⟨l, q⟩ => ⟨xs.length - (i + 1), by omega, rfl, l, q⟩, fun x H3 hy => ?_⟩
      obtain ⟨zx, r3, f3⟩ := g2 x H3 hy
      have kk : Keeps H H3 := ((f1.keeps rl.1).trans (f'.keeps r1.1)).trans (f3.keeps rl')
      refine asg_run tg _ x (wipeD τ vs) τ2 (wipe σ vs) _ ha zx (wipe_rep (rs.mono kk) vs) fun σ2 rs2 df => ⟨wipe_diff df hv, τ2, G', _, rs2, relX0 r3, hb, fun b G4 H4 r4 f4 p4 => ?_⟩
      cases b with
      | false =>
        dsimp only at p4 ⊢
        rw [if_neg (by decide)] at p4 ⊢
        exact ⟨hlt, acc, G4, r4.1, f'.trans (f3.trans f4), p4⟩
      | true =>
        dsimp only at p4 ⊢
        rw [if_pos rfl] at p4 ⊢
        refine ⟨τ2, G4, _, rs2.mono (f4.keeps r3), relX0 r4.1, p4, fun y G5 v H5 zy r5 f5 p5 => ⟨τ2, G5, _, (rs2.mono (f4.keeps r3)).mono (f5.keeps r4.1), relX0 r5.1, p5, fun z G6 u H6 zz r6 f6 ⟨kk, hk, h6, hl, p6⟩ => ?_⟩⟩
        obtain ⟨us, hus, ru⟩ := r6.1 _ _ h6
        have kw := r6.1.keepsW (u := .dK (putK us kk u)) h6
        have ⟨r7, f7⟩ := r6.1.write (u := .dK (putK us kk u)) (o' := .dK (putD acc kk z)) h6 ⟨_, upd_same, (putD_rep kk zz ru).mono kw⟩
        have hl2 : us.length = acc.length := (Paired.length ru).symm
        exact ⟨us, kk, keyD_rep hk zy, hus, by rw [hl2]; exact hl, hlt, _, _, r7, f'.trans (f3.trans (f4.trans (f5.trans (f6.trans f7)))), p6⟩
    · have hx : xs[i]? = none := List.getElem?_eq_none (by omega)
      rw [hx] at hb
      exact .inl ⟨jst (by omega), k _ _ _ _ (rep_ref.mpr rfl) (r1.to rl' f') (f1.trans f') hb⟩⟩
end
end DL
end
section
set_option Elab.async false
set_option linter.all false
set_option maxRecDepth 100000
set_option autoImplicit false
namespace DL
open PySem PySem.Spec PyProof.Rows L2
/-! ### shapes of the text -/
def notStar : Expr → Bool
  | .Starred _ _ => false
  | _ => true
theorem star_cons {e : Expr} {es : List Expr} {env : Env} (h : notStar e = true) : starEach (e :: es) env = (false, eval e env) :: starEach es env := by
  cases e <;> first | rfl | cases h
theorem star_all {pos : Pos} {env : Env} : ∀ {es : List Expr}, es.all notStar = true → (backTo pos (starEach es env)).any (·.1) = false
  | [], _ => rfl
  | e :: es, h => by
    rw [List.all_cons, Bool.and_eq_true] at h
    rw [star_cons h.1]
    show (false || (backTo pos (starEach es env)).any (·.1)) = false
    rw [star_all h.2]; rfl
theorem star_none {pos : Pos} {env : Env} : ∀ {es : List Expr}, es.all notStar = true → (backTo pos (starEach es env)).all (fun x => !x.1) = true
  | [], _ => rfl
  | e :: es, h => by
    rw [List.all_cons, Bool.and_eq_true] at h
    rw [star_cons h.1]
    show (true && (backTo pos (starEach es env)).all (fun x => !x.1)) = true
    rw [star_none h.2]; rfl
def notSuper : Expr → Bool
  | .Call _ _ _ _ => false
  | _ => true
theorem base_of {o : Expr} {m : Str} {env : Env} {whole : Sem Value} (h : notSuper o = true) : attributeBase o m env whole = whole := by
  cases o <;> first | rfl | cases h
def plainT : Expr → Bool
  | .UnaryOp .Not _ _ | .BoolOp _ _ _ | .IfExp _ _ _ _ | .Compare _ _ _ _ => false
  | _ => true
theorem true_of {e : Expr} {env : Env} {whole : Sem Value} (h : plainT e = true) : isTrue e env whole = (do let v ← whole; standAt e.pos; holding [v] (truthy v)) := by
  cases e with
  | UnaryOp op x pos => cases op <;> first | rfl | cases h
  | BoolOp op x pos => cases h
  | IfExp a b c pos => cases h
  | Compare a b c pos => cases h
  | _ => rfl
def notSlice : Expr → Bool
  | .Slice _ _ _ _ => false
  | _ => true
theorem ix_of {b : Expr} (h : notSlice b = true) : PlainIx b := fun o i => by
  cases b <;> first | rfl | cases h
def notComp : Expr → Bool
  | .ListComp _ _ _ _ | .SetComp _ _ _ _ | .DictComp _ _ _ _ _ => false
  | _ => true
theorem sw_of {e : Expr} {t : Option Expr} {l : Nat} {env : Env} (h : notComp e = true) : swapsWith e t l env = pure false := by
  cases e <;> first | rfl | cases h
def notSetD : Expr → Bool
  | .Set _ _ _ => false
  | _ => true
theorem fold_of {e : Expr} {env : Env} {x : Value} (h : notSetD e = true) : foldedSetIterable e env x = pure x := by
  cases e <;> first | rfl | cases h
theorem behind_of {op : CmpOp} {e : Expr} (h : notSetD e = true) : behindInMarks op e = false := by
  cases e <;> first | rfl | cases h
theorem last_of {o1 o2 : CmpOp} {b c : Expr} (h : notSetD c = true) : lastMarks [o1, o2] [b, c] = false := behind_of h
/-- the stores stay in their order: not two, three plain local names against as many values -/
def noSwap (sc : Scope) : Expr → Expr → Bool
  | .Tuple ts _ _, .Tuple vs _ _ => (!(ts.length == 2 || ts.length == 3) || vs.length != ts.length) || (!(vs.any fun | .Starred .. => true | _ => false) && ts.any fun | .Name id _ => sc.names.lookup id != some .local | _ => true)
  | .List _ _, _ => false
  | _, _ => true
theorem filterMap_lt {α β : Type} (f : α → Option β) : ∀ (l : List α), (l.filterMap f).length ≤ l.length ∧ ((∃ x ∈ l, f x = none) → (l.filterMap f).length < l.length)
  | [] => ⟨Nat.le_refl _, fun ⟨x, h, _⟩ => by cases h⟩
  | x :: l => by
    obtain ⟨h1, h2⟩ := filterMap_lt f l
    cases e : f x with
    | none =>
      rw [List.filterMap_cons_none e]
      exact ⟨by simp only [List.length_cons]; omega, fun _ => by simp only [List.length_cons]; omega⟩
    | some y =>
      rw [List.filterMap_cons_some e]
      refine ⟨by simp only [List.length_cons]; omega, fun ⟨z, hz, q⟩ => ?_⟩
      rcases List.mem_cons.mp hz with r | r
      · rw [r, e] at q; cases q
      · have := h2 ⟨z, r, q⟩; simp only [List.length_cons]; omega
theorem swn_of {t e : Expr} {env : Env} (h : noSwap env.scope t e = true) : swappedStores [t] e env = pure none := by
  unfold swappedStores
  cases t with
  | Tuple ts k p =>
    cases e with
    | Tuple vs k2 p2 =>
      have h' : ((!(ts.length == 2 || ts.length == 3) || vs.length != ts.length) || (!(vs.any fun | .Starred .. => true | _ => false) && ts.any fun | .Name id _ => env.scope.names.lookup id != some .local | _ => true)) = true := h
      dsimp only
      cases h1 : (!(ts.length == 2 || ts.length == 3) || vs.length != ts.length) with
      | true => rw [Bool.true_or]; rfl
      | false =>
        rw [h1, Bool.false_or, Bool.and_eq_true] at h'
        obtain ⟨h2, h3⟩ := h'
        split
        · rfl
        split
        · rfl
        split
        · rfl
        · rename_i hn
          exfalso
          apply hn
          rw [Bool.or_eq_true]
          left
          rw [bne_iff_ne]
          refine Nat.ne_of_lt ((filterMap_lt _ ts).2 ?_)
          obtain ⟨x, hx, q⟩ := List.any_eq_true.mp h3
          refine ⟨x, hx, ?_⟩
          cases x with
          | Name id pos =>
            have q' : (env.kindOf id == some NameKind.local) = false := by
              have h7 : (env.kindOf id != some .local) = true := q
              unfold bne at h7
              simpa only [Bool.not_eq_true'] using h7
            dsimp only
            rw [q', Bool.false_and]
            rfl
          | _ => rfl
    | _ => rfl
  | List ts p => cases h
  | _ => cases e <;> rfl
theorem meth_eq {o : Expr} {m : Str} {apos pos : Pos} {env : Env} {es : List Expr} (h : notSuper o = true) (hs : es.all notStar = true) (hl : es.length < 30) (hp : (apos.endLine == pos.line) = true) :
    eval (.Call (.Attribute o m apos) es [] pos) env = (do
      let ov ← eval o env
      standAt apos.atName
      let (f, first) ← holding [ov] (getMethod ov m (do return (← importBound o env).getD true))
      callWith pos f first (backTo pos (starEach es env)) (backToKw pos (keywordEach [] env))) := by
  show (do
    let ov ← attributeBase o m env (eval o env)
    standAt apos.atName
    methodCall o m apos pos env ov (es.length + ([] : List Keyword).length) (backTo pos (starEach es env)) (backToKw pos (keywordEach [] env))) = _
  rw [base_of h]
  have hf : methodCallForm (es.length + ([] : List Keyword).length) (backTo pos (starEach es env)) (backToKw pos (keywordEach [] env)) = true := by
    unfold methodCallForm
    rw [star_none hs]
    simp [keywordEach, backToKw, hl]
  unfold methodCall
  rw [hf]
  unfold methodCallPos calleeOf
  simp only [hp, Bool.not_true, Bool.false_or, if_true]
  rfl
end DL
end
section
set_option Elab.async false
set_option linter.all false
set_option maxRecDepth 100000
set_option autoImplicit false
namespace DL
open PySem PySem.Spec PyProof.Rows L2
section
variable {X : Cx} {ξ : XP} {K : PySem.W.Frag}
/-! ### calls -/
/-- what a def wants: the arguments, the data's heap, what is wanted of the value, of an exception -/
abbrev DSp := List DV → DH → DK → DXK → Prop
def spD (K : PySem.W.Frag) (n : Nat) (S : DSp) : Sp := fun vs H Q E => ∃ (ds : List DV) (G : DH) (P : DK) (EX : DXK), RepL K H ds vs ∧ Rel K G H ∧ ds.length = n ∧ S ds G P EX ∧
  (∀ d G' v H', Rep K H' d v → Rel K G' H' → Frame G H G' H' → P d G' → Q v H') ∧ XR K ⟨EX, E⟩ G H
def dCall (n : Nat) (S : DSp) (EX : DXK) (t : DTA) : DTE := fun τ G P => t τ G fun ds G1 => ds.length = n ∧ S ds G1 P EX
theorem lift_call {n : Nat} {S : DSp} (t : DTA) : ∀ σ H Q, liftE K ξ (dCall n S ξ.EX t) σ H Q → tCall (spD K n S) [] ξ.Ex (liftA K ξ t) σ H Q :=
  fun σ H Q ⟨τ, G, P, rs, rl, p, k⟩ => ⟨τ, G, _, rs, rl, p, fun ds G1 vs H1 z r1 f1 ⟨hl, p1⟩ => by
    dsimp only
    rw [List.append_nil]
    exact ⟨ds, G1, P, ξ.EX, z, r1.1, hl, p1, fun d G' v H' z2 r2 f2 p2 => k d G' v H' z2 (r1.to r2 f2) (f1.trans f2) p2, r1.2⟩⟩
theorem lift_callK {n : Nat} {S : DSp} (t : DTA) (g : {α : Type} → List α → List α) (hg : ∀ {H : Hp} {ds : List DV} {vs : List V}, RepL K H ds vs → RepL K H (g ds) (g vs)) : ∀ σ H Q, liftE K ξ (fun τ G P => t τ G fun ds G1 => (g ds).length = n ∧ S (g ds) G1 P ξ.EX) σ H Q → (fun σ H Q => liftA K ξ t σ H fun zs H2 => spD K n S (g zs) H2 Q ξ.Ex : TE) σ H Q :=
  fun σ H Q ⟨τ, G, P, rs, rl, p, k⟩ => ⟨τ, G, _, rs, rl, p, fun ds G1 vs H1 z r1 f1 ⟨hl, p1⟩ =>
    ⟨g ds, G1, P, ξ.EX, hg z, r1.1, hl, p1, fun d G' v H' z2 r2 f2 p2 => k d G' v H' z2 (r1.to r2 f2) (f1.trans f2) p2, r1.2⟩⟩
def dOwn (c m : String) (n : Nat) (S : DSp) (EX : DXK) (to : DTE) (t : DTA) : DTE := fun τ G P => to τ G fun x G1 => ∃ a fs, x = .ref a ∧ G1 a = some (.ins c fs) ∧ fs.lookup m = none ∧ t τ G1 fun ds G2 => (x :: ds).length = n ∧ S (x :: ds) G2 P EX
theorem lift_own {c m : String} {n : Nat} {S : DSp} (to : DTE) (t : DTA) : ∀ σ H Q, liftE K ξ (dOwn c m n S ξ.EX to t) σ H Q → tMeth (He.ga K c) (Str.ofString m) (spD K n S) [] ξ.Ex (liftE K ξ to) (liftA K ξ t) σ H Q :=
  fun σ H Q ⟨τ, G, P, rs, rl, p, k⟩ => ⟨τ, G, _, rs, rl, p, fun x G1 v H1 z r1 f1 ⟨a, fs, e, g, l, p1⟩ => by
    subst e
    obtain ⟨dx, gs, hh, rf⟩ := r1.1 _ _ g
    refine ⟨a, dx, gs, rep_ref.mp z, hh, ?_, τ, G1, _, rs.mono (f1.keeps rl.1), r1, p1, fun ds G2 vs H2 zs r2 f2 ⟨hl, p2⟩ => ?_⟩
    · rcases lookF_rep m rf with ⟨_, q⟩ | ⟨d', w, q1, _, _⟩
      · exact q
      · rw [l] at q1; cases q1
    · dsimp only
      rw [List.append_nil]
      exact ⟨_, G2, P, ξ.EX, repL_cons.mpr ⟨v, vs, rfl, z.mono (f2.keeps r1.1), zs⟩, r2.1, hl, p2, fun d G' v H' z2 r3 f3 p3 => k d G' v H' z2 (r2.to r3 f3) (f1.trans (f2.trans f3)) p3, r2.2⟩⟩
def dMk (c : String) (n : Nat) (S : DSp) (EX : DXK) (t : DTA) : DTE := fun τ G P => t τ G fun ds G1 => ∀ a, G1 a = none → (.ref a :: ds : List DV).length = n ∧ S (.ref a :: ds) (updD G1 a (.ins c [])) (fun v G2 => v = .non ∧ P (.ref a) G2) EX
theorem lift_mk {c : String} {n : Nat} {S : DSp} (t : DTA) : ∀ σ H Q, liftE K ξ (dMk c n S ξ.EX t) σ H Q → tMake (He.ga K c) (spD K n S) [] ξ.Ex (liftA K ξ t) σ H Q :=
  fun σ H Q ⟨τ, G, P, rs, rl, p, k⟩ => ⟨τ, G, _, rs, rl, p, fun ds G1 vs H1 z r1 f1 p1 x dx hx hd hne => by
    rw [List.append_nil]
    obtain ⟨hl, p1⟩ := p1 x (r1.1.fresh hx)
    have ⟨r2, f2⟩ := r1.1.aside (u := .own x) hd
    have hx2 : upd H1 dx (.own x) x = none := by rw [upd_ne (fun e => hne e.symm)]; exact hx
    have ⟨r3, f3⟩ := r2.new (p := x) (u := .ins (He.ga K c) dx []) (o := .ins c []) hx2 ⟨dx, [], upd_same, .nil⟩
    have f : Frame G1 H1 _ _ := f2.trans f3
    exact ⟨_, _, _, ξ.EX, repL_cons.mpr ⟨.ref x, vs, rfl, rep_ref.mpr rfl, z.mono (f.keeps r1.1)⟩, r3, hl, p1, fun d G' v H' z2 r4 f4 ⟨e, p4⟩ => by
      subst e
      exact ⟨rep_non.mp z2, k _ G' _ H' (rep_ref.mpr rfl) ((r1.to r3 f).to r4 f4) (f1.trans (f.trans f4)) p4⟩, r1.2.mono f⟩⟩
/-! ### isinstance -/
inductive TN where
  | b (n : String) | o (c : String)
  deriving DecidableEq
def tyN (G : DH) : DV → Option TN
  | .non => some (.b "NoneType")
  | .bl _ => some (.b "bool")
  | .int _ => some (.b "int")
  | .str _ => some (.b "str")
  | .tup _ => some (.b "tuple")
  | .lk _ => some (.b "list")
  | .ref a => match G a with
    | some (.lst _) => some (.b "list")
    | some (.dK _) => some (.b "dict")
    | some (.ins c _) => some (.o c)
    | none => none
  | .xt _ => some (.b "tuple")
  | .ty _ => none
  | .fv _ => none
/-- what the written part says of an own class, for isinstance -/
structure ClsI (K : PySem.W.Frag) (c : String) : Prop where
  cl : Cls K (He.ga K c)
  ha : PySem.W.findIn K (.ref (He.ga K c)) "__class__" = some (some (.builtin "object.__class__"))
  hn : PySem.W.specialIn K (.builtin "object.__class__") "__get__" = some (some (.builtin "getset_descriptor.__get__"))
  htk : PySem.W.takesIn K (.builtin "object.__class__") = some true
  hm : PySem.W.mroIn K (He.ga K c) (.type "object") = some true
def TN.v (K : PySem.W.Frag) : TN → Value
  | .b n => .type n
  | .o c => .ref (He.ga K c)
theorem tyN_rep {G : DH} {H : Hp} {d : DV} {v : V} {t : TN} (rl : Rel K G H) (hc : ∀ c, t = .o c → ClsI K c) (h : tyN G d = some t) (z : Rep K H d v) : TyX K H v (t.v K) := by
  cases d with
  | non => cases h; rw [rep_non.mp z]; exact .base .non
  | bl b => cases h; rw [rep_bl.mp z]; exact .base (.bl b)
  | int i => cases h; rw [rep_int.mp z]; exact .base (.int i)
  | str s => cases h; rw [rep_str.mp z]; exact .base (.str s)
  | ty n => cases h
  | fv L => cases h
  | xt xs =>
    cases h
    obtain ⟨a, vs, rfl, ⟨o, q, _⟩, _⟩ := rep_xt.mp z
    exact .fTuple q
  | tup xs =>
    cases h
    obtain ⟨a, vs, rfl, q, _⟩ := rep_tup.mp z
    rcases q with (q | ⟨o, q⟩) | ⟨o, its, n, q, hc, _⟩
    · exact .base (.tup q)
    · exact .fTuple q
    · exact .kTuple q hc
  | lk xs =>
    cases h
    obtain ⟨a, vs, rfl, q, _⟩ := rep_lk.mp z
    rcases q with ⟨o, q⟩ | (q | ⟨o, q⟩) | ⟨o, its, n, q, hc, _⟩
    · exact .base (.frz q)
    · cases q
    · cases q
    · exact .kList q hc
  | ref a =>
    have e := rep_ref.mp z
    subst e
    unfold tyN at h
    cases g : G a with
    | none => simp only [g] at h; cases h
    | some o =>
      cases o with
      | lst xs =>
        simp only [g] at h; cases h
        obtain ⟨vs, q, _⟩ := rl _ _ g
        exact .base (.lst q)
      | dK kvs =>
        simp only [g] at h; cases h
        obtain ⟨vs, q, _⟩ := rl _ _ g
        exact .base (.dK q)
      | ins c fs =>
        simp only [g] at h; cases h
        obtain ⟨dx, gs, q, _⟩ := rl _ _ g
        obtain ⟨h1, h2, h3, h4, h5⟩ := hc c rfl
        exact .base (.ins q h1 h2 h3 h4 h5)
/-- a class that is asked for -/
def TN.d : TN → V → PySem.W.Frag → Prop
  | .b n, v, _ => v = .ty n
  | .o c, v, K => v = .ref (He.ga K c)
def bltT : List String := ["NoneType", "bool", "int", "str", "tuple", "list", "dict"]
def isaB (t c : String) : Bool := t == c || (t == "bool" && c == "int")
/-- a value of the type t is one of the class c -/
def isa (sub : List (String × String)) : TN → TN → Bool
  | .b t, .b c => isaB t c
  | .o t, .o c => t == c || sub.contains (t, c)
  | _, _ => false
theorem kit_bb : ∀ t ∈ bltT, ∀ c ∈ bltT, kitB t c = some (isaB t c) := by decide +kernel
def dIsi (T : List TN) (sub : List (String × String)) (c : TN) (ta : DTE) : DTE := fun τ G P => ta τ G fun x G1 => ∃ t, tyN G1 x = some t ∧ t ∈ T ∧ P (.bl (isa sub t c)) G1
theorem lift_isi {T : List TN} {sub : List (String × String)} {c : TN} {cv : V} (ta : DTE) (hT : ∀ t ∈ T, (∀ o, t = .o o → ClsI K o) ∧ PySem.W.kitOne K (t.v K) (c.v K) = some (isa sub t c)) (hcv : ClsV cv (c.v K)) :
    ∀ σ H Q, liftE K ξ (dIsi T sub c ta) σ H Q → liftE K ξ ta σ H fun x H1 => rIsi K [x, cv] H1 Q :=
  fun σ H Q ⟨τ, G, P, rs, rl, p, k⟩ => ⟨τ, G, _, rs, rl, p, fun x G1 v H1 z r1 f1 ⟨t, ht, hm, p1⟩ =>
    ⟨v, cv, t.v K, c.v K, _, rfl, hcv, tyN_rep r1.1 (hT t hm).1 ht z, (hT t hm).2, k _ G1 _ H1 (rep_bl.mpr rfl) r1 f1 p1⟩⟩
end
end DL
end
section
set_option Elab.async false
set_option linter.all false
set_option maxRecDepth 100000
set_option autoImplicit false
namespace DL
open PySem PySem.Spec PyProof.Rows L2
section
variable {X : Cx} {ξ : XP} {K : PySem.W.Frag}
/-! tuples whose object is known -/
def dXTup (t : DTA) : DTE := fun τ G P => t τ G fun xs G1 => xs.length ≤ sizeLine ∧ P (.xt xs) G1
theorem lift_xtup (t : DTA) : ∀ σ H Q, liftE K ξ (dXTup t) σ H Q → tXTup (liftA K ξ t) σ H Q := fun σ H Q ⟨τ, G, P, rs, rl, p, k⟩ => ⟨τ, G, _, rs, rl, p, fun xs G1 vs H1 z r1 f1 ⟨hl, p1⟩ => ⟨by rw [z.length]; exact hl, fun q o hq hd =>
  have ⟨r2, f2⟩ := r1.1.aside (u := .frz o (.tup vs)) hq
  k (.xt xs) G1 _ _ (rep_xt.mpr ⟨q, vs, rfl, ⟨o, upd_same, hd⟩, z.mono (f2.keeps r1.1)⟩) (r1.to r2 f2) (f1.trans f2) p1⟩⟩
def fgD : DV → DV
  | .xt xs => .tup xs
  | d => d
theorem fgD_rep {H : Hp} {d : DV} {v : V} (z : Rep K H d v) : Rep K H (fgD d) v := by
  cases d with
  | xt xs => exact rep_forget z
  | _ => exact z
def dFg (te : DTE) : DTE := fun τ G P => te τ G fun x G1 => P (fgD x) G1
theorem lift_fg (te : DTE) : ∀ σ H Q, liftE K ξ (dFg te) σ H Q → liftE K ξ te σ H Q := fun σ H Q ⟨τ, G, P, rs, rl, p, k⟩ => ⟨τ, G, _, rs, rl, p, fun x G1 v H1 z r1 f1 p1 => k _ G1 v H1 (fgD_rep z) r1 f1 p1⟩
/-! dicts of pairs -/
def pairD : DV → Option (Key × DV)
  | .tup [k, v] => (keyD k).map fun q => (q, v)
  | _ => none
def mergeD (kvs more : List (Key × DV)) : List (Key × DV) := more.foldl (fun acc kv => putD acc kv.1 kv.2) kvs
theorem mergeD_rep {H : Hp} : ∀ {more : List (Key × DV)} {ms : List (Key × V)} {kvs : List (Key × DV)} {ks : List (Key × V)}, RepP K H more ms → RepP K H kvs ks → RepP K H (mergeD kvs more) (mergeK ks ms)
  | _, _, _, _, .nil, r => r
  | p :: more, q :: ms, kvs, ks, .cons ⟨e, z⟩ t, r => by
    have h1 : RepP K H (putD kvs p.1 p.2) (putK ks q.1 q.2) := by
      rw [← e]
      exact putD_rep p.1 z r
    show RepP K H (mergeD (putD kvs p.1 p.2) more) (mergeK (putK ks q.1 q.2) ms)
    exact mergeD_rep t h1
theorem pairs_rep {H : Hp} : ∀ {ds : List DV} {vs : List V} {kvs : List (Key × DV)}, RepL K H ds vs → omap pairD ds = some kvs → ∃ (ps : List Addr) (ks : List (Key × V)), vs = ps.map V.ref ∧ Paired (fun p kv => SqT K H p [kV kv.1, kv.2]) ps ks ∧ RepP K H kvs ks
  | [], vs, kvs, r, h => by
    cases h
    exact ⟨[], [], repL_nil.mp r, .nil, .nil⟩
  | d :: ds, vs, kvs, r, h => by
    obtain ⟨v, w, rfl, r1, r2⟩ := repL_cons.mp r
    unfold omap at h
    split at h
    · rename_i kv kvs' e1 e2
      cases h
      obtain ⟨ps, ks, rfl, h1, h2⟩ := pairs_rep r2 e2
      unfold pairD at e1
      split at e1
      · rename_i k v'
        obtain ⟨q, hq, e⟩ := Option.map_eq_some_iff.mp e1
        subst e
        obtain ⟨a, us, rfl, s, r3⟩ := rep_tup.mp r1
        obtain ⟨x, y, rfl, z1, z2⟩ := repL_two.mp r3
        have e5 := keyD_rep hq z1
        subst e5
        exact ⟨a :: ps, (q, y) :: ks, rfl, .cons s h1, .cons ⟨rfl, z2⟩ h2⟩
      · cases e1
    · cases h
def dDict : DRC := fun xs G P => match xs with
  | [.xt ds] => ∃ kvs, omap pairD ds = some kvs ∧ ∀ p, G p = none → P (.ref p) (updD G p (.dK (mergeD [] kvs)))
  | [.ref a] => match G a with
    | some (.lst ds) => ∃ kvs, omap pairD ds = some kvs ∧ ∀ p, G p = none → P (.ref p) (updD G p (.dK (mergeD [] kvs)))
    | some (.dK kvs) => ∀ p, G p = none → P (.ref p) (updD G p (.dK kvs))
    | _ => False
  | _ => False
abbrev rDictAll (K : PySem.W.Frag) : List V → Hp → VK → Prop := fun xs H Q => (∃ (a : Addr) (o : Obj) (ps : List Addr) (kvs : List (Key × V)), xs = [.ref a] ∧ H a = some (.frz o (.tup (ps.map V.ref))) ∧ o.dict = none ∧ Paired (fun p kv => SqT K H p [kV kv.1, kv.2]) ps kvs ∧
    ∀ p, H p = none → Q (.ref p) (upd H p (.dK (mergeK [] kvs)))) ∨ ((∃ (a : Addr) (ps : List Addr) (kvs : List (Key × V)), xs = [.ref a] ∧ SqL K H a (ps.map V.ref) ∧ Paired (fun p kv => SqT K H p [kV kv.1, kv.2]) ps kvs ∧
    ∀ p, H p = none → Q (.ref p) (upd H p (.dK (mergeK [] kvs)))) ∨ ∃ (a : Addr) (kvs : List (Key × V)), xs = [.ref a] ∧ Rd H a (.dK kvs) ∧ ∀ p, H p = none → Q (.ref p) (upd H p (.dK kvs)))
theorem cr_dictAll (hc : X.calm = true) : CallR X (.type "dict") (rDictAll X.K) := (call_dictX hc).or ((call_dictP hc).or call_dictD)
theorem dc_dict : DCal K (rDictAll K) dDict := fun xs G P vs H Q zs rl p k => by
  unfold dDict at p
  split at p
  · obtain ⟨kvs, hk, p⟩ := p
    obtain ⟨v, rfl, z⟩ := repL_one.mp zs
    obtain ⟨a, us, rfl, ⟨o, ho, hd⟩, r⟩ := rep_xt.mp z
    obtain ⟨ps, ks, rfl, h1, h2⟩ := pairs_rep r hk
    refine .inl ⟨a, o, ps, ks, rfl, ho, hd, h1, fun l hl => ?_⟩
    have ⟨r2, f2⟩ := rl.new (p := l) (u := .dK (mergeK [] ks)) (o := .dK (mergeD [] kvs)) hl ⟨_, upd_same, (mergeD_rep h2 .nil).mono (keeps_new hl)⟩
    exact k _ _ _ _ (rep_ref.mpr rfl) r2 f2 (p l (rl.fresh hl))
  · rename_i a
    obtain ⟨v, rfl, z⟩ := repL_one.mp zs
    rw [rep_ref.mp z]
    split at p
    · rename_i ds g
      obtain ⟨kvs, hk, p⟩ := p
      obtain ⟨us, hv, r⟩ := rl _ _ g
      obtain ⟨ps, ks, rfl, h1, h2⟩ := pairs_rep r hk
      refine .inr (.inl ⟨a, ps, ks, rfl, SqL.of hv, h1, fun l hl => ?_⟩)
      have ⟨r2, f2⟩ := rl.new (p := l) (u := .dK (mergeK [] ks)) (o := .dK (mergeD [] kvs)) hl ⟨_, upd_same, (mergeD_rep h2 .nil).mono (keeps_new hl)⟩
      exact k _ _ _ _ (rep_ref.mpr rfl) r2 f2 (p l (rl.fresh hl))
    · rename_i kvs g
      obtain ⟨ks, hv, r⟩ := rl _ _ g
      refine .inr (.inr ⟨a, ks, rfl, .inl hv, fun l hl => ?_⟩)
      have ⟨r2, f2⟩ := rl.new (p := l) (u := .dK ks) (o := .dK kvs) hl ⟨_, upd_same, r.mono (keeps_new hl)⟩
      exact k _ _ _ _ (rep_ref.mpr rfl) r2 f2 (p l (rl.fresh hl))
    · exact p.elim
  · exact p.elim
/-! displays of dicts -/
def dNewK : DTE := fun _ G P => ∀ p, G p = none → P (.ref p) (updD G p (.dK []))
theorem lift_newK : ∀ σ H Q, liftE K ξ dNewK σ H Q → tDNewK σ H Q := fun σ H Q ⟨τ, G, P, rs, rl, p, k⟩ l hl => by
  have ⟨r2, f2⟩ := rl.1.new (p := l) (u := .dK []) (o := .dK []) hl ⟨_, upd_same, .nil⟩
  exact k _ _ _ _ (rep_ref.mpr rfl) (rl.to r2 f2) f2 (p l (rl.1.fresh hl))
abbrev DTP := DSt → DH → (List (DV × DV) → DH → Prop) → Prop
def dPairs : List (DTE × DTE) → DTP
  | [], _, G, P => P [] G
  | (tk, tv) :: r, τ, G, P => tk τ G fun x G1 => tv τ G1 fun y G2 => dPairs r τ G2 fun ps G3 => P ((x, y) :: ps) G3
def kvD : DV × DV → Option (Key × DV) := fun p => (keyD p.1).map fun k => (k, p.2)
def dDisp (ts : List (DTE × DTE)) : DTE := fun τ G P => ∀ p, G p = none → dPairs ts τ (updD G p (.dK [])) fun ps G2 => G2 p = some (.dK []) ∧ ∃ kvs, omap kvD ps = some kvs ∧ kvs.length ≤ 15 ∧ P (.ref p) (updD G2 p (.dK (mergeD [] kvs)))
theorem pairs_lift : ∀ (ts : List (DTE × DTE)) (τ : DSt) (G : DH) (P : List (DV × DV) → DH → Prop) (σ : L2.St) (H : Hp) (Q : List (V × V) → Hp → Prop), RelS K H τ σ → RelX K ξ G H → dPairs ts τ G P →
    (∀ ps G' qs H', Paired (fun (a : DV × DV) (b : V × V) => Rep K H' a.1 b.1 ∧ Rep K H' a.2 b.2) ps qs → RelX K ξ G' H' → Frame G H G' H' → P ps G' → Q qs H') → tPairs (ts.map fun t => (liftE K ξ t.1, liftE K ξ t.2)) σ H Q
  | [], τ, G, P, σ, H, Q, rs, rl, p, k => k [] G [] H .nil rl (Frame.refl _ _) p
  | (tk, tv) :: r, τ, G, P, σ, H, Q, rs, rl, p, k => ⟨τ, G, _, rs, rl, p, fun x G1 v H1 z r1 f1 p1 => ⟨τ, G1, _, rs.mono (f1.keeps rl.1), r1, p1, fun y G2 u H2 z2 r2 f2 p2 =>
      pairs_lift r τ G2 _ σ H2 _ ((rs.mono (f1.keeps rl.1)).mono (f2.keeps r1.1)) r2 p2 fun ps G3 qs H3 h r3 f3 p3 =>
        k ((x, y) :: ps) G3 ((v, u) :: qs) H3 (.cons ⟨(z.mono (f2.keeps r1.1)).mono (f3.keeps r2.1), z2.mono (f3.keeps r2.1)⟩ h) r3 (f1.trans (f2.trans f3)) p3⟩⟩
theorem kvs_rep {H : Hp} : ∀ {ps : List (DV × DV)} {qs : List (V × V)} {kvs : List (Key × DV)}, Paired (fun (a : DV × DV) (b : V × V) => Rep K H a.1 b.1 ∧ Rep K H a.2 b.2) ps qs → omap kvD ps = some kvs → ∃ ks : List (Key × V), qs = ks.map (fun kv => (kV kv.1, kv.2)) ∧ ks.length = kvs.length ∧ RepP K H kvs ks
  | [], _, kvs, .nil, h => by cases h; exact ⟨[], rfl, rfl, .nil⟩
  | p :: ps, q :: qs, kvs, .cons ⟨z1, z2⟩ t, h => by
    unfold omap at h
    split at h
    · rename_i kv kvs' e1 e2
      cases h
      obtain ⟨ks, rfl, hl, h2⟩ := kvs_rep t e2
      unfold kvD at e1
      obtain ⟨k, hk, e⟩ := Option.map_eq_some_iff.mp e1
      subst e
      have e5 := keyD_rep hk z1
      refine ⟨(k, q.2) :: ks, ?_, by simp [hl], .cons ⟨rfl, z2⟩ h2⟩
      rw [List.map_cons, ← e5]
    · cases h
theorem lift_disp (ts : List (DTE × DTE)) : ∀ σ H Q, liftE K ξ (dDisp ts) σ H Q → tDisp (ts.map fun t => (liftE K ξ t.1, liftE K ξ t.2)) σ H Q := fun σ H Q ⟨τ, G, P, rs, rl, p, k⟩ l hl => by
  have ⟨r2, f2⟩ := rl.1.new (p := l) (u := .dK []) (o := .dK []) hl ⟨_, upd_same, .nil⟩
  refine pairs_lift ts τ _ _ σ _ _ (rs.mono (f2.keeps rl.1)) (rl.to r2 f2) (p l (rl.1.fresh hl)) fun ps G3 qs H3 h r3 f3 ⟨hD, kvs, hk, h15, p3⟩ => ?_
  obtain ⟨ks, rfl, hlen, h2⟩ := kvs_rep h hk
  obtain ⟨us, hv, ru⟩ := r3.1 _ _ hD
  cases ru
  have kw := r3.1.keepsW (u := .dK (mergeK [] ks)) hD
  have ⟨r4, f4⟩ := r3.1.write (u := .dK (mergeK [] ks)) (o' := .dK (mergeD [] kvs)) hD ⟨_, upd_same, (mergeD_rep h2 .nil).mono kw⟩
  exact ⟨hv, ks, rfl, by rw [hlen]; exact h15, k _ _ _ _ (rep_ref.mpr rfl) (r3.to r4 f4) (f2.trans (f3.trans f4)) p3⟩
theorem pps_of {pos : Pos} : ∀ {ks vs : List Expr} {tks tvs : List DTE}, Paired (fun t e => DE X ξ e t) tks ks → Paired (fun t e => DE X ξ e t) tvs vs → ks.length = vs.length → PPs X pos (ks.map some) vs ((tks.zip tvs).map fun t => (liftE X.K ξ t.1, liftE X.K ξ t.2))
  | [], [], _, _, .nil, .nil, _ => pps_nil
  | k :: ks, v :: vs, _, _, .cons h1 t1, .cons h2 t2, hl => pps_cons h1 h2 (pps_of t1 t2 (by simpa using hl))
  | [], _ :: _, _, _, _, _, hl => by cases hl
  | _ :: _, [], _, _, _, _, hl => by cases hl
/-! o[i], name = (x, y) -/
def dTset (to ti : DTE) (n : Nat) (ta : DTA) : DTS := fun E τ G => ta τ G fun ds G1 => ∃ x y, ds = [x, y] ∧ to τ G1 fun o G2 => ti τ G2 fun i G3 => dSet o i x G3 fun G4 => E.nx (τ.set n (some y)) G4
theorem lift_tset (to ti : DTE) (n : Nat) (ta : DTA) : ∀ D σ H, liftS K ξ (dTset to ti n ta) D σ H → tAsg (tTup (liftA K ξ ta)) (gTup K 2 (gCons (gSub (liftE K ξ to) (liftE K ξ ti) rSetAll) (gCons (gName n) gNil))) D σ H :=
  fun D σ H ⟨τ, G, E, rs, rl, p, er⟩ => ⟨τ, G, _, rs, rl, p, fun ds G1 vs H1 z r1 f1 ⟨x, y, e, p1⟩ => by
    subst e
    obtain ⟨v, u, rfl, z1, z2⟩ := repL_two.mp z
    refine ⟨by show 2 ≤ sizeLine; decide, fun T hT => ?_⟩
    have ⟨r2, f2⟩ := r1.1.aside (u := .tup [v, u]) hT
    have r2' := r1.to r2 f2
    have k2 := f2.keeps r1.1
    refine ⟨T, [v, u], rfl, SqT.of upd_same, rfl, v, [u], rfl, τ, G1, _, (rs.mono (f1.keeps rl.1)).mono k2, r2', p1, fun o G2 ov H2 zo r3 f3 p2 => ⟨τ, G2, _, ((rs.mono (f1.keeps rl.1)).mono k2).mono (f3.keeps r2), r3, p2, fun i G3 iv H3 zi r4 f4 p3 => ?_⟩⟩
    have k4 := f4.keeps r3.1
    have k3 := f3.keeps r2
    refine dset_run (zo.mono k4) zi (((z1.mono k2).mono k3).mono k4) r4.1 p3 fun G4 H4 r5 f5 p4 => ⟨u, [], rfl, rfl, ?_⟩
    have k5 := f5.keeps r4.1
    exact er.nx _ G4 _ H4 ((((((rs.mono (f1.keeps rl.1)).mono k2).mono k3).mono k4).mono k5).set n ((((z2.mono k2).mono k3).mono k4).mono k5)) (r4.to r5 f5) (f1.trans (f2.trans (f3.trans (f4.trans f5)))) p4⟩
end
section
variable {X : Cx} {K : PySem.W.Frag} {ξ : XP}
/-! ### lambdas -/
def dLam (L : LF.LamT) : DTE := fun _ G P => P (.fv L) G
theorem lift_lam {L : LF.LamT} : ∀ σ H Q, liftE K ξ (dLam L) σ H Q → LF.tMkLam (LamTab K) L σ H Q := fun σ H Q ⟨τ, G, P, rs, rl, p, k⟩ => ⟨fun P q h => rl.1.tab P q h, fun f c' H1 eN nn T1 f0 f1 c1 => by
  have kk : Keeps H H1 := ⟨fun a xs h => eN _ _ h (fun _ z => by cases z), fun a o u h => eN _ _ h (fun _ z => by cases z), fun a u h => eN _ _ h (fun _ z => by cases z)⟩
  have fr : Frame G H G H1 := fun a o h g n => ⟨eN a o h (fun ps z => by rw [z] at n; exact n), g⟩
  have rr : Rel K G H1 := ⟨fun a o g => (rl.1.rep a o g).mono kk (by rcases rl.1.un g with ⟨_, q⟩ | ⟨_, q⟩ | ⟨_, _, _, q⟩ <;> rw [q, eN _ _ q (fun _ z => by cases z)]), T1⟩
  exact k (.fv L) G (.ref f) H1 (rep_fv.mpr ⟨f, c', rfl, f1, c1⟩) (rl.to rr fr) fr p⟩
abbrev LamL : Type := List (LF.LamT × Nat × Nat)
def dCallF (ls : LamL) (C : Nat → DSp) (EX : DXK) (i : Nat) (t : DTA) : DTE := fun τ G P => ∃ L f n, τ[i]? = some (some (.fv L)) ∧ (L, f, n) ∈ ls ∧ t τ G fun ds G1 => ds.length = n ∧ C f ds G1 P EX
theorem lift_callF {ls : LamL} {C : Nat → DSp} {i : Nat} (t : DTA) : ∀ σ H Q, liftE K ξ (dCallF ls C ξ.EX i t) σ H Q → LF.tCallF i (fun L sp => ∃ f n, (L, f, n) ∈ ls ∧ sp = spD K n (C f)) ξ.Ex (liftA K ξ t) σ H Q :=
  fun σ H Q ⟨τ, G, P, rs, rl, ⟨L, f, n, h1, h2, p⟩, k⟩ => by
    obtain ⟨v, q, z⟩ := rs.get i _ h1
    obtain ⟨a, c, rfl, e1, e2⟩ := rep_fv.mp z
    exact ⟨a, c, L, _, q, ⟨f, n, h2, rfl⟩, e1, τ, G, _, rs, rl, p, fun ds G1 vs H1 z1 r1 f1 ⟨hl, p1⟩ => ⟨(f1.keeps rl.1).lamO e1, (f1.keeps rl.1).codeO e2, ds, G1, P, ξ.EX, z1, r1.1, hl, p1, fun d G' v H' z2 r2 f2 p2 => k d G' v H' z2 (r1.to r2 f2) (f1.trans f2) p2, r1.2⟩⟩
end
end DL
end
section
set_option Elab.async false
set_option linter.all false
set_option maxRecDepth 100000
set_option autoImplicit false
namespace DL
open PySem PySem.Spec PyProof.Rows L2
/-! ### how arguments are bound -/
theorem zip_lookup : ∀ {ps : List Str} {us : List Value}, ps.Nodup → us.length = ps.length → ps.filterMap (fun n => ((ps.zip us).lookup n).map (n, ·)) = ps.zip us
  | [], [], _, _ => rfl
  | p :: ps, u :: us, h, hl => by
    obtain ⟨h1, h2⟩ := List.nodup_cons.mp h
    have ih := zip_lookup (ps := ps) (us := us) h2 (by simpa using hl)
    rw [List.zip_cons_cons, List.filterMap_cons]
    simp only [List.lookup_cons, beq_self_eq_true, Option.map_some]
    congr 1
    rw [← ih]
    have : ∀ (l : List Str), (∀ x ∈ l, x ∈ ps) → l.filterMap (fun n => (match n == p with | true => some u | false => List.lookup n (ps.zip us)).map (n, ·)) = l.filterMap (fun n => ((ps.zip us).lookup n).map (n, ·)) := fun l => by
      induction l with
      | nil => intro _; rfl
      | cons x l ihl =>
        intro hx
        have hne : (x == p) = false := by
          have hm := hx x List.mem_cons_self
          simpa using fun (e : x = p) => h1 (by rw [← e]; exact hm)
        rw [List.filterMap_cons, List.filterMap_cons, hne, ihl fun y hy => hx y (List.mem_cons_of_mem _ hy)]
    rw [ih]
    exact (this ps fun _ h => h).trans ih
  | [], _ :: _, _, hl => by cases hl
  | _ :: _, [], _, hl => by cases hl
theorem zip_some {ps : List Str} {us : List Value} (hl : us.length = ps.length) : ∀ n ∈ ps, ((ps.zip us).lookup n).isSome = true := by
  intro n hn
  induction ps generalizing us with
  | nil => cases hn
  | cons p ps ih =>
    cases us with
    | nil => cases hl
    | cons u us =>
      rw [List.zip_cons_cons, List.lookup_cons]
      cases e : (n == p) with
      | true => rfl
      | false =>
        rcases List.mem_cons.mp hn with q | q
        · rw [q, beq_self_eq_true] at e; cases e
        · exact ih (by simpa using hl) q
def plainP (p : Arguments) (ps : List Str) : Bool := p.posonlyargs.isEmpty && (decide (p.args.map (·.arg) = ps) && (p.vararg.isNone && (p.kwonlyargs.isEmpty && (p.kwarg.isNone && decide ps.Nodup))))
theorem bind_plain {fd : FuncData} {ps : List Str} {us : List Value} (h : plainP fd.params ps = true) (hd : fd.defaults = .none) (hl : us.length = ps.length) : bindArgs fd ⟨us, []⟩ = pure (ps.zip us) := by
  unfold plainP at h
  simp only [Bool.and_eq_true, List.isEmpty_iff, decide_eq_true_eq, Option.isNone_iff_eq_none] at h
  obtain ⟨h1, h2, h3, h4, h5, h6⟩ := h
  have hm : ps.filter (fun n => ((ps.zip us).lookup n).isNone) = [] := by
    rw [List.filter_eq_nil_iff]
    intro n hn
    have := zip_some hl n hn
    cases q : (ps.zip us).lookup n with
    | none => rw [q] at this; cases this
    | some v => simp
  unfold bindArgs
  simp only [h1, h2, h3, h4, h5, hd, List.map_nil, List.nil_append, List.append_nil]
  have hs : seqItems? (Value.none) = pure none := rfl
  have pb : ∀ {α β : Type} (a : α) (f : α → Sem β), (pure a >>= f) = f a := fun _ _ => rfl
  have hgt : decide (us.length > ps.length) = false := decide_eq_false (by omega)
  simp only [hs, List.forIn_nil, pb, Option.getD_none, List.drop_nil, List.length_nil, Nat.sub_zero, List.take_length, List.drop_length, List.zip_nil_right, List.zip_nil_left, hm, hgt, List.isEmpty_nil, Bool.not_true, Bool.false_and, Bool.false_eq_true, if_false, zip_lookup h6 hl]
theorem lookup_app {α : Type} (n : Str) : ∀ (l m : List (Str × α)), (l ++ m).lookup n = (l.lookup n).or (m.lookup n)
  | [], m => by simp
  | (k, v) :: l, m => by
    rw [List.cons_append, List.lookup_cons, List.lookup_cons]
    cases n == k with
    | true => rfl
    | false => exact lookup_app n l m
theorem zip_none {α : Type} {n : Str} : ∀ {ps : List Str} {us : List α}, n ∉ ps → (ps.zip us).lookup n = none
  | [], _, _ => by simp
  | _ :: _, [], _ => by simp
  | p :: ps, u :: us, h => by
    rw [List.zip_cons_cons, List.lookup_cons]
    have h1 : (n == p) = false := by
      cases e : (n == p) with
      | false => rfl
      | true => exact absurd (eq_of_beq e ▸ List.mem_cons_self) h
    rw [h1]
    exact zip_none fun q => h (List.mem_cons_of_mem _ q)
theorem zip_someA {α : Type} {n : Str} : ∀ {ps : List Str} {us : List α}, us.length = ps.length → n ∈ ps → ∃ v, (ps.zip us).lookup n = some v
  | [], _, _, h => by cases h
  | _ :: _, [], hl, _ => by cases hl
  | p :: ps, u :: us, hl, h => by
    rw [List.zip_cons_cons, List.lookup_cons]
    cases e : (n == p) with
    | true => exact ⟨u, rfl⟩
    | false =>
      rcases List.mem_cons.mp h with q | q
      · rw [q, beq_self_eq_true] at e; cases e
      · exact zip_someA (by simpa using hl) q
/-- the keywords' values in the parameters' order -/
def kwR {α : Type} (rest ks : List Str) (ws : List α) : List α := rest.filterMap fun n => (ks.zip ws).lookup n
theorem kwR_len {α : Type} {ks : List Str} {ws : List α} (hl : ws.length = ks.length) : ∀ {rest : List Str}, (∀ n ∈ rest, n ∈ ks) → (kwR rest ks ws).length = rest.length
  | [], _ => rfl
  | n :: rest, h => by
    unfold kwR
    obtain ⟨v, e⟩ := zip_someA hl (h n List.mem_cons_self)
    rw [List.filterMap_cons, e]
    have := kwR_len hl (rest := rest) fun m hm => h m (List.mem_cons_of_mem _ hm)
    unfold kwR at this
    simp [this]
theorem kw_binds {ks : List Str} {ws : List Value} (hl : ws.length = ks.length) : ∀ {rest : List Str}, (∀ n ∈ rest, n ∈ ks) → rest.filterMap (fun n => ((ks.zip ws).lookup n).map (n, ·)) = rest.zip (kwR rest ks ws)
  | [], _ => rfl
  | n :: rest, h => by
    unfold kwR
    obtain ⟨v, e⟩ := zip_someA hl (h n List.mem_cons_self)
    have ih := kw_binds hl (rest := rest) fun m hm => h m (List.mem_cons_of_mem _ hm)
    unfold kwR at ih
    rw [List.filterMap_cons, List.filterMap_cons, e]
    simp [ih]
theorem List.filterMap_congr' {α β : Type} {f g : α → Option β} : ∀ {l : List α}, (∀ x ∈ l, f x = g x) → l.filterMap f = l.filterMap g
  | [], _ => rfl
  | x :: l, h => by
    rw [List.filterMap_cons, List.filterMap_cons, h x List.mem_cons_self, List.filterMap_congr' fun y hy => h y (List.mem_cons_of_mem _ hy)]
theorem for_kw (f : Str × Value → (List (Str × Value) × List (Str × Value)) → Sem (ForInStep (List (Str × Value) × List (Str × Value)))) (N : List Str) (hf : ∀ k v sl ex, k ∈ N → sl.lookup k = none → f (k, v) (sl, ex) = pure (.yield (sl ++ [(k, v)], ex))) :
    ∀ (l sl : List (Str × Value)), (l.map (·.1)).Nodup → (∀ k ∈ l.map (·.1), k ∈ N ∧ sl.lookup k = none) → forIn l (sl, ([] : List (Str × Value))) f = pure (sl ++ l, [])
  | [], sl, _, _ => by rw [List.append_nil]; rfl
  | (k, v) :: l, sl, hn, h => by
    have h0 := h k (by simp)
    rw [List.map_cons] at hn
    obtain ⟨n1, n2⟩ := List.nodup_cons.mp hn
    rw [List.forIn_cons, hf k v sl [] h0.1 h0.2]
    show forIn l (sl ++ [(k, v)], ([] : List (Str × Value))) f = _
    rw [for_kw f N hf l (sl ++ [(k, v)]) n2 (fun m hm => ⟨(h m (by rw [List.map_cons]; exact List.mem_cons_of_mem _ hm)).1, by
      rw [lookup_app, (h m (by rw [List.map_cons]; exact List.mem_cons_of_mem _ hm)).2, List.lookup_cons]
      have : (m == k) = false := by
        cases e : (m == k) with
        | false => rfl
        | true => exact absurd (eq_of_beq e ▸ hm) n1
      rw [this]; rfl⟩), List.append_assoc]
    rfl
theorem bind_kw {fd : FuncData} {ps ks : List Str} {us ws : List Value} (h : plainP fd.params ps = true) (hd : fd.defaults = .none) (hl : us.length ≤ ps.length) (hw : ws.length = ks.length) (hk : ks.Nodup) (h1 : ∀ k ∈ ks, k ∈ ps.drop us.length) (h2 : ∀ n ∈ ps.drop us.length, n ∈ ks) :
    bindArgs fd ⟨us, ks.zip ws⟩ = pure (ps.zip (us ++ kwR (ps.drop us.length) ks ws)) := by
  unfold plainP at h
  simp only [Bool.and_eq_true, List.isEmpty_iff, decide_eq_true_eq, Option.isNone_iff_eq_none] at h
  obtain ⟨g1, g2, g3, g4, g5, g6⟩ := h
  have pb : ∀ {α β : Type} (a : α) (f : α → Sem β), (pure a >>= f) = f a := fun _ _ => rfl
  have hz : ps.zip us = (ps.take us.length).zip us := by
    have e1 : ∀ (l : List Str) (m : List Value), l.zip m = (l.take m.length).zip m := fun l => by
      induction l with
      | nil => intro m; simp
      | cons x l ih =>
        intro m
        cases m with
        | nil => simp
        | cons y m => rw [List.length_cons, List.take_succ_cons, List.zip_cons_cons, List.zip_cons_cons, ← ih m]
    exact e1 ps us
  have hdis : ∀ n ∈ ps.drop us.length, n ∉ ps.take us.length := fun n hn ht => by
    have := g6
    rw [← List.take_append_drop us.length ps] at this
    exact (List.nodup_append.mp this).2.2 n ht n hn rfl
  have hnone : ∀ n ∈ ps.drop us.length, (ps.zip us).lookup n = none := fun n hn => by
    rw [hz]
    exact zip_none (hdis n hn)
  have hmap : (ks.zip ws).map (·.1) = ks := by
    rw [List.map_fst_zip]
    omega
  have hsome : ∀ n ∈ ps, ((ps.zip us ++ ks.zip ws).lookup n).isSome = true := fun n hn => by
    rw [lookup_app]
    rw [← List.take_append_drop us.length ps] at hn
    rcases List.mem_append.mp hn with q | q
    · obtain ⟨v, e⟩ := zip_someA (us := us) (by simp; omega) q
      rw [hz, e]; rfl
    · rw [hnone n q]
      obtain ⟨v, e⟩ := zip_someA hw (h2 n q)
      rw [e]; rfl
  have hm : ps.filter (fun n => ((ps.zip us ++ ks.zip ws).lookup n).isNone) = [] := by
    rw [List.filter_eq_nil_iff]
    intro n hn
    have := hsome n hn
    cases q : (ps.zip us ++ ks.zip ws).lookup n with
    | none => rw [q] at this; cases this
    | some v => simp
  have hb : ps.filterMap (fun n => ((ps.zip us ++ ks.zip ws).lookup n).map (n, ·)) = ps.zip (us ++ kwR (ps.drop us.length) ks ws) := by
    have e1 : ps.zip (us ++ kwR (ps.drop us.length) ks ws) = (ps.take us.length).zip us ++ (ps.drop us.length).zip (kwR (ps.drop us.length) ks ws) := by
      conv => lhs; rw [← List.take_append_drop us.length ps]
      rw [List.zip_append (by simp; omega)]
      simp
    rw [e1]
    conv => lhs; rw [← List.take_append_drop us.length ps]
    rw [List.filterMap_append]
    congr 1
    · have h6 : (ps.take us.length).Nodup := g6.sublist (List.take_sublist _ _)
      rw [← zip_lookup (ps := ps.take us.length) (us := us) h6 (by simp; omega)]
      apply List.filterMap_congr'
      intro n hn
      obtain ⟨v, e⟩ := zip_someA (us := us) (by simp; omega) hn
      rw [List.take_append_drop, lookup_app, hz, e]; rfl
    · rw [← kw_binds hw h2]
      apply List.filterMap_congr'
      intro n hn
      rw [List.take_append_drop, lookup_app, hnone n hn]; rfl
  have hs : seqItems? (Value.none) = pure none := rfl
  have hgt : decide (us.length > ps.length) = false := decide_eq_false (by omega)
  unfold bindArgs
  simp only [g1, g2, g3, g4, g5, hd, List.map_nil, List.nil_append, List.append_nil]
  rw [for_kw _ (ps.drop us.length) (fun k v sl ex hk hn => by
    have : ps.contains k = true := List.contains_iff_mem.mpr (List.mem_of_mem_drop hk)
    simp only [this, Bool.true_or, if_true, hn, Option.isSome_none, Bool.false_eq_true, if_false]) (ks.zip ws) (ps.zip us) (by rw [hmap]; exact hk) (fun k hk' => by
      rw [hmap] at hk'
      exact ⟨h1 k hk', hnone k (h1 k hk')⟩)]
  simp only [hs, List.forIn_nil, pb, Option.getD_none, List.drop_nil, List.length_nil, Nat.sub_zero, List.take_length, List.drop_length, List.zip_nil_right, List.zip_nil_left, hm, hgt, List.isEmpty_nil, Bool.not_true, Bool.false_and, Bool.false_eq_true, if_false, hb]

theorem zip_ix {α : Type} : ∀ {ks : List Str} {ws : List α} {j : Nat} {k : Str}, ks.Nodup → ks[j]? = some k → ws.length = ks.length → (ks.zip ws).lookup k = ws[j]?
  | [], _, _, _, _, h, _ => by simp at h
  | _ :: _, [], _, _, _, _, hl => by cases hl
  | p :: ks, w :: ws, 0, k, hn, h, hl => by
    have e : p = k := by simpa using h
    subst e
    simp
  | p :: ks, w :: ws, j + 1, k, hn, h, hl => by
    obtain ⟨h1, h2⟩ := List.nodup_cons.mp hn
    have hk : ks[j]? = some k := by simpa using h
    have hne : (k == p) = false := by
      cases e : (k == p) with
      | false => rfl
      | true => exact absurd (eq_of_beq e ▸ List.mem_of_getElem? hk) h1
    rw [List.zip_cons_cons, List.lookup_cons, hne]
    have := zip_ix (ws := ws) h2 hk (by simpa using hl)
    simpa using this
theorem kwR_pm {α : Type} {ks : List Str} {ws : List α} (hn : ks.Nodup) (hl : ws.length = ks.length) : ∀ {pm : List Nat}, (∀ j ∈ pm, j < ks.length) → kwR (pm.filterMap fun j => ks[j]?) ks ws = pm.filterMap fun j => ws[j]?
  | [], _ => rfl
  | j :: pm, h => by
    have hj := h j List.mem_cons_self
    have ih := kwR_pm hn hl (pm := pm) fun i hi => h i (List.mem_cons_of_mem _ hi)
    have e : ks[j]? = some ks[j] := List.getElem?_eq_getElem hj
    have e2 : ws[j]? = some (ws[j]'(by omega)) := List.getElem?_eq_getElem (by omega)
    unfold kwR at ih ⊢
    rw [List.filterMap_cons, List.filterMap_cons, e, e2]
    dsimp only
    rw [List.filterMap_cons, zip_ix hn e hl, e2]
    dsimp only
    rw [ih]
end DL
end
section
set_option Elab.async false
set_option linter.all false
set_option maxRecDepth 100000
set_option autoImplicit false
namespace DL
open PySem PySem.Spec PyProof.Rows L2
/-! ### a test by a condition -/
def dIteT (t ta tb : DTT) : DTT := fun τ G K => t τ G fun c G1 => if c = true then ta τ G1 K else tb τ G1 K
theorem dt_ite {X : Cx} {ξ : XP} {c a b : Expr} {tA ta tb : DTT} {pos : Pos} (hc : DT X ξ c tA) (ha : DT X ξ a ta) (hb : DT X ξ b tb) : DT X ξ (.IfExp c a b pos) (dIteT tA ta tb) := ⟨fun pins s σ H Q I q => by
  rw [arm_isTrue_IfExp]
  obtain ⟨τ, G, P, rs, rl, p, k⟩ := q
  have h := lift_ifT (α := Unit) (A' := fun H1 => liftT X.K ξ ta σ H1 Q) (B' := fun H1 => liftT X.K ξ tb σ H1 Q) tA rs rl p
    (fun G1 H1 r1 f1 p1 => ⟨τ, G1, P, rs.mono (f1.keeps rl.1), r1, p1, fun d G2 H2 r2 f2 p2 => k d G2 H2 r2 (f1.trans f2) p2⟩)
    (fun G1 H1 r1 f1 p1 => ⟨τ, G1, P, rs.mono (f1.keeps rl.1), r1, p1, fun d G2 H2 r2 f2 p2 => k d G2 H2 r2 (f1.trans f2) p2⟩)
  refine wpAny_bind (wpAny_mono (hc.run pins s σ H _ I h) (fun d s1 ⟨H1, I1, q1⟩ => ?_) fun _ _ x => x)
  cases d with
  | true => exact ha.run pins s1 σ H1 Q I1 q1
  | false => exact hb.run pins s1 σ H1 Q I1 q1⟩
/-! ### the language -/
inductive BO | add | sub | mul | fdiv | mod | pow
inductive CO | eq | ne | lt | le | gt | ge | is | nis | inn | nin
inductive BF | len | int | str | max | min | list | tuple | all | any | sorted | dict
inductive BM | append | extend | pop | get
inductive IK | seq | rng1 | rng2 | zip | enum
inductive DX where
  | v (i : Nat) | int (i : Int) | bl (b : Bool) | non | str (s : String) | g (i : Nat)
  | bin (o : BO) (a b : DX) | neg (a : DX) | cmp (o : CO) (a b : DX) | chain (o o' : CO) (a b c : DX)
  | not (a : DX) | and (xs : List DX) | or (xs : List DX) | ite (c a b : DX)
  | ix (a b : DX) | sl0 (a : DX) | slL (a lo : DX) | slH (a hi : DX) | slLH (a lo hi : DX) | rev (a : DX)
  | tup (xs : List DX) | lst (xs : List DX) | dct (ks vs : List DX)
  | call (x : String) (f n : Nat) (xs : List DX) | bf (b : BF) (xs : List DX) | bm (b : BM) (o : DX) (xs : List DX)
  | own (c m : String) (f n : Nat) (o : DX) (xs : List DX) | mk (x c : String) (f n : Nat) (xs : List DX)
  | isi (x : String) (c : TN) (a : DX) | fld (f : String) (a : DX)
  | lc (vs : List Nat) (tg : Tg) (ik : IK) (it : List DX) (cs : List DX) (e : DX)
  | dc (vs : List Nat) (tg : Tg) (ik : IK) (it : List DX) (cs : List DX) (k e : DX)
  | xtup (xs : List DX) | fg (a : DX) | callK (x : String) (f n m : Nat) (pm : List Nat) (ps ks : List String) (xs kxs : List DX) | kget (x : String) (e : DX) | lzip (xs : List DX) | lam (i : Nat) | callV (i : Nat) (xs : List DX)
  | never
inductive DY where
  | asg (tg : Tg) (e : DX) | par2 (i j : Nat) (a b : DX) | par3 (i j l : Nat) (a b c : DX) | set (o i e : DX) | tset (o i : DX) (n : Nat) (a b : DX) | fset (o : DX) (f : String) (e : DX)
  | expr (e : DX) | ret (e : DX) | retN | ifs (c : DX) (a b : List DY) | for_ (tg : Tg) (ik : IK) (it : List DX) (body : List DY) | whl (c : DX) (body : List DY)
  | pass | brk | cont | doc | never
/-! ### the module's names -/
structure GT where
  free : List String := []
  vals : List (String × DV) := []
  fns : List (String × Nat × Nat) := []
  mks : List (String × String × Nat × Nat) := []
  mets : List (String × String × Nat × Nat) := []
  flds : List (String × String) := []
  clss : List (String × TN) := []
  tys : List TN := []
  sub : List (String × String) := []
  kds : List (String × List (String × DV)) := []
  kfns : List (String × Nat × List String) := []
  lams : LamL := []
def GT.clsOf (T : GT) (f : String) : List String := (T.flds.filter fun p => p.2 == f).map (·.1)
/-! ### what it computes -/
def boR : BO → DR2
  | .add => dAdd | .sub => dSub | .mul => dMul | .fdiv => dFdiv | .mod => dMod | .pow => dPow
def coR : CO → DR2
  | .eq => dEq | .ne => dNe | .lt => dLt | .le => dLe | .gt => dGt | .ge => dGe | .is => dIs false | .nis => dIs true | .inn => dIn false | .nin => dIn true
def dNeg : DR1 := fun x G P => ∃ i, x = .int i ∧ P (.int (-i)) G
def bfD : BF → DRC
  | .len => dLen | .int => dInt | .str => dStrI | .max => dMax2 | .min => dMin2 | .list => dListOf | .tuple => dTupOf | .all => dAll | .any => dAny | .sorted => dSorted | .dict => dDict
def bmT : BM → String
  | .append | .extend | .pop => "list" | .get => "dict"
def bmD : BM → DRM
  | .append => dAppend | .extend => dExtend | .pop => dPop | .get => dGet
def dFalseE : DTE := fun _ _ _ => False
def dFalseT : DTT := fun _ _ _ => False
def dIter : IK → List DTE → DTA → DTI
  | .seq, [e], _ => dSeqI e
  | .seq, _, _ => fun _ _ _ => False
  | .rng1, _, t => dRng1 t
  | .rng2, _, t => dRng2 t
  | .zip, _, t => dZip t
  | .enum, _, t => dEnum t
/-- a new list, by data -/
def dRev (te : DTE) : DTE := fun τ G P => te τ G fun x G1 => match x with
  | .tup xs => P (.tup xs.reverse) G1
  | x => ∃ xs, (∀ ys, x ≠ .tup ys) ∧ seqD G1 x = some xs ∧ ∀ p, G1 p = none → P (.ref p) (updD G1 p (.lst xs.reverse))
def dCallKN (m l n : Nat) (pm : List Nat) (S : DSp) (EX : DXK) (t tk : DTA) : DTE := fun τ G P => t τ G fun ds G1 => tk τ G1 fun zs G2 => ds.length = m ∧ zs.length = l ∧ (pmV pm ds zs).length = n ∧ S (pmV pm ds zs) G2 P EX
def kdAt (kvs : List (String × DV)) (z : Str) : Option DV := (kvs.find? fun p => decide (Str.ofString p.1 = z)).map (·.2)
def dKget (kvs : Option (List (String × DV))) (te : DTE) : DTE := fun τ G P => te τ G fun y G1 => ∃ z l, y = .str z ∧ kvs = some l ∧ P ((kdAt l z).getD .non) G1
def EX0 : DXK := fun _ _ _ => False
mutual
def den (T : GT) (C : Nat → DSp) : DXK → DX → DTE
  | _, .v i => dVar i
  | _, .int i => dC (.int i)
  | _, .bl b => dC (.bl b)
  | _, .non => dC .non
  | _, .str s => dC (.str (Str.ofString s))
  | _, .g i => match T.vals[i]? with
    | some p => dC p.2
    | none => dFalseE
  | E, .bin o a b => dOp (boR o) (den T C E a) (den T C E b)
  | E, .neg a => dOp1 dNeg (den T C E a)
  | E, .cmp o a b => dOp (coR o) (den T C E a) (den T C E b)
  | E, .chain o o' a b c => dChain (coR o) (coR o') (den T C E a) (den T C E b) (den T C E c)
  | E, .not a => dNotV (den T C E a)
  | E, .and xs => denAnd T C E xs
  | E, .or xs => denOr T C E xs
  | E, .ite c a b => dIte (denT T C E c) (den T C E a) (den T C E b)
  | E, .ix a b => dOp dIx (den T C E a) (den T C E b)
  | E, .sl0 a => dSl (den T C E a) dNoPart dNoPart
  | E, .slL a lo => dSl (den T C E a) (dPart (den T C E lo)) dNoPart
  | E, .slH a hi => dSl (den T C E a) dNoPart (dPart (den T C E hi))
  | E, .slLH a lo hi => dSl (den T C E a) (dPart (den T C E lo)) (dPart (den T C E hi))
  | E, .rev a => dRev (den T C E a)
  | E, .tup xs => dTup (denA T C E xs)
  | E, .lst xs => dLst (denA T C E xs)
  | E, .dct ks vs => match ks with
    | [] => dNewK
    | _ :: _ => dDisp ((denL T C E ks).zip (denL T C E vs))
  | E, .xtup xs => dXTup (denA T C E xs)
  | E, .fg a => dFg (den T C E a)
  | E, .callK _ f n m pm _ ks xs kxs => dCallKN m ks.length n pm (C f) E (denA T C E xs) (denA T C E kxs)
  | E, .lzip xs => dLzip (denA T C E xs)
  | _, .lam i => match T.lams[i]? with
    | some p => dLam p.1
    | none => dFalseE
  | E, .callV i xs => dCallF T.lams C E i (denA T C E xs)
  | E, .kget x e => dKget (T.kds.lookup x) (den T C E e)
  | E, .call _ f n xs => dCall n (C f) E (denA T C E xs)
  | E, .bf b xs => dCB (bfD b) (denA T C E xs)
  | E, .bm b o xs => dBM (bmT b) (bmD b) (den T C E o) (denA T C E xs)
  | E, .own c m f n o xs => dOwn c m n (C f) E (den T C E o) (denA T C E xs)
  | E, .mk _ c f n xs => dMk c n (C f) E (denA T C E xs)
  | E, .isi _ c a => dIsi T.tys T.sub c (den T C E a)
  | E, .fld f a => dFld (T.clsOf f) f (den T C E a)
  | E, .lc vs tg ik it cs e => dLc (dIter ik (denL T C E it) (denA T C E it)) tg (denC T C EX0 cs) (den T C EX0 e) vs
  | E, .dc vs tg ik it cs k e => dDc (dIter ik (denL T C E it) (denA T C E it)) tg (denC T C EX0 cs) (den T C EX0 k) (den T C EX0 e) vs
  | _, .never => dFalseE
def denA (T : GT) (C : Nat → DSp) : DXK → List DX → DTA
  | _, [] => dNil
  | E, x :: xs => dCons (den T C E x) (denA T C E xs)
def denL (T : GT) (C : Nat → DSp) : DXK → List DX → List DTE
  | _, [] => []
  | E, x :: xs => den T C E x :: denL T C E xs
def denAnd (T : GT) (C : Nat → DSp) : DXK → List DX → DTE
  | _, [] => dFalseE
  | E, x :: xs => match xs with
    | [] => den T C E x
    | _ :: _ => dAndV (den T C E x) (denAnd T C E xs)
def denOr (T : GT) (C : Nat → DSp) : DXK → List DX → DTE
  | _, [] => dFalseE
  | E, x :: xs => match xs with
    | [] => den T C E x
    | _ :: _ => dOrV (den T C E x) (denOr T C E xs)
def denT (T : GT) (C : Nat → DSp) : DXK → DX → DTT
  | E, .not a => dNotT (denT T C E a)
  | E, .and xs => denAndT T C E xs
  | E, .or xs => denOrT T C E xs
  | E, .cmp o a b => dTest (dOp (coR o) (den T C E a) (den T C E b))
  | E, .chain o o' a b c => dTest (dChain (coR o) (coR o') (den T C E a) (den T C E b) (den T C E c))
  | E, .ite c a b => dIteT (denT T C E c) (denT T C E a) (denT T C E b)
  | _, .never => dFalseT
  | _, .v i => dTest (dVar i)
  | _, .bl b => dTest (dC (.bl b))
  | E, .call _ f n xs => dTest (dCall n (C f) E (denA T C E xs))
  | E, .callK _ f n m pm _ ks xs kxs => dTest (dCallKN m ks.length n pm (C f) E (denA T C E xs) (denA T C E kxs))
  | E, .own c m f n o xs => dTest (dOwn c m n (C f) E (den T C E o) (denA T C E xs))
  | E, .bf b xs => dTest (dCB (bfD b) (denA T C E xs))
  | E, .isi _ c a => dTest (dIsi T.tys T.sub c (den T C E a))
  | E, .fld f a => dTest (dFld (T.clsOf f) f (den T C E a))
  | E, .ix a b => dTest (dOp dIx (den T C E a) (den T C E b))
  | E, .callV i xs => dTest (dCallF T.lams C E i (denA T C E xs))
  | _, _ => dFalseT
def denAndT (T : GT) (C : Nat → DSp) : DXK → List DX → DTT
  | _, [] => dFalseT
  | E, x :: xs => match xs with
    | [] => denT T C E x
    | _ :: _ => dAndT (denT T C E x) (denAndT T C E xs)
def denOrT (T : GT) (C : Nat → DSp) : DXK → List DX → DTT
  | _, [] => dFalseT
  | E, x :: xs => match xs with
    | [] => denT T C E x
    | _ :: _ => dOrT (denT T C E x) (denOrT T C E xs)
def denC (T : GT) (C : Nat → DSp) : DXK → List DX → DTT
  | _, [] => dYes
  | E, x :: xs => match xs with
    | [] => denT T C E x
    | _ :: _ => dFalseT
end
mutual
def denS (T : GT) (C : Nat → DSp) (E : DXK) : DY → DTS
  | .asg tg e => dAsg tg (den T C E e)
  | .par2 i j a b => dPar i j (denA T C E [a, b])
  | .par3 i j l a b c => fun D τ G => denA T C E [a, b, c] τ G fun ds G1 => ∃ x y z, ds = [x, y, z] ∧ D.nx (((τ.set i (some x)).set j (some y)).set l (some z)) G1
  | .set o i e => dSetS (den T C E o) (den T C E i) (den T C E e)
  | .tset o i n a b => dTset (den T C E o) (den T C E i) n (denA T C E [a, b])
  | .fset o f e => dFldS (T.clsOf f) f (den T C E o) (den T C E e)
  | .expr e => dDrop (den T C E e)
  | .ret e => dRet (den T C E e)
  | .retN => dRetN
  | .ifs c a b => dIf (denT T C E c) (denSs T C E a) (denSs T C E b)
  | .for_ tg ik it body => dFor (dIter ik (denL T C E it) (denA T C E it)) tg (denSs T C E body)
  | .whl c body => dWhile (denT T C E c) (denSs T C E body)
  | .pass => dNext
  | .brk => dBreak
  | .cont => dCont
  | .doc => dNext
  | .never => dNever
def denSs (T : GT) (C : Nat → DSp) (E : DXK) : List DY → DTS
  | [] => dNext
  | s :: ss => dSeq (denS T C E s) (denSs T C E ss)
end
end DL
end
section
set_option Elab.async false
set_option linter.all false
set_option maxRecDepth 100000
set_option autoImplicit false
namespace DL
open PySem PySem.Spec PyProof.Rows L2
/-! ### the text against the language -/
structure SC where
  N : List Str
  sc : Scope
  fn : Str → Bool
  q : Str := ""
  lam : Bool := false
def SC.blk (S : SC) (scope : Scope) : SC := { N := S.N, sc := relS scope S.sc, fn := fun x => scope.names.lookup x == some .cell }
def visB (sc : Scope) (x : Str) : Bool := match sc.names.lookup x with
  | some .local | some .cell | some .free => true
  | _ => false
def glB (sc : Scope) (x : Str) : Bool := decide (sc.names.lookup x = some .globalImplicit)
def locB (S : SC) (x : Str) : Bool := match S.sc.names.lookup x with
  | some .local => true
  | some .cell => S.fn x
  | _ => false
def isN (x : Str) (s : String) : Bool := decide (x = Str.ofString s)
def noDbg (x : Str) : Bool := !(x == ("__debug__" : Str)) && !(x == ("__classdict__" : Str)) && !decide (x = ("__name__" : Str))
def boOp : BO → Operator
  | .add => .Add | .sub => .Sub | .mul => .Mult | .fdiv => .FloorDiv | .mod => .Mod | .pow => .Pow
def coOp : CO → CmpOp
  | .eq => .Eq | .ne => .NotEq | .lt => .Lt | .le => .LtE | .gt => .Gt | .ge => .GtE | .is => .Is | .nis => .IsNot | .inn => .In | .nin => .NotIn
def bfN : BF → String
  | .len => "len" | .int => "int" | .str => "str" | .max => "max" | .min => "min" | .list => "list" | .tuple => "tuple" | .all => "all" | .any => "any" | .sorted => "sorted" | .dict => "dict"
def bmN : BM → String
  | .append => "append" | .extend => "extend" | .pop => "pop" | .get => "get"
/-- a name of the module -/
def gN (S : SC) (y : Str) (x : String) : Bool := isN y x && (glB S.sc y && noDbg y)
mutual
def chkTg (S : SC) : Tg → Expr → Bool
  | .n i, .Name x _ => decide (S.N[i]? = some x) && locB S x
  | .t ts, .Tuple es _ _ => chkTgs S ts es
  | _, _ => false
def chkTgs (S : SC) : List Tg → List Expr → Bool
  | [], [] => true
  | t :: ts, e :: es => notStar e && (chkTg S t e && chkTgs S ts es)
  | _, _ => false
end
def isTup : Expr → Bool
  | .Tuple _ _ _ => true
  | _ => false
def itArgs (T : GT) (S : SC) (ik : IK) (t iter : Expr) : Option (List Expr) := match ik with
  | .seq => if notSetD iter && notStar iter then some [iter] else none
  | ik => match iter with
    | .Call (.Name y _) es [] _ => match ik with
      | .rng1 => if es.all notStar && (es.length == 1 && (gN S y "range" && T.free.contains "range")) then some es else none
      | .rng2 => if es.all notStar && (es.length == 2 && (gN S y "range" && T.free.contains "range")) then some es else none
      | .zip => if es.all notStar && (es.length == 2 && (gN S y "zip" && (T.free.contains "zip" && isTup t))) then some es else none
      | .enum => if es.all notStar && (es.length == 1 && (gN S y "enumerate" && (T.free.contains "enumerate" && isTup t))) then some es else none
      | .seq => none
    | _ => none
def ownOf (N : List Str) (vs : List Nat) : List (Str × Nat) := vs.filterMap fun i => (N[i]?).map fun n => (n, i)
def kwNames (kws : List Keyword) : List (Option Str) := kws.map (·.arg)
def kwVals (kws : List Keyword) : List Expr := kws.map (·.value)
/-- the keywords fill the parameters behind the first m -/
def kwB (m n : Nat) (pm : List Nat) (ps ks : List String) : Bool :=
  decide (m ≤ ps.length) && (decide (ps.length = n) && (decide ((ks.map Str.ofString).Nodup) && (decide ((ps.map Str.ofString).drop m = pm.filterMap fun j => (ks.map Str.ofString)[j]?) && (pm.all (fun j => decide (j < ks.length)) && ks.all fun k => decide (Str.ofString k ∈ (ps.map Str.ofString).drop m)))))
mutual
def chk (T : GT) : SC → DX → Expr → Bool
  | S, .v i, e => match e with
    | .Name x _ => decide (S.N[i]? = some x) && (visB S.sc x && noDbg x)
    | _ => false
  | _, .int i, e => match e with
    | .Constant (.int j) _ _ => decide (i = j)
    | _ => false
  | _, .bl b, e => match e with
    | .Constant (.bool c) _ _ => b == c
    | _ => false
  | _, .non, e => match e with
    | .Constant .none _ _ => true
    | _ => false
  | _, .str s, e => match e with
    | .Constant (.str x) _ _ => isN x s
    | _ => false
  | S, .g i, e => match e with
    | .Name x _ => (match T.vals[i]? with
      | some p => gN S x p.1
      | none => false)
    | _ => false
  | S, .bin o a b, e => match e with
    | .BinOp l op r _ => decide (op = boOp o) && (chk T S a l && chk T S b r)
    | _ => false
  | S, .neg a, e => match e with
    | .UnaryOp .USub x _ => chk T S a x
    | _ => false
  | S, .cmp o a b, e => match e with
    | .Compare l [op] [r] _ => decide (op = coOp o) && (notSetD r && (chk T S a l && chk T S b r))
    | _ => false
  | S, .chain o o' a b c, e => match e with
    | .Compare l [op, op'] [r, r'] _ => decide (op = coOp o) && (decide (op' = coOp o') && (notSetD r' && (chk T S a l && (chk T S b r && chk T S c r'))))
    | _ => false
  | S, .not a, e => match e with
    | .UnaryOp .Not x _ => chk T S a x
    | _ => false
  | S, .and xs, e => match e with
    | .BoolOp .And es _ => chkA T S xs es
    | _ => false
  | S, .or xs, e => match e with
    | .BoolOp .Or es _ => chkA T S xs es
    | _ => false
  | S, .ite c a b, e => match e with
    | .IfExp z x y _ => chk T S c z && (chk T S a x && chk T S b y)
    | _ => false
  | S, .ix a b, e => match e with
    | .Subscript x y _ => notSlice y && (chk T S a x && chk T S b y)
    | _ => false
  | S, .sl0 a, e => match e with
    | .Subscript x (.Slice none none none _) _ => chk T S a x
    | _ => false
  | S, .slL a lo, e => match e with
    | .Subscript x (.Slice (some y) none none _) _ => chk T S a x && chk T S lo y
    | _ => false
  | S, .slH a hi, e => match e with
    | .Subscript x (.Slice none (some y) none _) _ => chk T S a x && chk T S hi y
    | _ => false
  | S, .slLH a lo hi, e => match e with
    | .Subscript x (.Slice (some y) (some z) none _) _ => chk T S a x && (chk T S lo y && chk T S hi z)
    | _ => false
  | S, .rev a, e => match e with
    | .Subscript x (.Slice none none (some (.UnaryOp .USub (.Constant (.int i) _ _) _)) _) _ => decide (i = 1) && chk T S a x
    | _ => false
  | S, .tup xs, e => match e with
    | .Tuple es _ _ => es.all notStar && chkA T S xs es
    | _ => false
  | S, .lst xs, e => match e with
    | .List es _ => es.all notStar && chkA T S xs es
    | _ => false
  | S, .dct ks vs, e => match e with
    | .Dict keys values _ => decide (keys.length ≤ 15) && (decide (keys.length = values.length) && (decide (ks.length = keys.length) && (match omap id keys with
      | some es => chkA T S ks es && chkA T S vs values
      | none => false)))
    | _ => false
  | S, .xtup xs, e => match e with
    | .Tuple es _ _ => es.all notStar && chkA T S xs es
    | _ => false
  | S, .fg a, e => chk T S a e
  | S, .callK x f n m pm ps ks xs kxs, e => match e with
    | .Call (.Name y _) es kws _ => gN S y x && (T.kfns.contains (x, f, ps) && (es.all notStar && (decide (es.length = m) && (kwB m n pm ps ks && (decide (kwNames kws = ks.map fun k => some (Str.ofString k)) && (chkA T S xs es && chkA T S kxs (kwVals kws)))))))
    | _ => false
  | S, .lzip xs, e => match e with
    | .Call (.Name y _) [.Call (.Name z _) es [] _] [] _ => gN S y "list" && (T.free.contains "list" && (gN S z "zip" && (T.free.contains "zip" && (es.all notStar && (es.length == 2 && chkA T S xs es)))))
    | _ => false
  | S, .lam i, e => match e with
    | .Lambda params body scope _ => (match T.lams[i]? with
      | some p => S.lam && (decide (p.1.q = S.q) && eqLam p.1 params body scope)
      | none => false)
    | _ => false
  | S, .callV i xs, e => match e with
    | .Call (.Name x _) es [] _ => decide (S.N[i]? = some x) && (visB S.sc x && (noDbg x && (es.all notStar && (!es.isEmpty && chkA T S xs es))))
    | _ => false
  | S, .kget x a, e => match e with
    | .Call (.Attribute (.Name y _) g ap) [u] [] p => gN S y x && (isN g "get" && ((T.kds.any fun q => q.1 == x) && (notStar u && ((ap.endLine == p.line) && chk T S a u))))
    | _ => false
  | S, .call x f n xs, e => match e with
    | .Call (.Name y _) es [] _ => gN S y x && (T.fns.contains (x, f, n) && (es.all notStar && chkA T S xs es))
    | _ => false
  | S, .bf b xs, e => match e with
    | .Call (.Name y _) es [] _ => gN S y (bfN b) && (T.free.contains (bfN b) && (es.all notStar && (!es.isEmpty && chkA T S xs es)))
    | _ => false
  | S, .bm b o xs, e => match e with
    | .Call (.Attribute x m ap) es [] p => isN m (bmN b) && (notSuper x && (es.all notStar && (decide (es.length < 30) && ((ap.endLine == p.line) && (chk T S o x && chkA T S xs es)))))
    | _ => false
  | S, .own c m f n o xs, e => match e with
    | .Call (.Attribute x y ap) es [] p => isN y m && (T.mets.contains (c, m, f, n) && (notSuper x && (es.all notStar && (decide (es.length < 30) && ((ap.endLine == p.line) && (chk T S o x && chkA T S xs es))))))
    | _ => false
  | S, .mk x c f n xs, e => match e with
    | .Call (.Name y _) es [] _ => gN S y x && (T.mks.contains (x, c, f, n) && (es.all notStar && chkA T S xs es))
    | _ => false
  | S, .isi x c a, e => match e with
    | .Call (.Name y _) [u, .Name z _] [] _ => gN S y "isinstance" && (T.free.contains "isinstance" && (gN S z x && (T.clss.contains (x, c) && (notStar u && chk T S a u))))
    | _ => false
  | S, .fld f a, e => match e with
    | .Attribute x g _ => isN g f && (notSuper x && chk T S a x)
    | _ => false
  | S, .lc vs tg ik it cs el, e => match e with
    | .ListComp elt [⟨t, iter, ifs, as⟩] scope _ => decide (as = 0) && (blkC S.N S.sc scope (ownOf S.N vs) && (decide ((ownOf S.N vs).map (·.2) = vs) && (tg.vars.all (fun i => decide (i ∈ vs)) && (chkTg (S.blk scope) tg t && (notSetD iter &&
        ((match itArgs T S ik t iter with
          | some es => chkA T S it es
          | none => false) && (chkA T (S.blk scope) cs ifs && chk T (S.blk scope) el elt)))))))
    | _ => false
  | S, .dc vs tg ik it cs k el, e => match e with
    | .DictComp ke elt [⟨t, iter, ifs, as⟩] scope _ => decide (as = 0) && (blkC S.N S.sc scope (ownOf S.N vs) && (decide ((ownOf S.N vs).map (·.2) = vs) && (tg.vars.all (fun i => decide (i ∈ vs)) && (chkTg (S.blk scope) tg t && (notSetD iter &&
        ((match itArgs T S ik t iter with
          | some es => chkA T S it es
          | none => false) && (chkA T (S.blk scope) cs ifs && (chk T (S.blk scope) k ke && chk T (S.blk scope) el elt))))))))
    | _ => false
  | _, .never, _ => true
def chkA (T : GT) : SC → List DX → List Expr → Bool
  | _, [], es => es.isEmpty
  | S, x :: xs, es => match es with
    | e :: r => chk T S x e && chkA T S xs r
    | [] => false
end
end DL
end
section
set_option Elab.async false
set_option linter.all false
set_option maxRecDepth 100000
set_option autoImplicit false
namespace DL
open PySem PySem.Spec PyProof.Rows L2
/-- what the written part says of the names -/
structure GF (T : GT) (C : Nat → DSp) (j : Nat) (P : Program) (w : World) (K : PySem.W.Frag) (mg : Str → Option Value) (base : Heap) : Prop where
  free : ∀ x ∈ T.free, mg (Str.ofString x) = none
  vals : ∀ (i : Nat) (p : String × DV), T.vals[i]? = some p → ∃ v u, mg (Str.ofString p.1) = some u ∧ RelV v u ∧ Rep K H0 p.2 v
  fns : ∀ x f n, (x, f, n) ∈ T.fns → ∃ a fd ps, mg (Str.ofString x) = some (.ref a) ∧ PySem.W.keepIn K (.ref a) = true ∧ Binds K fd ps [] ∧ FnOk P w K mg base (L2.CX P w) j a fd ps (spD K n (C f))
  mks : ∀ x c f n, (x, c, f, n) ∈ T.mks → ∃ a fd ps, mg (Str.ofString x) = some (.ref (He.ga K c)) ∧ Mk K (He.ga K c) a ∧ Binds K fd ps [] ∧ FnOk P w K mg base (L2.CX P w) j a fd ps (spD K n (C f))
  mets : ∀ c m f n, (c, m, f, n) ∈ T.mets → ∃ a fd ps, Cls K (He.ga K c) ∧ Meth K (He.ga K c) (Str.ofString m) a ∧ Binds K fd ps [] ∧ FnOk P w K mg base (L2.CX P w) j a fd ps (spD K n (C f))
  flds : ∀ c f, (c, f) ∈ T.flds → FldOk K c f
  isi : ∀ x c, (x, c) ∈ T.clss → (match c with | .b n => mg (Str.ofString x) = none ∧ bootBuiltins (Str.ofString x) = some (.type n) | .o cc => mg (Str.ofString x) = some (.ref (He.ga K cc))) ∧
    ∀ t ∈ T.tys, (∀ o, t = .o o → ClsI K o) ∧ PySem.W.kitOne K (t.v K) (c.v K) = some (isa T.sub t c)
  kds : ∀ (x : String) (l : List (String × DV)), T.kds.lookup x = some l → ∃ a es k, mg (Str.ofString x) = some (.ref a) ∧ KDict K w a es k ∧ ∀ z : Str, ∃ r, PySem.W.nsIn K a z = some r ∧ (kdAt l z = none → r = none) ∧ ∀ d, kdAt l z = some d → ∃ u v, r = some u ∧ RelV v u ∧ Rep K H0 d v
  lams : ∀ L f n, (L, f, n) ∈ T.lams → LF.LamOk P w K mg base (L2.CX P w) j L (spD K n (C f))
  lamU : ∀ P q q', LamTab K P q → LamTab K P q' → q = q'
  kfns : ∀ (x : String) (f : Nat) (ps : List String), (x, f, ps) ∈ T.kfns → ∃ a fd, mg (Str.ofString x) = some (.ref a) ∧ PySem.W.keepIn K (.ref a) = true ∧ FnOk P w K mg base (L2.CX P w) j a fd (ps.map Str.ofString) (spD K ps.length (C f)) ∧ plainP fd.params (ps.map Str.ofString) = true ∧ fd.defaults = .none
structure Cok (T : GT) (S : SC) (C : Nat → DSp) (j : Nat) (X : Cx) (ξ : XP) : Prop where
  sc : X.env.scope = S.sc
  N : X.N = S.N
  nd : S.N.Nodup
  calm : X.calm = true
  fn : X.fn = S.fn
  room : Room (j + 1) X.A
  g : GF T C j X.prog X.w X.K X.mg X.base
  pass : Passes (L2.CX X.prog X.w) X ξ.Ex
  lam : S.lam = true → ∃ c P, X.env.code = .ref c ∧ LamX.TabB X.base X.mg c P ∧ LamTab X.K P S.q ∧ X.env.qual ++ "<lambda>" = S.q
section
variable {T : GT} {S : SC} {C : Nat → DSp} {j : Nat} {X : Cx} {ξ : XP} {K : PySem.W.Frag}
theorem visB_ok {sc : Scope} {x : Str} (h : visB sc x = true) : Vis sc x := by
  unfold visB at h
  unfold Vis
  split at h <;> first | exact .inl (by assumption) | exact .inr (.inl (by assumption)) | exact .inr (.inr (by assumption)) | cases h
theorem noDbg_ok {x : Str} (h : noDbg x = true) : (x == ("__debug__" : Str)) = false ∧ (x == ("__classdict__" : Str)) = false ∧ x ≠ ("__name__" : Str) := by
  unfold noDbg at h
  simp only [Bool.and_eq_true, Bool.not_eq_true', decide_eq_false_iff_not] at h
  exact ⟨h.1.1, h.1.2, h.2⟩
theorem isN_ok {x : Str} {s : String} (h : isN x s = true) : x = Str.ofString s := of_decide_eq_true h
theorem gN_ok (c : Cok T S C j X ξ) {y : Str} {x : String} (h : gN S y x = true) : y = Str.ofString x ∧ Gl X y ∧ (y == ("__debug__" : Str)) = false ∧ y ≠ ("__name__" : Str) := by
  unfold gN at h
  simp only [Bool.and_eq_true] at h
  obtain ⟨h1, h2, h3⟩ := h
  refine ⟨isN_ok h1, ?_, (noDbg_ok h3).1, (noDbg_ok h3).2.2⟩
  show X.env.scope.names.lookup y = some .globalImplicit
  rw [c.sc]
  exact of_decide_eq_true h2
theorem and2 {a b : Bool} (h : (a && b) = true) : a = true ∧ b = true := Bool.and_eq_true_iff.mp h
theorem mem_of_c {α : Type} [BEq α] [LawfulBEq α] {x : α} {l : List α} (h : l.contains x = true) : x ∈ l := List.contains_iff_mem.mp h
/-! operators -/
theorem bo_ok (c : Cok T S C j X ξ) (o : BO) : ∃ r, OpR X (binaryOp (boOp o)) r ∧ DOp X.K r (boR o) := by
  cases o with
  | add => exact ⟨_, op_addAll, dop_add⟩
  | sub => exact ⟨_, op_sub, dop_sub⟩
  | mul => exact ⟨_, op_mulAll, dop_mul⟩
  | fdiv => exact ⟨_, op_fdivN, dop_fdiv⟩
  | mod => exact ⟨_, op_mod, dop_mod⟩
  | pow => exact ⟨_, op_pow, dop_pow⟩
theorem co_ok (c : Cok T S C j X ξ) (o : CO) : ∃ r, OpR X (compareOp (coOp o)) r ∧ DOp X.K r (coR o) := by
  have hu := c.room.units
  have hu1 : X.A.units + 1 < cLine := by omega
  cases o with
  | eq => exact ⟨_, op_eqAll hu, dop_eq⟩
  | ne => exact ⟨_, op_neAll hu, dop_ne⟩
  | lt => exact ⟨_, op_ltAll, dop_lt⟩
  | le => exact ⟨_, op_leAll, dop_le⟩
  | gt => exact ⟨_, op_gtAll, dop_gt⟩
  | ge => exact ⟨_, op_geAll, dop_ge⟩
  | is => exact ⟨_, op_isAll, dop_is⟩
  | nis => exact ⟨_, op_isnotAll, dop_is⟩
  | inn => exact ⟨_, op_inAll hu1, dop_in⟩
  | nin => exact ⟨_, op_notInAll hu1, dop_in⟩
theorem dop_neg : DOp1 K (rU fun i => .int (-i)) dNeg := fun x G P v H Q z rl ⟨i, e, p⟩ k => by
  subst e
  exact ⟨i, rep_int.mp z, k _ G _ H (rep_int.mpr rfl) rl (Frame.refl _ _) p⟩
def bfV : BF → Value
  | .len => .builtin "len" | .int => .type "int" | .str => .type "str" | .max => .builtin "max" | .min => .builtin "min" | .list => .type "list" | .tuple => .type "tuple" | .all => .builtin "all" | .any => .builtin "any" | .sorted => .builtin "sorted" | .dict => .type "dict"
theorem bf_ok (c : Cok T S C j X ξ) (b : BF) : ∃ r, CallR X (bfV b) r ∧ DCal X.K r (bfD b) := by
  cases b with
  | len => exact ⟨_, cr_lenAll, dc_len⟩
  | int => exact ⟨_, call_int1, dc_int⟩
  | str => exact ⟨_, call_str_int, dc_str⟩
  | max => exact ⟨_, call_max2 c.calm, dc_max2⟩
  | min => exact ⟨_, call_min2 c.calm, dc_min2⟩
  | list => exact ⟨_, call_list_of, dc_listOf⟩
  | tuple => exact ⟨_, call_tuple_of, dc_tupOf⟩
  | all => exact ⟨_, cr_all c.calm, dc_all⟩
  | any => exact ⟨_, cr_any c.calm, dc_any⟩
  | sorted => exact ⟨_, cr_sortedS, dc_sorted⟩
  | dict => exact ⟨_, cr_dictAll c.calm, dc_dict⟩
theorem bf_boot (b : BF) : bootBuiltins (Str.ofString (bfN b)) = some (bfV b) := by cases b <;> kernel_rfl
theorem bm_ok (c : Cok T S C j X ξ) (b : BM) : ∃ id r, PlainAttrs (bmT b) ∧ Slot (bmT b) (bmN b) id ∧ typeOf (.builtin id) = pure (.type "method_descriptor") ∧ MtR X id r ∧ DMet X.K r (bmD b) := by
  have hu := c.room.units
  cases b with
  | append => exact ⟨_, _, PySem.F.plainAttrs_list, PySem.F.slot_list_append, PySem.F.type_list_append, mt_append, dm_append⟩
  | extend => exact ⟨_, _, PySem.F.plainAttrs_list, PySem.F.slot_list_extend, PySem.F.type_list_extend, mt_extend, dm_extend⟩
  | pop => exact ⟨_, _, PySem.F.plainAttrs_list, PySem.F.slot_list_pop, PySem.F.type_list_pop, mt_pop, dm_pop⟩
  | get => exact ⟨_, _, PySem.F.plainAttrs_dict, PySem.F.slot_dict_get, PySem.F.type_dict_get, mt_get (by omega), dm_get⟩
/-! blocks -/
theorem pass0 {s : Shared} {H : Hp} {scope : Scope} {ce : Env} {fp : List Addr} : Passes (L2.CX X.prog X.w) (X.blk s H scope ce fp) xi0.Ex := fun pins σ H s e s' I ⟨a, B, H', cls, d, _, _, _, _, _, _, _, z⟩ => z.elim
theorem Cok.blk (c : Cok T S C j X ξ) (scope : Scope) (s : Shared) (H : Hp) (Ca : Addr) (cl : List (Str × Addr)) (fp : List Addr) : Cok T (S.blk scope) C j (X.blk s H scope (compEnvC scope cl Ca X.env) fp) xi0 where
  sc := by
    show relabel scope X.env = relS scope S.sc
    rw [← c.sc]
    rfl
  N := c.N
  nd := c.nd
  calm := c.calm
  fn := rfl
  room := c.room
  g := c.g
  pass := pass0
  lam := fun h => by cases h
/-! targets -/
theorem locB_ok (c : Cok T S C j X ξ) {x : Str} (h : locB S x = true) : Loc X.env.scope x ∧ (X.fn x = true ∨ X.env.scope.names.lookup x = some .local) := by
  unfold locB at h
  rw [← c.sc, ← c.fn] at h
  split at h
  · rename_i q; exact ⟨.inl q, .inr q⟩
  · rename_i q; exact ⟨.inr q, .inl h⟩
  · cases h
theorem asgE_cons {e : Expr} {es : List Expr} {env : Env} (h : notStar e = true) : assignEach (e :: es) env = (false, assign e env) :: assignEach es env := by
  cases e <;> first | rfl | cases h
mutual
theorem sndTg (c : Cok T S C j X ξ) : ∀ (t : Tg) (e : Expr), chkTg S t e = true → PG X e (gTg X.K t)
  | .n i, e, h => by
    cases e with
    | Name x p =>
      obtain ⟨h1, h2⟩ := and2 (show (decide (S.N[i]? = some x) && locB S x) = true from h)
      obtain ⟨l, f⟩ := locB_ok c h2
      unfold gTg
      exact pg_name (by rw [c.N]; exact c.nd) (by rw [c.N]; exact of_decide_eq_true h1) l f
    | _ => cases h
  | .t ts, e, h => by
    cases e with
    | Tuple es k p =>
      have h' : chkTgs S ts es = true := h
      obtain ⟨q, hl, hf⟩ := sndTgs c ts es h'
      unfold gTg
      exact pg_tup c.calm q hl hf
    | _ => cases h
theorem sndTgs (c : Cok T S C j X ξ) : ∀ (ts : List Tg) (es : List Expr), chkTgs S ts es = true → PGs X es (gTgs X.K ts) ∧ (assignEach es X.env).length = ts.length ∧ (assignEach es X.env).findIdx? (·.1) = none
  | [], es, h => by
    cases es with
    | nil => unfold gTgs; exact ⟨pgs_nil, rfl, rfl⟩
    | cons e r => cases h
  | t :: ts, es, h => by
    cases es with
    | nil => cases h
    | cons e r =>
      obtain ⟨h1, h2⟩ := and2 (show (notStar e && (chkTg S t e && chkTgs S ts r)) = true from h)
      obtain ⟨h2, h3⟩ := and2 h2
      obtain ⟨q1, q2, q3⟩ := sndTgs c ts r h3
      have e1 := asgE_cons (es := r) (env := X.env) h1
      unfold gTgs
      refine ⟨pgs_cons (sndTg c t e h2) q1 (by rw [e1]; rfl), by rw [e1, List.length_cons, q2, List.length_cons], ?_⟩
      rw [e1, List.findIdx?_cons]
      simp [q3]
end
end
end DL
end
section
set_option Elab.async false
set_option linter.all false
set_option maxRecDepth 100000
set_option autoImplicit false
namespace DL
open PySem PySem.Spec PyProof.Rows L2
section
variable {T : GT} {S : SC} {C : Nat → DSp} {j : Nat} {X : Cx} {ξ : XP} {K : PySem.W.Frag}
theorem de_never {e : Expr} : DE X ξ e dFalseE := ⟨fun _ _ _ _ _ _ ⟨_, _, _, _, _, z, _⟩ => z.elim⟩
theorem dt_never {e : Expr} : DT X ξ e dFalseT := ⟨fun _ _ _ _ _ _ ⟨_, _, _, _, _, z, _⟩ => z.elim⟩
theorem dw_never {e : Expr} : DW X ξ e dFalseT := ⟨fun _ _ _ _ _ _ _ ⟨_, _, _, _, _, z, _⟩ => z.elim⟩
theorem lift_nil : ∀ σ H Q, liftA K ξ dNil σ H Q → tNil σ H Q := fun σ H Q ⟨τ, G, P, rs, rl, p, k⟩ => k [] G [] H (repL_nil.mpr rfl) rl (Frame.refl _ _) p
theorem lift_rev (te : DTE) : ∀ σ H Q, liftE K ξ (dRev te) σ H Q → tRevA K (liftE K ξ te) σ H Q := fun σ H Q ⟨τ, G, P, rs, rl, p, k⟩ => ⟨τ, G, _, rs, rl, p, fun x G1 v H1 z r1 f1 p1 => by
  split at p1
  · rename_i xs
    obtain ⟨a, vs, rfl, q, r⟩ := rep_tup.mp z
    refine ⟨a, vs, rfl, .inr ⟨q, fun l hl => ?_⟩⟩
    have ⟨r2, f2⟩ := r1.1.aside (u := .tup vs.reverse) hl
    exact k _ _ _ _ (rep_tup.mpr ⟨l, _, rfl, SqT.of upd_same, (r.mono (f2.keeps r1.1)).reverse⟩) (r1.to r2 f2) (f1.trans f2) p1
  · obtain ⟨xs, n, h, p1⟩ := p1
    obtain ⟨a, vs, rfl, r, ⟨_, q⟩ | ⟨q, _⟩⟩ := seqD_rep r1.1 h z
    · exact absurd q (n _)
    refine ⟨a, vs, rfl, .inl ⟨q, fun l hl => ?_⟩⟩
    have ⟨r2, f2⟩ := r1.1.new (p := l) (u := .lst vs.reverse) (o := .lst xs.reverse) hl ⟨_, upd_same, (r.mono (keeps_new hl)).reverse⟩
    exact k _ _ _ _ (rep_ref.mpr rfl) (r1.to r2 f2) (f1.trans f2) (p1 l (r1.1.fresh hl))⟩
/-! keywords, module dicts -/
theorem pmV_rep {H : Hp} {ds zs : List DV} {vs us : List V} (r : RepL K H ds vs) (rz : RepL K H zs us) (pm : List Nat) : RepL K H (pmV pm ds zs) (pmV pm vs us) := by
  refine r.append ?_
  induction pm with
  | nil => exact repL_nil.mpr rfl
  | cons j pm ih =>
    rw [List.filterMap_cons, List.filterMap_cons]
    by_cases hj : j < zs.length
    · have e1 : zs[j]? = some zs[j] := List.getElem?_eq_getElem hj
      obtain ⟨v, hv, z⟩ := rz.get' e1
      rw [e1, hv]
      exact repL_cons.mpr ⟨v, _, rfl, z, ih⟩
    · rw [List.getElem?_eq_none (by omega), List.getElem?_eq_none (by rw [rz.length]; omega)]
      exact ih
theorem lift_callKN {m l n : Nat} {pm : List Nat} {S' : DSp} (t tk : DTA) : ∀ σ H Q, liftE K ξ (dCallKN m l n pm S' ξ.EX t tk) σ H Q → tCallKN m l pm (spD K n S') ξ.Ex (liftA K ξ t) (liftA K ξ tk) σ H Q :=
  fun σ H Q ⟨τ, G, P, rs, rl, p, k⟩ => ⟨τ, G, _, rs, rl, p, fun ds G1 vs H1 z r1 f1 p1 => ⟨τ, G1, _, rs.mono (f1.keeps rl.1), r1, p1, fun zs G2 us H2 z2 r2 f2 ⟨l1, l2, l3, p2⟩ =>
    ⟨by rw [z.length]; exact l1, by rw [z2.length]; exact l2, _, G2, P, ξ.EX, pmV_rep (z.mono (f2.keeps r1.1)) z2 pm, r2.1, l3, p2, fun d G' v H' z3 r3 f3 p3 => k d G' v H' z3 (r2.to r3 f3) (f1.trans (f2.trans f3)) p3, r2.2⟩⟩⟩
theorem kws_each {pos : Pos} {env : Env} : ∀ {kws : List Keyword}, (backToKw pos (keywordEach kws env)).map (·.1) = kwNames kws
  | [] => rfl
  | ⟨n, e, p⟩ :: kws => by
    show n :: (backToKw pos (keywordEach kws env)).map (·.1) = n :: kwNames kws
    rw [kws_each]
theorem kws_all {pos : Pos} {env : Env} {kws : List Keyword} {ks : List String} (h : kwNames kws = ks.map fun k => some (Str.ofString k)) : (backToKw pos (keywordEach kws env)).all (·.1.isSome) = true ∧ (backToKw pos (keywordEach kws env)).filterMap (·.1) = ks.map Str.ofString ∧ (backToKw pos (keywordEach kws env)).any (·.1.isNone) = false := by
  have e := kws_each (pos := pos) (env := env) (kws := kws)
  rw [h] at e
  refine ⟨?_, ?_, ?_⟩
  · rw [List.all_eq_true]
    intro x hx
    have : x.1 ∈ (backToKw pos (keywordEach kws env)).map (·.1) := List.mem_map_of_mem hx
    rw [e] at this
    obtain ⟨k, _, q⟩ := List.mem_map.mp this
    rw [← q]; rfl
  · have : (backToKw pos (keywordEach kws env)).filterMap (·.1) = ((backToKw pos (keywordEach kws env)).map (·.1)).filterMap id := by rw [List.filterMap_map]; rfl
    rw [this, e, List.filterMap_map]
    have : ∀ l : List String, l.filterMap (id ∘ fun k => some (Str.ofString k)) = l.map Str.ofString := fun l => by
      induction l with
      | nil => rfl
      | cons x l ih => rw [List.filterMap_cons, List.map_cons, ih]; rfl
    exact this ks
  · rw [List.any_eq_false]
    intro x hx
    have : x.1 ∈ (backToKw pos (keywordEach kws env)).map (·.1) := List.mem_map_of_mem hx
    rw [e] at this
    obtain ⟨k, _, q⟩ := List.mem_map.mp this
    rw [← q]; simp
theorem pk_of : ∀ {kws : List Keyword} {ts : List DTE}, Paired (fun t e => DE X ξ e t) ts (kwVals kws) → PK X kws (liftA X.K ξ (ts.foldr dCons dNil))
  | [], [], .nil => ⟨fun pos pins s σ H Q I ⟨τ, G, P, rs, rl, p, k⟩ => pk_nil.run pos pins s σ H Q I (k [] G [] H (repL_nil.mpr rfl) rl (Frame.refl _ _) p)⟩
  | ⟨n, e, p⟩ :: kws, t :: ts, .cons h r => by
    have ih := pk_of r
    refine ⟨fun pos pins s σ H Q I ⟨τ, G, P, rs, rl, pp, k⟩ => (pk_cons (nm := n) (kpos := p) h ih).run pos pins s σ H Q I ⟨τ, G, _, rs, rl, pp, fun x G1 v H1 z r1 f1 p1 => ⟨τ, G1, _, rs.mono (f1.keeps rl.1), r1, p1, fun xs G2 vs H2 z2 r2 f2 p2 => k (x :: xs) G2 (v :: vs) H2 (repL_cons.mpr ⟨v, vs, rfl, z.mono (f2.keeps r1.1), z2⟩) r2 (f1.trans f2) p2⟩⟩⟩
theorem denA_fold (T : GT) (C : Nat → DSp) (E : DXK) : ∀ xs : List DX, denA T C E xs = (denL T C E xs).foldr dCons dNil
  | [] => by unfold denA denL; rfl
  | x :: xs => by rw [denA, denL, List.foldr_cons, denA_fold T C E xs]
theorem de_callK (c : Cok T S C j X ξ) {y : Str} {x : String} {f n m : Nat} {pm : List Nat} {ps ks : List String} {es : List Expr} {kws : List Keyword} {t : DTA} {ts : List DTE} {p pos : Pos} (hg : gN S y x = true) (hf : (x, f, ps) ∈ T.kfns) (hs : es.all notStar = true) (hm : es.length = m) (hb : kwB m n pm ps ks = true)
    (hn : kwNames kws = ks.map fun k => some (Str.ofString k)) (ha : DA X ξ es t) (h0 : es = [] → t = dNil) (hk : Paired (fun t e => DE X ξ e t) ts (kwVals kws)) : DE X ξ (.Call (.Name y p) es kws pos) (dCallKN m ks.length n pm (C f) ξ.EX t (ts.foldr dCons dNil)) := by
  obtain ⟨e, g, d, _⟩ := gN_ok c hg
  obtain ⟨a, fd, h1, h2, h3, h4, h5⟩ := c.g.kfns x f ps hf
  subst e
  unfold kwB at hb
  simp only [Bool.and_eq_true, decide_eq_true_eq, List.all_eq_true] at hb
  obtain ⟨b1, b2, b3, b4, b5, b6⟩ := hb
  subst b2
  have hbind : ∀ (s : Shared) (us ws : List Value), us.length = m → ws.length = (ks.map Str.ofString).length → BindsTo s fd ⟨us, (ks.map Str.ofString).zip ws⟩ ((ps.map Str.ofString).zip (pmV pm us ws)) := fun s us ws l1 l2 => by
    refine BindsTo.of_eq ?_
    have key := bind_kw (fd := fd) (ps := ps.map Str.ofString) (ks := ks.map Str.ofString) (us := us) (ws := ws) h4 h5 (by rw [l1, List.length_map]; exact b1) l2 b3 (fun k hk => by
      obtain ⟨q, hq, rfl⟩ := List.mem_map.mp hk
      rw [l1]; exact b6 q hq) (fun n hn => by
      rw [l1, b4] at hn
      obtain ⟨j, _, hj⟩ := List.mem_filterMap.mp hn
      exact List.mem_of_getElem? hj)
    rw [key, l1, b4, kwR_pm b3 l2 fun j hj => by rw [List.length_map]; exact b5 j hj]
    rfl
  obtain ⟨k1, k2, k3⟩ := kws_all (pos := pos) (env := X.env) hn
  have hkw := pk_of (X := X) (ξ := ξ) hk
  have hl : (ks.map Str.ofString).length = ks.length := List.length_map ..
  cases es with
  | nil =>
    rw [h0 rfl]
    have key := pe_callKN0 (p := p) (pos := pos) (m := m) (pm := pm) h3 (c.room.mono (Nat.le_succ _)) g h1 h2 hbind c.pass hkw k1 k2 d (by rw [k3]; rfl)
    rw [hl] at key
    refine pe_weak key fun σ H Q q => ?_
    have q2 := lift_callKN dNil _ σ H Q q
    exact lift_nil σ H _ q2
  | cons e es =>
    have hs' := hs
    rw [List.all_cons, Bool.and_eq_true] at hs
    have key := pe_callKN (p := p) (pos := pos) (m := m) (pm := pm) h3 (c.room.mono (Nat.le_succ _)) g h1 h2 hbind c.pass ha hkw k1 k2 d (star_cons hs.1) (by rw [k3, star_all hs']; rfl)
    rw [hl] at key
    exact pe_weak key (lift_callKN t _)
theorem de_kget (c : Cok T S C j X ξ) {y g : Str} {x : String} {u : Expr} {te : DTE} {p ap pos : Pos} (hg : gN S y x = true) (hgt : g = Str.ofString "get") (hf : (T.kds.any fun q => q.1 == x) = true) (hs : notStar u = true) (hp : (ap.endLine == pos.line) = true) (he : DE X ξ u te) :
    DE X ξ (.Call (.Attribute (.Name y p) g ap) [u] [] pos) (dKget (T.kds.lookup x) te) := by
  obtain ⟨e, gg, d, _⟩ := gN_ok c hg
  subst e hgt
  cases hl : T.kds.lookup x with
  | none =>
    exact ⟨fun pins s σ H Q I ⟨τ, G, P, rs, rl, pp, k⟩ => by
      exfalso
      obtain ⟨q, hq, hx⟩ := List.any_eq_true.mp hf
      have hx' := eq_of_beq hx
      have : ∀ l : List (String × List (String × DV)), q ∈ l → l.lookup x ≠ none := fun l => by
        induction l with
        | nil => intro h; cases h
        | cons a l ih =>
          intro h hn
          obtain ⟨a1, a2⟩ := a
          rw [List.lookup_cons] at hn
          rcases List.mem_cons.mp h with z | z
          · rw [← hx', z, beq_self_eq_true] at hn; cases hn
          · cases hb : (x == a1) with
            | true => rw [hb] at hn; cases hn
            | false => rw [hb] at hn; exact ih z hn
      exact this _ hq hl⟩
  | some l =>
    obtain ⟨a, es, n, h1, D, hz⟩ := c.g.kds x l hl
    have hst : ([u] : List Expr).all notStar = true := by simp [hs]
    have hfew : ((backTo pos (starEach [u] X.env)).all (fun x => !x.1) && (backToKw pos (keywordEach [] X.env)).all (fun x => x.1.isSome)
      && decide ([u].length + ([] : List Keyword).length + (if ([] : List Keyword).isEmpty then 0 else 1) < 30)) = true := by
      rw [star_none hst]
      simp [keywordEach, backToKw]
    refine pe_weak (pe_kget D (pe_glob gg h1 rfl d) he (base_of rfl) hfew hp (star_cons hs)) fun σ H Q ⟨τ, G, P, rs, rl, pp, k⟩ => ⟨τ, G, _, rs, rl, pp, fun yv G1 v H1 z r1 f1 ⟨s, l', e1, e2, p1⟩ => ?_⟩
    subst e1
    cases e2
    obtain ⟨r, n1, n2, n3⟩ := hz s
    refine ⟨s, r, rep_str.mp z, n1, fun hr => ?_, fun w hr => ?_⟩
    · have hk : kdAt l s = none := by
        cases q : kdAt l s with
        | none => rfl
        | some dd =>
          obtain ⟨u', v', e3, _⟩ := n3 dd q
          rw [hr] at e3; cases e3
      rw [hk] at p1
      exact k _ G1 _ H1 (rep_non.mpr rfl) r1 f1 p1
    · cases q : kdAt l s with
      | none => rw [n2 q] at hr; cases hr
      | some dd =>
        obtain ⟨u', v', e3, rv, z3⟩ := n3 dd q
        rw [hr] at e3; cases e3
        rw [q] at p1
        exact ⟨v', rv, k _ G1 _ H1 (z3.mono (keeps_H0 H1)) r1 f1 p1⟩
theorem de_call (c : Cok T S C j X ξ) {y : Str} {x : String} {f n : Nat} {es : List Expr} {t : DTA} {p pos : Pos} (hg : gN S y x = true) (hf : (x, f, n) ∈ T.fns) (hs : es.all notStar = true) (ha : DA X ξ es t) (h0 : es = [] → t = dNil) : DE X ξ (.Call (.Name y p) es [] pos) (dCall n (C f) ξ.EX t) := by
  obtain ⟨e, g, d, _⟩ := gN_ok c hg
  obtain ⟨a, fd, ps, h1, h2, h3, h4⟩ := c.g.fns x f n hf
  subst e
  cases es with
  | nil =>
    rw [h0 rfl]
    refine pe_weak (pe_call0 h4 (c.room.mono (Nat.le_succ _)) g h1 h2 h3 .nil c.pass d) fun σ H Q q => ?_
    exact lift_nil σ H _ (lift_call dNil σ H Q q)
  | cons e es =>
    rw [List.all_cons, Bool.and_eq_true] at hs
    exact pe_weak (pe_call h4 (c.room.mono (Nat.le_succ _)) g h1 h2 h3 .nil c.pass ha d (star_cons hs.1) (star_all hs.2)) (lift_call t)
theorem de_mk (c : Cok T S C j X ξ) {y : Str} {x cl : String} {f n : Nat} {es : List Expr} {t : DTA} {p pos : Pos} (hg : gN S y x = true) (hf : (x, cl, f, n) ∈ T.mks) (hs : es.all notStar = true) (ha : DA X ξ es t) (h0 : es = [] → t = dNil) : DE X ξ (.Call (.Name y p) es [] pos) (dMk cl n (C f) ξ.EX t) := by
  obtain ⟨e, g, d, _⟩ := gN_ok c hg
  obtain ⟨a, fd, ps, h1, h2, h3, h4⟩ := c.g.mks x cl f n hf
  subst e
  cases es with
  | nil =>
    rw [h0 rfl]
    refine pe_weak (pe_make0 h2 h4 c.room g h1 h3 .nil c.pass d) fun σ H Q q => ?_
    exact lift_nil σ H _ (lift_mk dNil σ H Q q)
  | cons e es =>
    rw [List.all_cons, Bool.and_eq_true] at hs
    exact pe_weak (pe_make h2 h4 c.room g h1 h3 .nil c.pass ha d (star_cons hs.1) (star_all hs.2)) (lift_mk t)
theorem de_own (c : Cok T S C j X ξ) {m : Str} {cl x : String} {f n : Nat} {o : Expr} {es : List Expr} {to : DTE} {t : DTA} {ap pos : Pos} (hm : m = Str.ofString x) (hf : (cl, x, f, n) ∈ T.mets) (ho : notSuper o = true) (hs : es.all notStar = true) (hl : es.length < 30) (hp : (ap.endLine == pos.line) = true)
    (he : DE X ξ o to) (ha : DA X ξ es t) (h0 : es = [] → t = dNil) : DE X ξ (.Call (.Attribute o m ap) es [] pos) (dOwn cl x n (C f) ξ.EX to t) := by
  obtain ⟨a, fd, ps, h1, h2, h3, h4⟩ := c.g.mets cl x f n hf
  subst hm
  cases es with
  | nil =>
    rw [h0 rfl]
    refine pe_weak (pe_meth0 he h1 h2 h4 (c.room.mono (Nat.le_succ _)) h3 .nil c.pass (meth_eq ho hs hl hp)) fun σ H Q q => ?_
    obtain ⟨τ, G, P, rs, rl, p, k⟩ := lift_own to dNil σ H Q q
    refine ⟨τ, G, P, rs, rl, p, fun d G' v H' z r f q => ?_⟩
    obtain ⟨a, dx, fs, q1, q2, q3, q4⟩ := k d G' v H' z r f q
    exact ⟨a, dx, fs, q1, q2, q3, lift_nil _ _ _ q4⟩
  | cons e es =>
    have hs' := hs
    rw [List.all_cons, Bool.and_eq_true] at hs
    exact pe_weak (pe_meth he h1 h2 h4 (c.room.mono (Nat.le_succ _)) h3 .nil c.pass ha (star_cons hs.1) (star_all hs.2) (meth_eq ho hs' hl hp)) (lift_own to t)
theorem de_bf (c : Cok T S C j X ξ) {y : Str} {b : BF} {es : List Expr} {t : DTA} {p pos : Pos} (hg : gN S y (bfN b) = true) (hf : bfN b ∈ T.free) (hs : es.all notStar = true) (hn : es.isEmpty = false) (ha : DA X ξ es t) : DE X ξ (.Call (.Name y p) es [] pos) (dCB (bfD b) t) := by
  obtain ⟨e, g, d, nn⟩ := gN_ok c hg
  have hm := c.g.free _ hf
  obtain ⟨r, h1, h2⟩ := bf_ok c b
  subst e
  cases es with
  | nil => cases hn
  | cons e es =>
    rw [List.all_cons, Bool.and_eq_true] at hs
    have hb := bf_boot b
    cases b <;> first
      | exact pe_weak (pe_callB h1 g hm hb ha nn d (star_cons hs.1) (star_all hs.2)) (lift_cb h2 t)
      | exact pe_weak (pe_callTy h1 g hm hb ha nn d (star_cons hs.1) (star_all hs.2)) (lift_cb h2 t)
theorem de_lzip (c : Cok T S C j X ξ) {y z : Str} {es : List Expr} {t : DTA} {p p2 cpos pos : Pos} (hg : gN S y "list" = true) (hf : "list" ∈ T.free) (hg2 : gN S z "zip" = true) (hf2 : "zip" ∈ T.free) (hs : es.all notStar = true) (hn : es.length = 2) (ha : DA X ξ es t) :
    DE X ξ (.Call (.Name y p) [.Call (.Name z p2) es [] cpos] [] pos) (dLzip t) := by
  obtain ⟨e, g, d, nn⟩ := gN_ok c hg
  obtain ⟨e2, g2, d2, nn2⟩ := gN_ok c hg2
  subst e e2
  match es, hn, hs, ha with
  | [a, b], _, hs, ha =>
    rw [List.all_cons, Bool.and_eq_true] at hs
    exact pe_weak (LzI.pe_listZip c.calm ha g (c.g.free _ hf) g2 (c.g.free _ hf2) (star_cons hs.1) (star_all hs.2) (star_cons rfl)) (lift_lzip t)
theorem de_lam (c : Cok T S C j X ξ) {L : LF.LamT} {params : Arguments} {body : Expr} {scope : Scope} {pos : Pos} (h1 : S.lam = true) (h2 : L.q = S.q) (h3 : eqLam L params body scope = true) : DE X ξ (.Lambda params body scope pos) (dLam L) := by
  obtain ⟨cc, P, e1, e2, e3, e4⟩ := c.lam h1
  obtain ⟨a1, a2, a3⟩ := eqLam_ok h3
  have key := LF.pe_mkLam (X := X) (T := LamTab X.K) (pos := pos) (params := params) (body := body) (scope := scope) e2 e1 (by rw [e4]; exact e3) (fun q hq => by rw [e4]; exact c.g.lamU P _ _ hq e3) (a2 _) a3
  rw [e4, ← h2, ← a1] at key
  exact pe_weak key lift_lam
theorem de_callV (c : Cok T S C j X ξ) {i : Nat} {x : Str} {es : List Expr} {t : DTA} {p pos : Pos} (h1 : S.N[i]? = some x) (h2 : visB S.sc x = true) (h3 : noDbg x = true) (hs : es.all notStar = true) (hn : es.isEmpty = false) (ha : DA X ξ es t) : DE X ξ (.Call (.Name x p) es [] pos) (dCallF T.lams C ξ.EX i t) := by
  obtain ⟨d1, d2, _⟩ := noDbg_ok h3
  cases es with
  | nil => cases hn
  | cons e es =>
    rw [List.all_cons, Bool.and_eq_true] at hs
    exact pe_weak (LF.pe_callF (S := fun L sp => ∃ f n, (L, f, n) ∈ T.lams ∧ sp = spD X.K n (C f)) (fun L sp ⟨f, n, h, e⟩ => by rw [e]; exact c.g.lams L f n h) (c.room.mono (Nat.le_succ _)) (by rw [c.N]; exact h1) (by rw [c.sc]; exact visB_ok h2) c.pass ha d1 d2 (star_cons hs.1) (star_all hs.2)) (lift_callF t)
theorem de_bm (c : Cok T S C j X ξ) {m : Str} {b : BM} {o : Expr} {es : List Expr} {to : DTE} {t : DTA} {ap pos : Pos} (hm : m = Str.ofString (bmN b)) (ho : notSuper o = true) (hs : es.all notStar = true) (hl : es.length < 30) (hp : (ap.endLine == pos.line) = true)
    (he : DE X ξ o to) (ha : DA X ξ es t) (h0 : es = [] → t = dNil) : DE X ξ (.Call (.Attribute o m ap) es [] pos) (dBM (bmT b) (bmD b) to t) := by
  obtain ⟨id, r, h1, h2, h3, h4, h5⟩ := bm_ok c b
  subst hm
  cases es with
  | nil =>
    rw [h0 rfl]
    refine pe_weak (pe_bm0 h1 h2 h3 h4 he (base_of ho) hp) fun σ H Q q => ?_
    obtain ⟨τ, G, P, rs, rl, p, k⟩ := lift_bm h5 to dNil σ H Q q
    refine ⟨τ, G, P, rs, rl, p, fun d G' v H' z r f q => ?_⟩
    obtain ⟨q1, q2⟩ := k d G' v H' z r f q
    exact ⟨q1, lift_nil _ _ _ q2⟩
  | cons e es =>
    have hs' := hs
    rw [List.all_cons, Bool.and_eq_true] at hs
    have hfew : ((backTo pos (starEach (e :: es) X.env)).all (fun x => !x.1) && (backToKw pos (keywordEach [] X.env)).all (fun x => x.1.isSome)
      && decide ((e :: es).length + ([] : List Keyword).length + (if ([] : List Keyword).isEmpty then 0 else 1) < 30)) = true := by
      rw [star_none hs']
      simp [keywordEach, backToKw]
      simpa using hl
    exact pe_weak (pe_bm h1 h2 h3 h4 he ha (base_of ho) hfew hp (star_cons hs.1) (star_all hs.2)) (lift_bm h5 to t)
theorem de_isi (c : Cok T S C j X ξ) {y z : Str} {x : String} {cl : TN} {u : Expr} {t : DTE} {p p2 pos : Pos} (hg : gN S y "isinstance" = true) (hf : "isinstance" ∈ T.free) (hz : gN S z x = true) (hc : (x, cl) ∈ T.clss) (hs : notStar u = true) (ha : DE X ξ u t) :
    DE X ξ (.Call (.Name y p) [u, .Name z p2] [] pos) (dIsi T.tys T.sub cl t) := by
  obtain ⟨e, g, d, nn⟩ := gN_ok c hg
  obtain ⟨e2, g2, d2, nn2⟩ := gN_ok c hz
  have hm := c.g.free _ hf
  obtain ⟨h1, h2⟩ := c.g.isi x cl hc
  subst e e2
  have hb : bootBuiltins (Str.ofString "isinstance") = some (.builtin "isinstance") := by kernel_rfl
  have hst : ([.Name (Str.ofString x) p2] : List Expr).all notStar = true := rfl
  have key : ∀ (cv : V), ClsV cv (cl.v X.K) → PE X (.Name (Str.ofString x) p2) (tC cv) → DE X ξ (.Call (.Name (Str.ofString "isinstance") p) [u, .Name (Str.ofString x) p2] [] pos) (dIsi T.tys T.sub cl t) := fun cv hcv hp =>
    pe_weak (pe_callB call_isi g hm hb (pa_cons ha (pa_cons hp pa_nil) (star_cons hs)) nn d (star_cons hs) (star_all hst)) fun σ H Q q => lift_isi t h2 hcv σ H Q q
  cases cl with
  | b n =>
    obtain ⟨h3, h4⟩ := h1
    exact key (.ty n) (.ty n) (pe_bltn g2 h3 h4 rfl nn2 d2)
  | o cc => exact key (.ref _) (.own _) (pe_glob g2 h1 rfl d2)
end
end DL
end
section
set_option Elab.async false
set_option linter.all false
set_option maxRecDepth 100000
set_option autoImplicit false
namespace DL
open PySem PySem.Spec PyProof.Rows L2
section
variable {T : GT} {S : SC} {C : Nat → DSp} {j : Nat} {X : Cx} {ξ : XP} {K : PySem.W.Frag}
theorem di_never {t e : Expr} : DI X ξ t e (fun _ _ _ => False) := ⟨fun _ _ _ _ _ _ ⟨_, _, _, _, _, z, _⟩ => z.elim⟩
theorem it_ok (c : Cok T S C j X ξ) {ik : IK} {t iter : Expr} {es : List Expr} {ts : List DTE} {ta : DTA} (h : itArgs T S ik t iter = some es) (ha : DA X ξ es ta) (hl : ∀ e te, es = [e] → ts = [te] → DE X ξ e te) : DI X ξ t iter (dIter ik ts ta) := by
  have call : ∀ {es : List Expr}, es.all notStar = true → ∀ (a : Expr), es = [a] → starEach [a] X.env = [(false, eval a X.env)] := fun hs a e => by
    subst e
    rw [List.all_cons, Bool.and_eq_true] at hs
    exact star_cons hs.1
  cases ik with
  | seq =>
    unfold itArgs at h
    simp only at h
    split at h
    · cases h
      match ts, hl with
      | [te], hl => exact di_seq (hl iter te rfl rfl)
      | [], _ => exact di_never
      | _ :: _ :: _, _ => exact di_never
    · cases h
  | rng1 =>
    unfold itArgs at h
    simp only at h
    split at h
    · rename_i y p es' pos
      split at h
      · rename_i q
        cases h
        simp only [Bool.and_eq_true, beq_iff_eq] at q
        obtain ⟨q1, q2, q3, q4⟩ := q
        obtain ⟨e, g, d, nn⟩ := gN_ok c q3
        have hm := c.g.free _ (mem_of_c q4)
        subst e
        match es, q1, q2, ha with
        | [a], q1, _, ha => exact pi_weak (pi_range1 g hm ha (call q1 a rfl)) (lift_rng1 ta)
      · cases h
    · cases h
  | rng2 =>
    unfold itArgs at h
    simp only at h
    split at h
    · rename_i y p es' pos
      split at h
      · rename_i q
        cases h
        simp only [Bool.and_eq_true, beq_iff_eq] at q
        obtain ⟨q1, q2, q3, q4⟩ := q
        obtain ⟨e, g, d, nn⟩ := gN_ok c q3
        have hm := c.g.free _ (mem_of_c q4)
        subst e
        match es, q1, q2, ha with
        | [a, b], q1, _, ha =>
          rw [List.all_cons, Bool.and_eq_true, List.all_cons, Bool.and_eq_true] at q1
          have e2 : starEach [b] X.env = [(false, eval b X.env)] := star_cons q1.2.1
          exact pi_weak (pi_range2 g hm ha (by rw [star_cons q1.1, e2]) e2) (lift_rng2 ta)
      · cases h
    · cases h
  | zip =>
    unfold itArgs at h
    simp only at h
    split at h
    · rename_i y p es' pos
      split at h
      · rename_i q
        cases h
        simp only [Bool.and_eq_true, beq_iff_eq] at q
        obtain ⟨q1, q2, q3, q4, q5⟩ := q
        obtain ⟨e, g, d, nn⟩ := gN_ok c q3
        have hm := c.g.free _ (mem_of_c q4)
        subst e
        cases t <;> try cases q5
        match es, q1, q2, ha with
        | [a, b], q1, _, ha =>
          rw [List.all_cons, Bool.and_eq_true] at q1
          exact pi_weak (RZ.pi_zipA g hm ha (star_cons q1.1) (star_all q1.2)) (lift_zip ta)
      · cases h
    · cases h
  | enum =>
    unfold itArgs at h
    simp only at h
    split at h
    · rename_i y p es' pos
      split at h
      · rename_i q
        cases h
        simp only [Bool.and_eq_true, beq_iff_eq] at q
        obtain ⟨q1, q2, q3, q4, q5⟩ := q
        obtain ⟨e, g, d, nn⟩ := gN_ok c q3
        have hm := c.g.free _ (mem_of_c q4)
        subst e
        cases t <;> try cases q5
        match es, q1, q2, ha with
        | [a], q1, _, ha => exact pi_weak (pi_enumA g hm ha (call q1 a rfl)) (lift_enum ta)
      · cases h
    · cases h
theorem it_star {ik : IK} {t iter : Expr} {es : List Expr} (h : itArgs T S ik t iter = some es) : es.all notStar = true := by
  unfold itArgs at h
  cases ik with
  | seq =>
    simp only at h
    split at h
    · rename_i q
      cases h
      simp only [Bool.and_eq_true] at q
      simp [q.2]
    · cases h
  | _ =>
    simp only at h
    split at h
    · split at h
      · rename_i q
        cases h
        exact (and2 q).1
      · cases h
    · cases h
theorem lift_yes : ∀ σ H Q, liftT K ξ dYes σ H Q → tYes σ H Q := fun σ H Q ⟨τ, G, P, rs, rl, p, k⟩ => k true G H rl (Frame.refl _ _) p
end
end DL
end
section
set_option Elab.async false
set_option linter.all false
set_option maxRecDepth 100000
set_option autoImplicit false
namespace DL
open PySem PySem.Spec PyProof.Rows L2
section
variable {T : GT} {C : Nat → DSp} {j : Nat}
theorem chkA_nil {S : SC} {xs : List DX} (h : chkA T S xs [] = true) : xs = [] := by
  cases xs with
  | nil => rfl
  | cons x xs => unfold chkA at h; cases h
/-- an expression is what its picture computes: as a value, as a test -/
def Snd (T : GT) (C : Nat → DSp) (j : Nat) (x : DX) : Prop := ∀ (S : SC) (X : Cx) (ξ : XP) (e : Expr), Cok T S C j X ξ → chk T S x e = true → DE X ξ e (den T C ξ.EX x) ∧ DT X ξ e (denT T C ξ.EX x)
structure SndA (T : GT) (C : Nat → DSp) (j : Nat) (xs : List DX) : Prop where
  a : ∀ {S : SC} {X : Cx} {ξ : XP} {es : List Expr}, Cok T S C j X ξ → chkA T S xs es = true → es.all notStar = true → DA X ξ es (denA T C ξ.EX xs)
  l : ∀ {S : SC} {X : Cx} {ξ : XP} {es : List Expr} {e : Expr} {te : DTE}, Cok T S C j X ξ → chkA T S xs es = true → es = [e] → denL T C ξ.EX xs = [te] → DE X ξ e te
  e : ∀ {S : SC} {X : Cx} {ξ : XP} {es : List Expr}, Cok T S C j X ξ → chkA T S xs es = true → Paired (fun t e => DE X ξ e t) (denL T C ξ.EX xs) es
  an : ∀ {S : SC} {X : Cx} {ξ : XP} {es : List Expr} {pos : Pos}, Cok T S C j X ξ → chkA T S xs es = true → DE X ξ (.BoolOp .And es pos) (denAnd T C ξ.EX xs) ∧ DW X ξ (.BoolOp .And es pos) (denAndT T C ξ.EX xs)
  or : ∀ {S : SC} {X : Cx} {ξ : XP} {es : List Expr} {pos : Pos}, Cok T S C j X ξ → chkA T S xs es = true → DE X ξ (.BoolOp .Or es pos) (denOr T C ξ.EX xs) ∧ DW X ξ (.BoolOp .Or es pos) (denOrT T C ξ.EX xs)
  c : ∀ {S : SC} {X : Cx} {ξ : XP} {es : List Expr}, Cok T S C j X ξ → chkA T S xs es = true → PTs X es (liftT X.K ξ (denC T C ξ.EX xs))
theorem pts_never {X : Cx} {ξ : XP} {es : List Expr} : PTs X es (liftT X.K ξ dFalseT) := ⟨fun _ _ _ _ _ _ ⟨_, _, _, _, _, z, _⟩ => z.elim⟩
theorem pts_weak {X : Cx} {e : List Expr} {t t' : TT} (h : PTs X e t) (w : ∀ σ H Q, t' σ H Q → t σ H Q) : PTs X e t' := ⟨fun pins s σ H Q I q => h.run pins s σ H Q I (w σ H Q q)⟩
/-- a value's test -/
theorem val_of {X : Cx} {ξ : XP} {e : Expr} {t : DTE} (h : DE X ξ e t) (p : plainT e = true) : DT X ξ e (dTest t) := dt_val h fun whole => true_of p
theorem omap_id {α : Type} : ∀ {keys : List (Option α)} {es : List α}, omap id keys = some es → keys = es.map some
  | [], es, q => by cases q; rfl
  | none :: ks, es, q => by
    unfold omap at q
    simp at q
  | some k :: ks, es, q => by
    unfold omap at q
    cases q2 : omap id ks with
    | none => rw [q2] at q; simp at q
    | some r =>
      rw [q2] at q
      simp only [id, Option.some.injEq] at q
      rw [← q, List.map_cons, omap_id q2]
mutual
theorem snd : ∀ x : DX, Snd T C j x
  | .v i => fun S X ξ e c h => by
    unfold chk at h
    split at h
    · rename_i x p
      obtain ⟨h1, h2⟩ := and2 h
      obtain ⟨h2, h3⟩ := and2 h2
      obtain ⟨d1, d2, _⟩ := noDbg_ok h3
      have key : DE X ξ (.Name x p) (dVar i) := de_var (by rw [c.N]; exact of_decide_eq_true h1) (by rw [c.sc]; exact visB_ok h2) d1 d2
      unfold den denT
      exact ⟨key, val_of key rfl⟩
    · cases h
  | .int i => fun S X ξ e c h => by
    unfold chk at h
    split at h
    · cases of_decide_eq_true h
      unfold den denT
      exact ⟨de_int, dt_never⟩
    · cases h
  | .bl b => fun S X ξ e c h => by
    unfold chk at h
    split at h
    · have e1 := eq_of_beq h
      subst e1
      unfold den denT
      exact ⟨de_bl, val_of de_bl rfl⟩
    · cases h
  | .non => fun S X ξ e c h => by
    unfold chk at h
    split at h
    · unfold den denT
      exact ⟨de_non, dt_never⟩
    · cases h
  | .str s => fun S X ξ e c h => by
    unfold chk at h
    split at h
    · have e1 := isN_ok h
      subst e1
      unfold den denT
      exact ⟨de_str, dt_never⟩
    · cases h
  | .g i => fun S X ξ e c h => by
    unfold chk at h
    split at h
    · rename_i x p
      unfold den denT
      cases q : T.vals[i]? with
      | none => rw [q] at h; cases h
      | some v =>
        rw [q] at h
        obtain ⟨e1, g, d, _⟩ := gN_ok c h
        obtain ⟨w, u, h1, h2, h3⟩ := c.g.vals i v q
        rw [← e1] at h1
        exact ⟨de_glob g h1 h2 h3 d, dt_never⟩
    · cases h
  | .bin o a b => fun S X ξ e c h => by
    unfold chk at h
    split at h
    · obtain ⟨h1, h2⟩ := and2 h
      obtain ⟨h2, h3⟩ := and2 h2
      cases of_decide_eq_true h1
      obtain ⟨r, q1, q2⟩ := bo_ok c o
      unfold den denT
      exact ⟨de_bin q1 q2 (snd a _ _ _ _ c h2).1 (snd b _ _ _ _ c h3).1, dt_never⟩
    · cases h
  | .neg a => fun S X ξ e c h => by
    unfold chk at h
    split at h
    · unfold den denT
      exact ⟨de_un un_neg dop_neg (snd a _ _ _ _ c h).1, dt_never⟩
    · cases h
  | .cmp o a b => fun S X ξ e c h => by
    unfold chk at h
    split at h
    · obtain ⟨h1, h2⟩ := and2 h
      obtain ⟨h2, h3⟩ := and2 h2
      obtain ⟨h3, h4⟩ := and2 h3
      cases of_decide_eq_true h1
      obtain ⟨r, q1, q2⟩ := co_ok c o
      unfold den denT
      exact ⟨de_cmp q1 q2 (snd a _ _ _ _ c h3).1 (snd b _ _ _ _ c h4).1 (behind_of h2), dt_cmp q1 q2 (snd a _ _ _ _ c h3).1 (snd b _ _ _ _ c h4).1 (behind_of h2)⟩
    · cases h
  | .chain o o' a b d => fun S X ξ e c h => by
    unfold chk at h
    split at h
    · obtain ⟨h1, h2⟩ := and2 h
      obtain ⟨h2, h3⟩ := and2 h2
      obtain ⟨h3, h4⟩ := and2 h3
      obtain ⟨h4, h5⟩ := and2 h4
      obtain ⟨h5, h6⟩ := and2 h5
      cases of_decide_eq_true h1
      cases of_decide_eq_true h2
      obtain ⟨r, q1, q2⟩ := co_ok c o
      obtain ⟨r', q1', q2'⟩ := co_ok c o'
      have sa := (snd a _ _ _ _ c h4).1
      have sb := (snd b _ _ _ _ c h5).1
      have sd := (snd d _ _ _ _ c h6).1
      unfold den denT
      refine ⟨de_chain q2 q2' (pe_chain q1 q1' sa sb sd (last_of h3)), ?_⟩
      exact pt_weak (pt_chain q1 q1' sa sb sd (last_of h3)) fun σ H Q q => lift_chain q2 q2' _ _ _ σ H _ (lift_test _ σ H Q q |> fun z => by
        obtain ⟨τ, G, P, rs, rl, p, k⟩ := q
        exact ⟨τ, G, _, rs, rl, p, fun d G' v H' z r f ⟨cc, e, p1⟩ => by subst e; exact ⟨cc, rep_bl.mp z, k cc G' H' r f p1⟩⟩)
    · cases h
  | .not a => fun S X ξ e c h => by
    unfold chk at h
    split at h
    · unfold den denT
      exact ⟨de_not (snd a _ _ _ _ c h).1, dt_not (snd a _ _ _ _ c h).2⟩
    · cases h
  | .and xs => fun S X ξ e c h => by
    unfold chk at h
    split at h
    · unfold den denT
      obtain ⟨q1, q2⟩ := (sndA xs).an (pos := by assumption) c h
      exact ⟨q1, q2.pt⟩
    · cases h
  | .or xs => fun S X ξ e c h => by
    unfold chk at h
    split at h
    · unfold den denT
      obtain ⟨q1, q2⟩ := (sndA xs).or (pos := by assumption) c h
      exact ⟨q1, q2.pt⟩
    · cases h
  | .ite z a b => fun S X ξ e c h => by
    unfold chk at h
    split at h
    · obtain ⟨h1, h2⟩ := and2 h
      obtain ⟨h2, h3⟩ := and2 h2
      refine ⟨?_, ?_⟩
      · rw [den]
        exact de_ite (snd z _ _ _ _ c h1).2 (snd a _ _ _ _ c h2).1 (snd b _ _ _ _ c h3).1
      · rw [denT]
        exact dt_ite (snd z _ _ _ _ c h1).2 (snd a _ _ _ _ c h2).2 (snd b _ _ _ _ c h3).2
    · cases h
  | .ix a b => fun S X ξ e c h => by
    unfold chk at h
    split at h
    · obtain ⟨h1, h2⟩ := and2 h
      obtain ⟨h2, h3⟩ := and2 h2
      have hu := c.room.units
      have key := de_ix (pos := by assumption) (ix_all (X := X) (by omega)) dop_ix (snd a _ _ _ _ c h2).1 (snd b _ _ _ _ c h3).1 (ix_of h1)
      unfold den denT
      exact ⟨key, val_of key rfl⟩
    · cases h
  | .sl0 a => fun S X ξ e c h => by
    unfold chk at h
    split at h
    · unfold den denT
      exact ⟨de_slice (snd a _ _ _ _ c h).1 do_none do_none, dt_never⟩
    · cases h
  | .slL a lo => fun S X ξ e c h => by
    unfold chk at h
    split at h
    · obtain ⟨h1, h2⟩ := and2 h
      unfold den denT
      exact ⟨de_slice (snd a _ _ _ _ c h1).1 (do_some (snd lo _ _ _ _ c h2).1) do_none, dt_never⟩
    · cases h
  | .slH a hi => fun S X ξ e c h => by
    unfold chk at h
    split at h
    · obtain ⟨h1, h2⟩ := and2 h
      unfold den denT
      exact ⟨de_slice (snd a _ _ _ _ c h1).1 do_none (do_some (snd hi _ _ _ _ c h2).1), dt_never⟩
    · cases h
  | .slLH a lo hi => fun S X ξ e c h => by
    unfold chk at h
    split at h
    · obtain ⟨h1, h2⟩ := and2 h
      obtain ⟨h2, h3⟩ := and2 h2
      unfold den denT
      exact ⟨de_slice (snd a _ _ _ _ c h1).1 (do_some (snd lo _ _ _ _ c h2).1) (do_some (snd hi _ _ _ _ c h3).1), dt_never⟩
    · cases h
  | .rev a => fun S X ξ e c h => by
    unfold chk at h
    split at h
    · obtain ⟨h1, h2⟩ := and2 h
      cases of_decide_eq_true h1
      unfold den denT
      exact ⟨pe_weak (pe_revA (snd a _ _ _ _ c h2).1) (lift_rev _), dt_never⟩
    · cases h
  | .tup xs => fun S X ξ e c h => by
    unfold chk at h
    split at h
    · obtain ⟨h1, h2⟩ := and2 h
      unfold den denT
      exact ⟨de_tup ((sndA xs).a c h2 h1), dt_never⟩
    · cases h
  | .lst xs => fun S X ξ e c h => by
    unfold chk at h
    split at h
    · obtain ⟨h1, h2⟩ := and2 h
      unfold den denT
      exact ⟨de_lst ((sndA xs).a c h2 h1), dt_never⟩
    · cases h
  | .dct ks vs => fun S X ξ e c h => by
    refine ⟨?_, by unfold denT; exact dt_never⟩
    unfold chk at h
    split at h
    · rename_i keys values pos
      obtain ⟨h1, h⟩ := and2 h
      obtain ⟨h2, h⟩ := and2 h
      obtain ⟨h3, h⟩ := and2 h
      have l1 := of_decide_eq_true h1
      have l2 := of_decide_eq_true h2
      have l3 := of_decide_eq_true h3
      cases q : omap id keys with
      | none => rw [q] at h; cases h
      | some es =>
        rw [q] at h
        obtain ⟨h4, h5⟩ := and2 h
        have hk : keys = es.map some := omap_id q
        subst hk
        rw [List.length_map] at l1 l2 l3
        cases ks with
        | nil =>
          have e1 : es = [] := List.eq_nil_of_length_eq_zero l3.symm
          subst e1
          have e2 : values = [] := List.eq_nil_of_length_eq_zero l2.symm
          subst e2
          rw [den]
          exact pe_weak pe_dnewK lift_newK
        | cons k ks =>
          rw [den]
          have hne : es.map some ≠ ([] : List (Option Expr)) := by
            cases es with
            | nil => cases l3
            | cons a b => simp
          refine pe_weak (pe_disp (pps_of ((sndA (k :: ks)).e c h4) ((sndA vs).e c h5) l2) (by simp) (by rw [List.length_map]; exact l2) hne (by rw [List.length_map]; exact l1)) (lift_disp _)
    · cases h
  | .xtup xs => fun S X ξ e c h => by
    unfold chk at h
    split at h
    · obtain ⟨h1, h2⟩ := and2 h
      unfold den denT
      exact ⟨pe_weak (pe_xtup ((sndA xs).a c h2 h1)) (lift_xtup _), dt_never⟩
    · cases h
  | .fg a => fun S X ξ e c h => by
    unfold chk at h
    refine ⟨?_, ?_⟩
    · rw [den]
      exact pe_weak (snd a _ _ _ _ c h).1 (lift_fg _)
    · unfold denT
      exact dt_never
  | .callK x f n m pm ps ks xs kxs => fun S X ξ e c h => by
    unfold chk at h
    split at h
    · rename_i y p es kws pos
      obtain ⟨h1, h⟩ := and2 h
      obtain ⟨h2, h⟩ := and2 h
      obtain ⟨h3, h⟩ := and2 h
      obtain ⟨h4, h⟩ := and2 h
      obtain ⟨h5, h⟩ := and2 h
      obtain ⟨h6, h⟩ := and2 h
      obtain ⟨h7, h8⟩ := and2 h
      have key := de_callK (p := p) (pos := pos) c h1 (mem_of_c h2) h3 (of_decide_eq_true h4) h5 (of_decide_eq_true h6) ((sndA xs).a c h7 h3) (fun e => by
        subst e
        rw [chkA_nil h7, denA]) ((sndA kxs).e c h8)
      rw [← denA_fold] at key
      unfold den denT
      exact ⟨key, val_of key rfl⟩
    · cases h
  | .lzip xs => fun S X ξ e c h => by
    unfold chk at h
    split at h
    · rename_i y p z p2 es cpos pos
      obtain ⟨h1, h2⟩ := and2 h
      obtain ⟨h2, h3⟩ := and2 h2
      obtain ⟨h3, h4⟩ := and2 h3
      obtain ⟨h4, h5⟩ := and2 h4
      obtain ⟨h5, h6⟩ := and2 h5
      obtain ⟨h6, h7⟩ := and2 h6
      have key := de_lzip (p := p) (p2 := p2) (cpos := cpos) (pos := pos) c h1 (mem_of_c h2) h3 (mem_of_c h4) h5 (by simpa using h6) ((sndA xs).a c h7 h5)
      unfold den denT
      exact ⟨key, dt_never⟩
    · cases h
  | .lam i => fun S X ξ e c h => by
    unfold chk at h
    split at h
    · rename_i params body scope pos
      split at h
      · rename_i p q
        obtain ⟨h1, h2⟩ := and2 h
        obtain ⟨h2, h3⟩ := and2 h2
        unfold den denT
        rw [q]
        exact ⟨de_lam c h1 (of_decide_eq_true h2) h3, dt_never⟩
      · cases h
    · cases h
  | .callV i xs => fun S X ξ e c h => by
    unfold chk at h
    split at h
    · rename_i x p es pos
      obtain ⟨h1, h2⟩ := and2 h
      obtain ⟨h2, h3⟩ := and2 h2
      obtain ⟨h3, h4⟩ := and2 h3
      obtain ⟨h4, h5⟩ := and2 h4
      obtain ⟨h5, h6⟩ := and2 h5
      have key := de_callV (p := p) (pos := pos) c (of_decide_eq_true h1) h2 h3 h4 (by simpa using h5) ((sndA xs).a c h6 h4)
      unfold den denT
      exact ⟨key, val_of key rfl⟩
    · cases h
  | .kget x a => fun S X ξ e c h => by
    unfold chk at h
    split at h
    · rename_i y p2 g ap u p
      obtain ⟨h1, h⟩ := and2 h
      obtain ⟨h2, h⟩ := and2 h
      obtain ⟨h3, h⟩ := and2 h
      obtain ⟨h4, h⟩ := and2 h
      obtain ⟨h5, h⟩ := and2 h
      unfold den denT
      exact ⟨de_kget c h1 (isN_ok h2) h3 h4 h5 (snd a _ _ _ _ c h).1, dt_never⟩
    · cases h
  | .call x f n xs => fun S X ξ e c h => by
    unfold chk at h
    split at h
    · rename_i y p es pos
      obtain ⟨h1, h2⟩ := and2 h
      obtain ⟨h2, h3⟩ := and2 h2
      obtain ⟨h3, h4⟩ := and2 h3
      have key := de_call (p := p) (pos := pos) c h1 (mem_of_c h2) h3 ((sndA xs).a c h4 h3) fun e => by
        subst e
        rw [chkA_nil h4, denA]
      unfold den denT
      exact ⟨key, val_of key rfl⟩
    · cases h
  | .bf b xs => fun S X ξ e c h => by
    unfold chk at h
    split at h
    · rename_i y p es pos
      obtain ⟨h1, h2⟩ := and2 h
      obtain ⟨h2, h3⟩ := and2 h2
      obtain ⟨h3, h4⟩ := and2 h3
      obtain ⟨h4, h5⟩ := and2 h4
      have key := de_bf (p := p) (pos := pos) c h1 (mem_of_c h2) h3 (by simpa using h4) ((sndA xs).a c h5 h3)
      unfold den denT
      exact ⟨key, val_of key rfl⟩
    · cases h
  | .bm b o xs => fun S X ξ e c h => by
    unfold chk at h
    split at h
    · rename_i x m ap es pos
      obtain ⟨h1, h2⟩ := and2 h
      obtain ⟨h2, h3⟩ := and2 h2
      obtain ⟨h3, h4⟩ := and2 h3
      obtain ⟨h4, h5⟩ := and2 h4
      obtain ⟨h5, h6⟩ := and2 h5
      obtain ⟨h6, h7⟩ := and2 h6
      unfold den denT
      exact ⟨de_bm c (isN_ok h1) h2 h3 (of_decide_eq_true h4) h5 (snd o _ _ _ _ c h6).1 ((sndA xs).a c h7 h3) (fun e => by
        subst e
        rw [chkA_nil h7, denA]), dt_never⟩
    · cases h
  | .own cl m f n o xs => fun S X ξ e c h => by
    unfold chk at h
    split at h
    · rename_i x y ap es pos
      obtain ⟨h1, h2⟩ := and2 h
      obtain ⟨h2, h3⟩ := and2 h2
      obtain ⟨h3, h4⟩ := and2 h3
      obtain ⟨h4, h5⟩ := and2 h4
      obtain ⟨h5, h6⟩ := and2 h5
      obtain ⟨h6, h7⟩ := and2 h6
      obtain ⟨h7, h8⟩ := and2 h7
      have key := de_own (ap := ap) (pos := pos) c (isN_ok h1) (mem_of_c h2) h3 h4 (of_decide_eq_true h5) h6 (snd o _ _ _ _ c h7).1 ((sndA xs).a c h8 h4) (fun e => by
        subst e
        rw [chkA_nil h8, denA])
      unfold den denT
      exact ⟨key, val_of key rfl⟩
    · cases h
  | .mk x cl f n xs => fun S X ξ e c h => by
    unfold chk at h
    split at h
    · rename_i y p es pos
      obtain ⟨h1, h2⟩ := and2 h
      obtain ⟨h2, h3⟩ := and2 h2
      obtain ⟨h3, h4⟩ := and2 h3
      unfold den denT
      exact ⟨de_mk c h1 (mem_of_c h2) h3 ((sndA xs).a c h4 h3) fun e => by
        subst e
        rw [chkA_nil h4, denA], dt_never⟩
    · cases h
  | .isi x cl a => fun S X ξ e c h => by
    unfold chk at h
    split at h
    · rename_i y p u z p2 pos
      obtain ⟨h1, h2⟩ := and2 h
      obtain ⟨h2, h3⟩ := and2 h2
      obtain ⟨h3, h4⟩ := and2 h3
      obtain ⟨h4, h5⟩ := and2 h4
      obtain ⟨h5, h6⟩ := and2 h5
      have key := de_isi (p := p) (p2 := p2) (pos := pos) c h1 (mem_of_c h2) h3 (mem_of_c h4) h5 (snd a _ _ _ _ c h6).1
      unfold den denT
      exact ⟨key, val_of key rfl⟩
    · cases h
  | .fld f a => fun S X ξ e c h => by
    unfold chk at h
    split at h
    · rename_i x g pos
      obtain ⟨h1, h2⟩ := and2 h
      obtain ⟨h2, h3⟩ := and2 h2
      have e1 := isN_ok h1
      subst e1
      have key := de_fld (pos := pos) (cs := T.clsOf f) (fun cl hcl => c.g.flds cl f (by
        unfold GT.clsOf at hcl
        obtain ⟨q, hq, e2⟩ := List.mem_map.mp hcl
        obtain ⟨q1, q2⟩ := List.mem_filter.mp hq
        have e3 := eq_of_beq q2
        rw [← e2, ← e3]; exact q1)) (snd a _ _ _ _ c h3).1 (base_of h2)
      unfold den denT
      exact ⟨key, val_of key rfl⟩
    · cases h
  | .lc vs tg ik it cs el => fun S X ξ e c h => by
    unfold chk at h
    split at h
    · rename_i elt t iter ifs as scope pos
      obtain ⟨h1, h2⟩ := and2 h
      obtain ⟨h2, h3⟩ := and2 h2
      obtain ⟨h3, h4⟩ := and2 h3
      obtain ⟨h4, h5⟩ := and2 h4
      obtain ⟨h5, h6⟩ := and2 h5
      obtain ⟨h6, h7⟩ := and2 h6
      obtain ⟨h7, h8⟩ := and2 h7
      obtain ⟨h8, h9⟩ := and2 h8
      cases of_decide_eq_true h1
      have hv := of_decide_eq_true h3
      have hsub : ∀ i ∈ tg.vars, i ∈ vs := fun i hi => of_decide_eq_true (List.all_eq_true.mp h4 i hi)
      have hi : DI X ξ t iter (dIter ik (denL T C ξ.EX it) (denA T C ξ.EX it)) := by
        cases q : itArgs T S ik t iter with
        | none => rw [q] at h7; cases h7
        | some es =>
          rw [q] at h7
          have hst : es.all notStar = true := it_star q
          exact it_ok c q ((sndA it).a c h7 hst) fun e te e1 e2 => (sndA it).l c h7 e1 e2
      have key := pe_weak (pe_lc (tt := liftT X.K xi0 (denC T C EX0 cs)) (te := liftE X.K xi0 (den T C EX0 el)) (pos := pos) (elt := elt) (ifs := ifs) c.calm (by rw [c.N]; exact c.nd) hi (blkOk_by (by rw [c.N, c.sc]; exact h2)) (fun s H Ca cl fp => sndTg (c.blk scope s H Ca cl fp) tg t h5) (fun s H Ca cl fp => (sndA cs).c (c.blk scope s H Ca cl fp) h8) (fun s H Ca cl fp => (snd el _ _ _ _ (c.blk scope s H Ca cl fp) h9).1) (fun x => fold_of h6)) (by rw [hv]; exact lift_lc (dIter ik (denL T C ξ.EX it) (denA T C ξ.EX it)) tg (denC T C EX0 cs) (den T C EX0 el) vs hsub)
      unfold den denT
      exact ⟨key, dt_never⟩
    · cases h
  | .dc vs tg ik it cs k el => fun S X ξ e c h => by
    unfold chk at h
    split at h
    · rename_i ke elt t iter ifs as scope pos
      obtain ⟨h1, h2⟩ := and2 h
      obtain ⟨h2, h3⟩ := and2 h2
      obtain ⟨h3, h4⟩ := and2 h3
      obtain ⟨h4, h5⟩ := and2 h4
      obtain ⟨h5, h6⟩ := and2 h5
      obtain ⟨h6, h7⟩ := and2 h6
      obtain ⟨h7, h8⟩ := and2 h7
      obtain ⟨h8, h9⟩ := and2 h8
      obtain ⟨h9, h10⟩ := and2 h9
      cases of_decide_eq_true h1
      have hv := of_decide_eq_true h3
      have hsub : ∀ i ∈ tg.vars, i ∈ vs := fun i hi => of_decide_eq_true (List.all_eq_true.mp h4 i hi)
      have hi : DI X ξ t iter (dIter ik (denL T C ξ.EX it) (denA T C ξ.EX it)) := by
        cases q : itArgs T S ik t iter with
        | none => rw [q] at h7; cases h7
        | some es =>
          rw [q] at h7
          have hst : es.all notStar = true := it_star q
          exact it_ok c q ((sndA it).a c h7 hst) fun e te e1 e2 => (sndA it).l c h7 e1 e2
      have key := pe_weak (pe_dc (tt := liftT X.K xi0 (denC T C EX0 cs)) (tk := liftE X.K xi0 (den T C EX0 k)) (tv := liftE X.K xi0 (den T C EX0 el)) (pos := pos) (kx := ke) (vx := elt) (ifs := ifs) c.calm (by rw [c.N]; exact c.nd) hi (blkOk_by (by rw [c.N, c.sc]; exact h2)) (fun s H Ca cl fp => sndTg (c.blk scope s H Ca cl fp) tg t h5) (fun s H Ca cl fp => (sndA cs).c (c.blk scope s H Ca cl fp) h8) (fun s H Ca cl fp => (snd k _ _ _ _ (c.blk scope s H Ca cl fp) h9).1) (fun s H Ca cl fp => (snd el _ _ _ _ (c.blk scope s H Ca cl fp) h10).1) (fun x => fold_of h6)) (by rw [hv]; exact lift_dc (dIter ik (denL T C ξ.EX it) (denA T C ξ.EX it)) tg (denC T C EX0 cs) (den T C EX0 k) (den T C EX0 el) vs hsub)
      unfold den denT
      exact ⟨key, dt_never⟩
    · cases h
  | .never => fun S X ξ e c h => by
    unfold den denT
    exact ⟨de_never, dt_never⟩
theorem sndA : ∀ xs : List DX, SndA T C j xs
  | [] => {
    a := fun {S X ξ es} c h _ => by
      unfold chkA at h
      have e := List.isEmpty_iff.mp h
      subst e
      unfold denA
      exact da_nil
    l := fun c h e e2 => by
      unfold denL at e2
      cases e2
    e := fun {S X ξ es} c h => by
      unfold chkA at h
      have e := List.isEmpty_iff.mp h
      subst e
      unfold denL
      exact .nil
    an := fun {S X ξ es pos} c h => by
      unfold denAnd denAndT
      exact ⟨de_never, dw_never⟩
    or := fun {S X ξ es pos} c h => by
      unfold denOr denOrT
      exact ⟨de_never, dw_never⟩
    c := fun {S X ξ es} c h => by
      unfold chkA at h
      have e := List.isEmpty_iff.mp h
      subst e
      unfold denC
      exact pts_weak pts_nil lift_yes }
  | x :: xs => {
    a := fun {S X ξ es} c h hs => by
      unfold chkA at h
      split at h
      · rename_i e r
        obtain ⟨h1, h2⟩ := and2 h
        rw [List.all_cons, Bool.and_eq_true] at hs
        unfold denA
        exact da_cons (snd x _ _ _ _ c h1).1 ((sndA xs).a c h2 hs.2) (star_cons hs.1)
      · cases h
    l := fun {S X ξ es e te} c h e1 e2 => by
      subst e1
      unfold chkA at h
      obtain ⟨h1, h2⟩ := and2 h
      unfold denL at e2
      simp only [List.cons.injEq] at e2
      rw [← e2.1]
      exact (snd x _ _ _ _ c h1).1
    e := fun {S X ξ es} c h => by
      unfold chkA at h
      split at h
      · obtain ⟨h1, h2⟩ := and2 h
        unfold denL
        exact .cons (snd x _ _ _ _ c h1).1 ((sndA xs).e c h2)
      · cases h
    an := fun {S X ξ es pos} c h => by
      unfold chkA at h
      split at h
      · rename_i e r
        obtain ⟨h1, h2⟩ := and2 h
        obtain ⟨q1, q2⟩ := snd x _ _ _ _ c h1
        cases xs with
        | nil =>
          unfold chkA at h2
          have e := List.isEmpty_iff.mp h2
          subst e
          unfold denAnd denAndT
          exact ⟨de_one q1, dw_and1 q2⟩
        | cons y ys =>
          cases r with
          | nil => exact absurd (chkA_nil h2) (by simp)
          | cons e2 r2 =>
            obtain ⟨z1, z2⟩ := (sndA (y :: ys)).an (pos := pos) c h2
            rw [denAnd, denAndT]
            exact ⟨de_and q1 z1, dw_and q2 z2⟩
      · cases h
    or := fun {S X ξ es pos} c h => by
      unfold chkA at h
      split at h
      · rename_i e r
        obtain ⟨h1, h2⟩ := and2 h
        obtain ⟨q1, q2⟩ := snd x _ _ _ _ c h1
        cases xs with
        | nil =>
          unfold chkA at h2
          have e := List.isEmpty_iff.mp h2
          subst e
          unfold denOr denOrT
          exact ⟨de_one q1, dw_or1 q2⟩
        | cons y ys =>
          cases r with
          | nil => exact absurd (chkA_nil h2) (by simp)
          | cons e2 r2 =>
            obtain ⟨z1, z2⟩ := (sndA (y :: ys)).or (pos := pos) c h2
            rw [denOr, denOrT]
            exact ⟨de_or q1 z1, dw_or q2 z2⟩
      · cases h
    c := fun {S X ξ es} c h => by
      unfold chkA at h
      split at h
      · rename_i e r
        obtain ⟨h1, h2⟩ := and2 h
        cases xs with
        | nil =>
          unfold chkA at h2
          have e := List.isEmpty_iff.mp h2
          subst e
          unfold denC
          exact pts_one (snd x _ _ _ _ c h1).2
        | cons y ys =>
          unfold denC
          exact pts_never
      · cases h }
end
end
end DL
end
section
set_option Elab.async false
set_option linter.all false
set_option maxRecDepth 100000
set_option autoImplicit false
namespace DL
open PySem PySem.Spec PyProof.Rows L2
/-- two, three names against as many values, stored from the right -/
def isStar : Expr → Bool
  | .Starred _ _ => true
  | _ => false
def swapB (vs : List Expr) : Bool := vs.all notStar && (!(vs.all (foldedForSure 8)) && !(vs.all (constantsAlone 8)))
theorem sw2 {x y : Str} {px py pt pt2 : Pos} {kt k2 : Nat} {a b : Expr} {env : Env} (hk : env.scope.kind = .function) (hx : env.scope.names.lookup x = some .local) (hy : env.scope.names.lookup y = some .local) (hl : (py.line == px.line) = true) (hxy : x ≠ y) (h : swapB [a, b] = true) :
    swappedStores [.Tuple [.Name x px, .Name y py] kt pt] (.Tuple [a, b] k2 pt2) env = pure (some [x, y]) := by
  have kx : env.kindOf x = some .local := hx
  have ky : env.kindOf y = some .local := hy
  have hb : env.blockKind = .function := by unfold Env.blockKind; rw [hk]; rfl
  unfold swapB at h
  simp only [Bool.and_eq_true, Bool.not_eq_true'] at h
  obtain ⟨h1, h2, h3⟩ := h
  have hd : [x, y].eraseDups = [x, y] := by
    have : (y == x) = false := by simpa using (fun e => hxy e.symm)
    simp [List.eraseDups_cons, this]
  unfold swappedStores
  simp only [hb, List.length_cons, List.length_nil]
  simp only [List.head?_cons, Option.map_some, Option.getD_some, List.filterMap_cons, List.filterMap_nil, kx, ky, hl, beq_self_eq_true, Bool.and_self, if_true]
  simp only [Expr.pos, hl, beq_self_eq_true, Bool.and_true, if_true, List.length_cons, List.length_nil, hd, h2, h3]
  split
  · rename_i q; simp at q
  split
  · rename_i q
    obtain ⟨e, he, q'⟩ := List.any_eq_true.mp q
    have h9 := List.all_eq_true.mp h1 e he
    cases e <;> first | exact absurd h9 Bool.false_ne_true | exact absurd q' Bool.false_ne_true
  simp
theorem sw3 {x y z : Str} {px py pz pt pt2 : Pos} {kt k2 : Nat} {a b c : Expr} {env : Env} (hk : env.scope.kind = .function) (hx : env.scope.names.lookup x = some .local) (hy : env.scope.names.lookup y = some .local) (hz : env.scope.names.lookup z = some .local) (hl : (py.line == px.line) = true) (hl2 : (pz.line == px.line) = true)
    (hxy : x ≠ y) (hxz : x ≠ z) (hyz : y ≠ z) (h : swapB [a, b, c] = true) : swappedStores [.Tuple [.Name x px, .Name y py, .Name z pz] kt pt] (.Tuple [a, b, c] k2 pt2) env = pure (some [x, y, z]) := by
  have kx : env.kindOf x = some .local := hx
  have ky : env.kindOf y = some .local := hy
  have kz : env.kindOf z = some .local := hz
  have hb : env.blockKind = .function := by unfold Env.blockKind; rw [hk]; rfl
  unfold swapB at h
  simp only [Bool.and_eq_true, Bool.not_eq_true'] at h
  obtain ⟨h1, h2, h3⟩ := h
  have hd : [x, y, z].eraseDups = [x, y, z] := by
    have e1 : (y == x) = false := by simpa using (fun e => hxy e.symm)
    have e2 : (z == x) = false := by simpa using (fun e => hxz e.symm)
    have e3 : (z == y) = false := by simpa using (fun e => hyz e.symm)
    simp [List.eraseDups_cons, e1, e2, e3]
  unfold swappedStores
  simp only [hb, List.length_cons, List.length_nil]
  simp only [List.head?_cons, Option.map_some, Option.getD_some, List.filterMap_cons, List.filterMap_nil, kx, ky, kz, hl, hl2, beq_self_eq_true, Bool.and_self, if_true]
  simp only [Expr.pos, hl, hl2, beq_self_eq_true, Bool.and_true, if_true, List.length_cons, List.length_nil, hd, h2, h3]
  split
  · rename_i q; simp at q
  split
  · rename_i q
    obtain ⟨e, he, q'⟩ := List.any_eq_true.mp q
    have h9 := List.all_eq_true.mp h1 e he
    cases e <;> first | exact absurd h9 Bool.false_ne_true | exact absurd q' Bool.false_ne_true
  simp
/-- a comprehension stored elsewhere than in a plain local name is not swapped -/
def notName : Expr → Bool
  | .Name _ _ => false
  | _ => true
theorem sw_tgt {e t : Expr} {l : Nat} {env : Env} (h : notName t = true) : swapsWith e (some t) l env = pure false := by
  cases t <;> first | (cases e <;> rfl) | cases h
theorem sw_cell {e : Expr} {x : Str} {p : Pos} {l : Nat} {env : Env} (h : env.scope.names.lookup x ≠ some .local) : swapsWith e (some (.Name x p)) l env = pure false := by
  have hk : (env.kindOf x == some .local) = false := by
    show (env.scope.names.lookup x == some .local) = false
    simpa using h
  cases e <;> first | rfl | (unfold swapsWith; simp only [hk, Bool.and_false, Bool.false_and])
end DL
end
section
set_option Elab.async false
set_option linter.all false
set_option maxRecDepth 100000
set_option autoImplicit false
namespace DL
open PySem PySem.Spec PyProof.Rows L2
/-! ### statements against the language -/
def lcB (sc : Scope) (v : Expr) (x : Str) (px : Pos) : Bool := match v with
  | .ListComp _ _ scope pos => decide (sc.kind = .function) && (decide (sc.names.lookup x = some .local) && ((px.line == pos.line) && !(scope.names.any fun (n, k) => n == x && (k == .local || k == .cell))))
  | _ => false
def isLc : DX → Bool
  | .lc _ _ _ _ _ _ => true
  | _ => false
def parN (S : SC) (i : Nat) (x : Str) : Bool := decide (S.N[i]? = some x) && decide (S.sc.names.lookup x = some .local)
mutual
def chkS (T : GT) (S : SC) : DY → Stmt → Bool
  | .asg tg e, st => match st with
    | .Assign [t] v pos => chkTg S tg t && (chk T S e v && (match tg with
      | .n i => (match t with
        | .Name x px => notComp v || (!decide (S.sc.names.lookup x = some .local) || (isLc e && lcB S.sc v x px))
        | _ => false)
      | .t _ => noSwap S.sc t v))
    | _ => false
  | .par2 i j a b, st => match st with
    | .Assign [.Tuple [.Name x px, .Name y py] _ _] (.Tuple [a', b'] _ _) _ => decide (S.sc.kind = .function) && (parN S i x && (parN S j y && ((py.line == px.line) && (decide (i ≠ j) && (decide (x ≠ y) && (swapB [a', b'] && chkA T S [a, b] [a', b']))))))
    | _ => false
  | .par3 i j l a b c, st => match st with
    | .Assign [.Tuple [.Name x px, .Name y py, .Name z pz] _ _] (.Tuple [a', b', c'] _ _) _ => decide (S.sc.kind = .function) && (parN S i x && (parN S j y && (parN S l z && ((py.line == px.line) && ((pz.line == px.line) && (decide (i ≠ j ∧ i ≠ l ∧ j ≠ l) && (decide (x ≠ y ∧ x ≠ z ∧ y ≠ z) && (swapB [a', b', c'] && chkA T S [a, b, c] [a', b', c']))))))))
    | _ => false
  | .set o i e, st => match st with
    | .Assign [.Subscript o' i' _] v _ => notSlice i' && (chk T S o o' && (chk T S i i' && chk T S e v))
    | _ => false
  | .tset o i n a b, st => match st with
    | .Assign [.Tuple [.Subscript o' i' p, .Name x px] kt pt] (.Tuple [a', b'] k2 pt2) _ => notSlice i' && (chk T S o o' && (chk T S i i' && (chkTg S (.n n) (.Name x px) && (notStar a' && (notStar b' && chkA T S [a, b] [a', b'])))))
    | _ => false
  | .fset o f e, st => match st with
    | .Assign [.Attribute o' g _] v _ => isN g f && (chk T S o o' && chk T S e v)
    | _ => false
  | .expr e, st => match st with
    | .Expr v _ => notComp v && chk T S e v
    | _ => false
  | .ret e, st => match st with
    | .Return (some v) _ => chk T S e v
    | _ => false
  | .retN, st => match st with
    | .Return none _ => true
    | _ => false
  | .ifs c a b, st => match st with
    | .If c' a' b' _ => chk T S c c' && (chkSs T S a a' && chkSs T S b b')
    | _ => false
  | .for_ tg ik it body, st => match st with
    | .For t iter b [] _ => chkTg S tg t && (notSetD iter && ((match itArgs T S ik t iter with
      | some es => chkA T S it es
      | none => false) && chkSs T S body b))
    | _ => false
  | .whl c body, st => match st with
    | .While c' b [] _ => chk T S c c' && chkSs T S body b
    | _ => false
  | .pass, st => match st with
    | .Pass _ => true
    | _ => false
  | .brk, st => match st with
    | .Break _ => true
    | _ => false
  | .cont, st => match st with
    | .Continue _ => true
    | _ => false
  | .doc, st => match st with
    | .Expr (.Constant (.str _) _ _) _ => true
    | _ => false
  | .never, _ => true
def chkSs (T : GT) (S : SC) : List DY → List Stmt → Bool
  | [], ss => ss.isEmpty
  | y :: ys, ss => match ss with
    | s :: r => chkS T S y s && chkSs T S ys r
    | [] => false
end
section
variable {T : GT} {S : SC} {C : Nat → DSp} {j : Nat} {X : Cx} {ξ : XP} {K : PySem.W.Frag}
theorem snd_lc (c : Cok T S C j X ξ) {vs : List Nat} {tg : Tg} {ik : IK} {it cs : List DX} {el : DX} {e : Expr} {i : Nat} {y : Str} {py spos : Pos} (h : chk T S (.lc vs tg ik it cs el) e = true) (hi : S.N[i]? = some y) (hl : lcB S.sc e y py = true) :
    DS X ξ (.Assign [.Name y py] e spos) (dAsg (.n i) (den T C ξ.EX (.lc vs tg ik it cs el))) := by
  unfold chk at h
  split at h
  · rename_i elt t iter ifs as scope pos
    obtain ⟨h1, h2⟩ := and2 h
    obtain ⟨h2, h3⟩ := and2 h2
    obtain ⟨h3, h4⟩ := and2 h3
    obtain ⟨h4, h5⟩ := and2 h4
    obtain ⟨h5, h6⟩ := and2 h5
    obtain ⟨h6, h7⟩ := and2 h6
    obtain ⟨h7, h8⟩ := and2 h7
    obtain ⟨h8, h9⟩ := and2 h8
    cases of_decide_eq_true h1
    have hv := of_decide_eq_true h3
    have hsub : ∀ i ∈ tg.vars, i ∈ vs := fun i hi => of_decide_eq_true (List.all_eq_true.mp h4 i hi)
    have hit : DI X ξ t iter (dIter ik (denL T C ξ.EX it) (denA T C ξ.EX it)) := by
      cases q : itArgs T S ik t iter with
      | none => rw [q] at h7; cases h7
      | some es =>
        rw [q] at h7
        exact it_ok c q ((sndA it).a c h7 (it_star q)) fun e te e1 e2 => (sndA it).l c h7 e1 e2
    unfold lcB at hl
    obtain ⟨l1, l2⟩ := and2 hl
    obtain ⟨l2, l3⟩ := and2 l2
    obtain ⟨l3, l4⟩ := and2 l3
    have ly := of_decide_eq_true l2
    rw [← c.sc] at ly l1
    have hsw := sw_true (elt := elt) (gs := [⟨t, iter, ifs, 0⟩]) (scope := scope) (pos := pos) (py := py) (l := spos.line) (of_decide_eq_true l1) ly l3 (by simpa using l4)
    have key := ps_setLc (g := gTg X.K tg) (spos := spos) (tt := liftT X.K xi0 (denC T C EX0 cs)) (te := liftE X.K xi0 (den T C EX0 el)) (pos := pos) (elt := elt) (ifs := ifs) c.calm (by rw [c.N]; exact c.nd) (by rw [c.N]; exact hi) ly hsw hit (blkOk_by (by rw [c.N, c.sc]; exact h2)) (fun s H Ca cl fp => sndTg (c.blk scope s H Ca cl fp) tg t h5) (fun s H Ca cl fp => (sndA cs).c (c.blk scope s H Ca cl fp) h8) (fun s H Ca cl fp => (snd el _ _ _ _ (c.blk scope s H Ca cl fp) h9).1) (fun x => fold_of h6)
    refine ps_weak key fun D σ H q => ?_
    rw [hv]
    rw [den] at q
    exact lift_lc (dIter ik (denL T C ξ.EX it) (denA T C ξ.EX it)) tg (denC T C EX0 cs) (den T C EX0 el) vs hsub σ H _ (lift_asg (.n i) _ D σ H q)
  · cases h
theorem ds_asg (c : Cok T S C j X ξ) {tg : Tg} {e : DX} {st : Stmt} (h : chkS T S (.asg tg e) st = true) : DS X ξ st (dAsg tg (den T C ξ.EX e)) := by
  unfold chkS at h
  split at h
  · rename_i t v pos
    obtain ⟨h1, hh⟩ := and2 h
    obtain ⟨k2, h3⟩ := and2 hh
    clear h hh
    cases tg with
    | n i =>
      simp only at h3
      split at h3
      · rename_i x px
        obtain ⟨g1, g2⟩ := and2 (show (decide (S.N[i]? = some x) && locB S x) = true from h1)
        obtain ⟨l, f⟩ := locB_ok c g2
        have gi := of_decide_eq_true g1
        have plain : swapsWith v (some (.Name x px)) pos.line X.env = pure false → DS X ξ (.Assign [.Name x px] v pos) (dAsg (.n i) (den T C ξ.EX e)) := fun hs =>
          ps_weak (ps_set (by rw [c.N]; exact c.nd) (by rw [c.N]; exact gi) l (snd e _ _ _ _ c k2).1 hs f) fun D σ H q => lift_asg (.n i) _ D σ H q
        rw [Bool.or_eq_true, Bool.or_eq_true] at h3
        rcases h3 with h3 | h3 | h3
        · exact plain (sw_of h3)
        · exact plain (sw_cell (by rw [c.sc]; simpa using h3))
        · obtain ⟨q1, q2⟩ := and2 h3
          cases e <;> first | exact snd_lc c k2 gi q2 | cases q1
      · cases h3
    | t ts =>
      have h4 : noSwap S.sc t v = true := h3
      have ht : notName t = true := by
        cases t <;> first | rfl | cases h1
      have hst : notStar t = true := by
        cases t <;> first | rfl | cases h1
      exact ps_weak (ps_asg (snd e _ _ _ _ c k2).1 (sndTg c (.t ts) t h1) (sw_tgt ht) (swn_of (by rw [c.sc]; exact h4)) (by rw [asgE_cons hst]; rfl)) fun D σ H q => lift_asg (.t ts) _ D σ H q
  · cases h
theorem lift_par3 (i k l : Nat) (ta : DTA) : ∀ D σ H, liftS K ξ (fun D τ G => ta τ G fun ds G1 => ∃ x y z, ds = [x, y, z] ∧ D.nx (((τ.set i (some x)).set k (some y)).set l (some z)) G1) D σ H → tPar3 i k l (liftA K ξ ta) D σ H :=
  fun D σ H ⟨τ, G, E, rs, rl, p, er⟩ => ⟨τ, G, _, rs, rl, p, fun ds G1 vs H1 z r1 f1 ⟨x, y, w, e, p1⟩ => by
    subst e
    obtain ⟨v1, r, rfl, z1, z⟩ := repL_cons.mp z
    obtain ⟨v2, v3, rfl, z2, z3⟩ := repL_two.mp z
    exact ⟨v1, v2, v3, rfl, er.nx _ G1 _ H1 ((((rs.mono (f1.keeps rl.1)).set i z1).set k z2).set l z3) r1 f1 p1⟩⟩
theorem sub_asg {o i : Expr} {p : Pos} {env : Env} (h : notSlice i = true) : ∀ v, assign (.Subscript o i p) env v = (do
      let ov ← holding [v] (eval o env)
      let iv ← holding [v, ov] (eval i env)
      standAt p
      holding [v, ov, iv] (setItem ov iv v)
      release [v, ov, iv] []) := fun v => by
  cases i <;> first | rfl | cases h
theorem parN_ok (c : Cok T S C j X ξ) {i : Nat} {x : Str} (h : parN S i x = true) : X.N[i]? = some x ∧ X.env.scope.names.lookup x = some .local := by
  obtain ⟨h1, h2⟩ := and2 h
  rw [c.N, c.sc]
  exact ⟨of_decide_eq_true h1, of_decide_eq_true h2⟩
mutual
theorem sndS (c : Cok T S C j X ξ) (po : PassesOwn (model X.prog X.w) X.A X.env X.xe) : ∀ (y : DY) (st : Stmt), chkS T S y st = true → DS X ξ st (denS T C ξ.EX y)
  | .asg tg e, st, h => by
    rw [denS]
    exact ds_asg c h
  | .par2 i k a b, st, h => by
    rw [denS]
    unfold chkS at h
    split at h
    · rename_i x px y py kt pt a' b' k2 pt2 pos
      obtain ⟨h1, h⟩ := and2 h
      obtain ⟨h2, h⟩ := and2 h
      obtain ⟨h3, h⟩ := and2 h
      obtain ⟨h4, h⟩ := and2 h
      obtain ⟨h5, h⟩ := and2 h
      obtain ⟨h6, h⟩ := and2 h
      obtain ⟨h7, h⟩ := and2 h
      obtain ⟨g1, g2⟩ := parN_ok c h2
      obtain ⟨g3, g4⟩ := parN_ok c h3
      have hk := of_decide_eq_true h1
      rw [← c.sc] at hk
      exact ps_weak (ps_par c.calm (by rw [c.N]; exact c.nd) g1 g3 (of_decide_eq_true h5) g2 g4 ((sndA [a, b]).a c h (and2 h7).1) (sw2 hk g2 g4 h4 (of_decide_eq_true h6) h7)) (lift_par i k _)
    · cases h
  | .par3 i k l a b d, st, h => by
    rw [denS]
    unfold chkS at h
    split at h
    · rename_i x px y py z pz kt pt a' b' c' k2 pt2 pos
      obtain ⟨h1, h⟩ := and2 h
      obtain ⟨h2, h⟩ := and2 h
      obtain ⟨h3, h⟩ := and2 h
      obtain ⟨h3', h⟩ := and2 h
      obtain ⟨h4, h⟩ := and2 h
      obtain ⟨h4', h⟩ := and2 h
      obtain ⟨h5, h⟩ := and2 h
      obtain ⟨h6, h⟩ := and2 h
      obtain ⟨h7, h⟩ := and2 h
      obtain ⟨g1, g2⟩ := parN_ok c h2
      obtain ⟨g3, g4⟩ := parN_ok c h3
      obtain ⟨g5, g6⟩ := parN_ok c h3'
      obtain ⟨n1, n2, n3⟩ := of_decide_eq_true h5
      obtain ⟨m1, m2, m3⟩ := of_decide_eq_true h6
      have hk := of_decide_eq_true h1
      rw [← c.sc] at hk
      exact ps_weak (ps_par3 c.calm (by rw [c.N]; exact c.nd) g1 g3 g5 n1 n2 n3 g2 g4 g6 ((sndA [a, b, d]).a c h (and2 h7).1) (sw3 hk g2 g4 g6 h4 h4' m1 m2 m3 h7)) (lift_par3 i k l _)
    · cases h
  | .set o i e, st, h => by
    rw [denS]
    unfold chkS at h
    split at h
    · rename_i o' i' p v pos
      obtain ⟨h1, h⟩ := and2 h
      obtain ⟨h2, h⟩ := and2 h
      obtain ⟨h3, h⟩ := and2 h
      have hu := c.room.units
      exact ps_weak (ps_asg (snd e _ _ _ _ c h).1 (pg_sub (snd o _ _ _ _ c h2).1 (snd i _ _ _ _ c h3).1 (set_all (X := X) (by omega)) (sub_asg h1)) (show swapsWith v (some (.Subscript o' i' p)) pos.line X.env = pure false from sw_tgt (t := .Subscript o' i' p) rfl) (swn_of (by cases v <;> rfl)) rfl) (lift_set _ _ _)
    · cases h
  | .tset o i n a b, st, h => by
    rw [denS]
    unfold chkS at h
    split at h
    · rename_i o' i' p x px kt pt a' b' k2 pt2 pos
      obtain ⟨h1, h⟩ := and2 h
      obtain ⟨h2, h⟩ := and2 h
      obtain ⟨h3, h⟩ := and2 h
      obtain ⟨h4, h⟩ := and2 h
      obtain ⟨h5, h⟩ := and2 h
      obtain ⟨h6, h⟩ := and2 h
      have hu := c.room.units
      have pn := sndTg c (.n n) (.Name x px) h4
      have hg : PG X (.Tuple [.Subscript o' i' p, .Name x px] kt pt) (gTup X.K 2 (gCons (gSub (liftE X.K ξ (den T C ξ.EX o)) (liftE X.K ξ (den T C ξ.EX i)) rSetAll) (gCons (gName n) gNil))) := by
        unfold gTg at pn
        exact pg_tup c.calm (pgs_cons (pg_sub (snd o _ _ _ _ c h2).1 (snd i _ _ _ _ c h3).1 (set_all (X := X) (by omega)) (sub_asg h1)) (pgs_cons pn pgs_nil))
      have ha := (sndA [a, b]).a c h (by simp [h5, h6])
      exact ps_weak (ps_asg (pe_tup ha) hg (show swapsWith (.Tuple [a', b'] k2 pt2) (some (.Tuple [.Subscript o' i' p, .Name x px] kt pt)) pos.line X.env = pure false from sw_of rfl) (swn_of (by
        show ((!(([Expr.Subscript o' i' p, Expr.Name x px] : List Expr).length == 2 || ([Expr.Subscript o' i' p, Expr.Name x px] : List Expr).length == 3) || ([a', b'] : List Expr).length != ([Expr.Subscript o' i' p, Expr.Name x px] : List Expr).length) || (!(([a', b'] : List Expr).any fun | .Starred .. => true | _ => false) && _)) = true
        cases a' <;> first | (exact absurd h5 Bool.false_ne_true) | (cases b' <;> first | (exact absurd h6 Bool.false_ne_true) | rfl))) rfl) (lift_tset _ _ n _)
    · cases h
  | .fset o f e, st, h => by
    rw [denS]
    unfold chkS at h
    split at h
    · rename_i o' g p v pos
      obtain ⟨h1, hb⟩ := and2 h
      obtain ⟨h2, h3⟩ := and2 hb
      clear hb h
      have e1 := isN_ok h1
      subst e1
      exact ds_fld (cs := T.clsOf f) (fun cl hcl => c.g.flds cl f (by
        unfold GT.clsOf at hcl
        obtain ⟨q, hq, e2⟩ := List.mem_map.mp hcl
        obtain ⟨q1, q2⟩ := List.mem_filter.mp hq
        have e3 := eq_of_beq q2
        rw [← e2, ← e3]; exact q1)) (snd o _ _ _ _ c h2).1 (snd e _ _ _ _ c h3).1 (sw_tgt rfl)
    · cases h
  | .expr e, st, h => by
    rw [denS]
    unfold chkS at h
    split at h
    · obtain ⟨h1, h⟩ := and2 h
      exact ds_expr (snd e _ _ _ _ c h).1 (sw_of h1)
    · cases h
  | .ret e, st, h => by
    rw [denS]
    unfold chkS at h
    split at h
    · exact ds_ret (snd e _ _ _ _ c h).1
    · cases h
  | .retN, st, h => by
    rw [denS]
    unfold chkS at h
    split at h
    · exact ds_retN
    · cases h
  | .ifs z a b, st, h => by
    rw [denS]
    unfold chkS at h
    split at h
    · obtain ⟨h1, h⟩ := and2 h
      obtain ⟨h2, h⟩ := and2 h
      exact ds_if (snd z _ _ _ _ c h1).2 (sndSs c po a _ h2) (sndSs c po b _ h)
    · cases h
  | .for_ tg ik it body, st, h => by
    rw [denS]
    unfold chkS at h
    split at h
    · rename_i t iter b pos
      obtain ⟨h1, h⟩ := and2 h
      obtain ⟨h2, h⟩ := and2 h
      obtain ⟨h3, h⟩ := and2 h
      have hit : DI X ξ t iter (dIter ik (denL T C ξ.EX it) (denA T C ξ.EX it)) := by
        cases q : itArgs T S ik t iter with
        | none => rw [q] at h3; cases h3
        | some es =>
          rw [q] at h3
          exact it_ok c q ((sndA it).a c h3 (it_star q)) fun e te e1 e2 => (sndA it).l c h3 e1 e2
      exact ps_weak (ps_for po c.calm hit (sndTg c tg t h1) (sndSs c po body b h) fun x => fold_of h2) (lift_for _ tg _)
    · cases h
  | .whl z body, st, h => by
    rw [denS]
    unfold chkS at h
    split at h
    · obtain ⟨h1, h⟩ := and2 h
      exact ps_weak (ps_while po (snd z _ _ _ _ c h1).2 (sndSs c po body _ h)) (lift_while _ _)
    · cases h
  | .pass, st, h => by
    rw [denS]
    unfold chkS at h
    split at h
    · exact ds_pass
    · cases h
  | .brk, st, h => by
    rw [denS]
    unfold chkS at h
    split at h
    · exact ds_break
    · cases h
  | .cont, st, h => by
    rw [denS]
    unfold chkS at h
    split at h
    · exact ds_continue
    · cases h
  | .doc, st, h => by
    rw [denS]
    unfold chkS at h
    split at h
    · exact ds_doc
    · cases h
  | .never, st, h => by
    rw [denS]
    exact ds_never
theorem sndSs (c : Cok T S C j X ξ) (po : PassesOwn (model X.prog X.w) X.A X.env X.xe) : ∀ (ys : List DY) (ss : List Stmt), chkSs T S ys ss = true → DSs X ξ ss (denSs T C ξ.EX ys)
  | [], ss, h => by
    unfold chkSs at h
    have e := List.isEmpty_iff.mp h
    subst e
    rw [denSs]
    exact dss_nil
  | y :: ys, ss, h => by
    unfold chkSs at h
    split at h
    · obtain ⟨h1, h2⟩ := and2 h
      rw [denSs]
      exact dss_cons (sndS c po y _ h1) (sndSs c po ys _ h2)
    · cases h
end
end
end DL
end
section
set_option Elab.async false
set_option linter.all false
set_option maxRecDepth 100000
set_option autoImplicit false
namespace DL
open PySem PySem.Spec PyProof.Rows L2
/-! ### a def -/
def startD (n : Nat) (ds : List DV) : DSt := ds.map some ++ List.replicate (n - ds.length) none
theorem start_rep {K : PySem.W.Frag} {H : Hp} {ds : List DV} {vs : List V} (N : List Str) (r : RepL K H ds vs) : RelS K H (startD N.length ds) (L2.start N vs) := by
  have hl := r.length
  refine ⟨by simp [startD, L2.start, hl], fun i d e => ?_⟩
  unfold startD at e
  unfold L2.start
  by_cases hi : i < ds.length
  · rw [List.getElem?_append_left (by simpa using hi), List.getElem?_map] at e
    cases q : ds[i]? with
    | none => rw [q] at e; cases e
    | some d' =>
      rw [q] at e
      cases e
      obtain ⟨v, hv, z⟩ := r.get' q
      refine ⟨v, ?_, z⟩
      rw [List.getElem?_append_left (by simp [hl]; exact hi), List.getElem?_map, hv]
      rfl
  · rw [List.getElem?_append_right (by simp; omega)] at e
    rw [List.getElem?_replicate] at e
    split at e <;> cases e
structure FD where
  name : Str
  qual : Str
  params : Arguments
  body : List Stmt
  scope : Scope
  N : List Str
  ps : List Str
  ys : List DY
  lam : Bool := false
def lamQ (q : Str) : Str := q ++ ".<locals>." ++ "<lambda>"
def FD.sc (d : FD) : SC := ⟨d.N, d.scope, fun _ => true, lamQ d.qual, d.lam⟩
def FD.ok (T : GT) (d : FD) : Bool := C8.scC d.N d.ps d.scope && (plainP d.params d.ps && chkSs T d.sc d.ys d.body)
/-- what a def's spec has to be served by -/
def Serves (T : GT) (C : Nat → DSp) (d : FD) (S : DSp) : Prop := ∀ ds G P EX, ds.length = d.ps.length → S ds G P EX → denSs T C EX d.ys { nx := fun _ G' => P .non G', rt := P } (startD d.N.length ds) G
theorem fnD {T : GT} {C : Nat → DSp} {j n : Nat} {P : Program} {w : World} {K : PySem.W.Frag} {mg : Str → Option Value} {base : Heap} {f : Addr} {fd : FuncData} {d : FD} {S : DSp} (F : FunD K d.name d.qual d.params d.body d.scope [] [] f fd) (h : d.ok T = true) (hn : d.ps.length = n)
    (g : GF T C j P w K mg base) (sv : Serves T C d S) (hlam : d.lam = true → ∃ c P, fd.code = .ref c ∧ LamX.TabB base mg c P ∧ LamTab K P (lamQ d.qual)) : FnOk P w K mg base (L2.CX P w) (j + 2) f fd d.ps (spD K n S) ∧ Binds K fd d.ps [] := by
  unfold FD.ok at h
  obtain ⟨h1, h⟩ := and2 h
  obtain ⟨h2, h3⟩ := and2 h
  have sc := C8.fnScope_by h1
  refine ⟨?_, F.bindsN fun kV doc pm an cdv ct us hl => bind_plain h2 rfl hl⟩
  obtain ⟨oc, od, dV, kV, doc, pm, an, cdv, ct, osl, rfl, lk, hcd, _, _⟩ := F.ex
  refine fn_of lk hcd sc (fun vs H Q E ⟨ds, G, P, EX, r, _, e, _⟩ => by rw [r.length, e, hn]) fun A outer s H vs Q E hr ⟨ds, G, Pd, EX, r, rl, e, p, k, xr⟩ => ?_
  have tk := takes_of (X := cxOf (L2.CX P w) P w K mg base d.N d.qual d.scope f cdv A outer s H E) rfl rfl rfl rfl
  have po := passes_of (X := cxOf (L2.CX P w) P w K mg base d.N d.qual d.scope f cdv A outer s H E) rfl
  have c : Cok T d.sc C j (cxOf (L2.CX P w) P w K mg base d.N d.qual d.scope f cdv A outer s H E) ⟨EX, E⟩ := {
    sc := rfl
    N := rfl
    nd := sc.nd
    calm := rfl
    fn := rfl
    room := hr
    g := g
    pass := passes_call tk fun _ _ _ _ z => z
    lam := fun hl => let ⟨c, P, e1, e2, e3⟩ := hlam hl; ⟨c, P, e1, e2, e3, rfl⟩ }
  refine ⟨_, sndSs c po d.ys d.body h3, startD d.N.length ds, G, _, start_rep d.N r, ⟨rl, xr⟩, sv ds G Pd EX (by rw [e, hn]) p, ?_⟩
  exact ⟨fun τ' G' σ' H' rs' rl' f' q => k .non G' .non H' (rep_non.mpr rfl) rl'.1 f' q, fun d G' v H' z rl' f' q => k d G' v H' z rl'.1 f' q, fun _ _ _ _ _ _ _ z => z.elim, fun _ _ _ _ _ _ _ z => z.elim⟩
/-! ### a lambda -/
structure LD where
  L : LF.LamT
  N : List Str
  ps : List Str
  x : DX
def LD.sc (d : LD) : SC := ⟨d.N, d.L.scope, fun _ => true, "", false⟩
def LD.ok (T : GT) (d : LD) : Bool := C8.scC d.N d.ps d.L.scope && (plainP d.L.params d.ps && chk T d.sc d.x d.L.body)
def ServesL (T : GT) (C : Nat → DSp) (d : LD) (S : DSp) : Prop := ∀ ds G P EX, ds.length = d.ps.length → S ds G P EX → den T C EX d.x (startD d.N.length ds) G P
theorem lamD {T : GT} {C : Nat → DSp} {j n : Nat} {P : Program} {w : World} {K : PySem.W.Frag} {mg : Str → Option Value} {base : Heap} {d : LD} {S : DSp} (h : d.ok T = true) (hn : d.ps.length = n)
    (g : GF T C j P w K mg base) (sv : ServesL T C d S) : LF.LamOk P w K mg base (L2.CX P w) (j + 2) d.L (spD K n S) := by
  unfold LD.ok at h
  obtain ⟨h1, h⟩ := and2 h
  obtain ⟨h2, h3⟩ := and2 h
  have sc := C8.fnScope_by h1
  refine LF.lam_ok sc (fun pm ctv c us hl => bind_plain h2 rfl hl) (fun vs H Q E ⟨ds, G, P, EX, r, _, e, _⟩ => by rw [r.length, e, hn]) fun A outer s H vs Q E f c hr ⟨ds, G, Pd, EX, r, rl, e, p, k, xr⟩ => ?_
  have tk := takes_of (X := cxOf (L2.CX P w) P w K mg base d.N d.L.q d.L.scope f (.ref c) A outer s H E) rfl rfl rfl rfl
  have cc : Cok T d.sc C j (cxOf (L2.CX P w) P w K mg base d.N d.L.q d.L.scope f (.ref c) A outer s H E) ⟨EX, E⟩ := {
    sc := rfl
    N := rfl
    nd := sc.nd
    calm := rfl
    fn := rfl
    room := hr
    g := g
    pass := passes_call tk fun _ _ _ _ z => z
    lam := fun hl => by cases hl }
  exact ⟨_, (snd d.x _ _ _ _ cc h3).1, startD d.N.length ds, G, Pd, start_rep d.N r, ⟨rl, xr⟩, sv ds G Pd EX (by rw [e, hn]) p, fun d G' v H' z rl' f' q => k d G' v H' z rl'.1 f' q⟩
end DL
end
section
set_option Elab.async false
set_option linter.all false
set_option maxRecDepth 100000
set_option autoImplicit false
namespace DL
open PySem PySem.Spec PyProof.Rows L2 He
/-! ### the module's facts, by a Bool over what is looked at -/
abbrev Loc1 : Type := Str × Option Str
structure PT where
  T : GT
  ds : List (FD × Loc1)
  ls : List LD
  tf : List (Loc1 × Str)
def clsiB (K : PySem.W.Frag) (c : String) : Bool := (Fa.cls (Str.ofString c)).ok K && (eqO (PySem.W.findIn K (.ref (ga K c)) "__class__") (some (some (.builtin "object.__class__"))) && (eqO (PySem.W.specialIn K (.builtin "object.__class__") "__get__") (some (some (.builtin "getset_descriptor.__get__"))) &&
  (decide (PySem.W.takesIn K (.builtin "object.__class__") = some true) && decide (PySem.W.mroIn K (ga K c) (.type "object") = some true))))
theorem clsiB_ok {K : PySem.W.Frag} {c : String} (h : clsiB K c = true) : ClsI K c := by
  unfold clsiB at h
  obtain ⟨h1, h⟩ := and2 h
  obtain ⟨h2, h⟩ := and2 h
  obtain ⟨h3, h⟩ := and2 h
  obtain ⟨h4, h5⟩ := and2 h
  exact ⟨cls_ok h1, eqO_ok h2, eqO_ok h3, of_decide_eq_true h4, of_decide_eq_true h5⟩
def valB (K : PySem.W.Frag) (p : String × DV) : Bool := match p.2 with
  | .int i => (Fa.int (Str.ofString p.1) i).ok K
  | .str z => (Fa.str (Str.ofString p.1) z).ok K
  | _ => false
def atB (D : PT) (f : Nat) (n : Nat) (K : PySem.W.Frag) (a : Addr) : Bool := match D.ds[f]? with
  | some d => decide (fAd K d.2 = a) && decide (d.1.ps.length = n)
  | none => false
theorem atB_ok {D : PT} {f n : Nat} {K : PySem.W.Frag} {a : Addr} (h : atB D f n K a = true) : ∃ d, D.ds[f]? = some d ∧ fAd K d.2 = a ∧ d.1.ps.length = n := by
  unfold atB at h
  split at h
  · rename_i d e
    obtain ⟨h1, h2⟩ := and2 h
    exact ⟨d, e, of_decide_eq_true h1, of_decide_eq_true h2⟩
  · cases h
def isiB (T : GT) (K : PySem.W.Frag) (p : String × TN) : Bool := (match p.2 with
  | .b n => (Fa.free (Str.ofString p.1)).ok K && decide (bootBuiltins (Str.ofString p.1) = some (.type n))
  | .o cc => (Fa.glo (Str.ofString p.1)).ok K && decide (ga K (Str.ofString p.1) = ga K cc)) &&
  T.tys.all fun t => (match t with
    | .b _ => true
    | .o o => clsiB K o) && decide (PySem.W.kitOne K (t.v K) (p.2.v K) = some (isa T.sub t p.2))
def dv1 : DV → Option V
  | .int i => some (.int i)
  | .str z => some (.str z)
  | .bl b => some (.bl b)
  | .non => some .non
  | _ => none
theorem dv1_rep {K : PySem.W.Frag} {H : Hp} {d : DV} {v : V} (h : dv1 d = some v) : Rep K H d v := by
  unfold dv1 at h
  split at h <;> cases h
  · exact rep_int.mpr rfl
  · exact rep_str.mpr rfl
  · exact rep_bl.mpr rfl
  · exact rep_non.mpr rfl
/-- a dict of the module: its entries are these, in this order -/
def kdEs : List DictEntry → List (String × DV) → Bool
  | [], [] => true
  | e :: es, p :: ps => (match e.key with
    | .str x _ => decide (x = Str.ofString p.1)
    | _ => false) && ((match dv1 p.2 with
    | some v => relB v e.val
    | none => false) && kdEs es ps)
  | _, _ => false
def kdB (K : PySem.W.Frag) (x : String) (l : List (String × DV)) : Bool := (Fa.glo (Str.ofString x)).ok K && match K.lookup (ga K (Str.ofString x)) with
  | some ⟨_, _, .dict es _, _⟩ => kdEs es.toList l
  | _ => false
theorem kdEs_find : ∀ {es : List DictEntry} {l : List (String × DV)} (z : Str), kdEs es l = true → (es.any (·.refKey) = false) ∧
    ((kdAt l z = none → es.find? (·.key.isStr z) = none) ∧ ∀ d, kdAt l z = some d → ∃ e v, es.find? (·.key.isStr z) = some e ∧ dv1 d = some v ∧ relB v e.val = true)
  | [], [], z, h => ⟨rfl, fun _ => rfl, fun d e => by cases e⟩
  | [], _ :: _, z, h => by cases h
  | _ :: _, [], z, h => by cases h
  | e :: es, p :: ps, z, h => by
    unfold kdEs at h
    obtain ⟨h1, h⟩ := and2 h
    obtain ⟨h2, h3⟩ := and2 h
    obtain ⟨i1, i2, i3⟩ := kdEs_find z h3
    split at h1
    · rename_i x t ek
      have ex : x = Str.ofString p.1 := of_decide_eq_true h1
      subst ex
      have hk : e.key.isStr z = decide (Str.ofString p.1 = z) := by
        rw [ek]
        rfl
      have hr : e.refKey = false := by
        unfold DictEntry.refKey
        rw [ek]
      refine ⟨by rw [List.any_cons, hr, i1]; rfl, ?_, ?_⟩
      · intro q
        unfold kdAt at q i2
        rw [List.find?_cons] at q ⊢
        rw [hk]
        cases c : decide (Str.ofString p.1 = z) with
        | true => rw [c] at q; cases q
        | false => rw [c] at q; exact i2 q
      · intro d q
        unfold kdAt at q i3
        rw [List.find?_cons] at q ⊢
        rw [hk]
        cases c : decide (Str.ofString p.1 = z) with
        | true =>
          rw [c] at q
          cases q
          split at h2
          · rename_i v ev
            exact ⟨e, v, rfl, ev, h2⟩
          · cases h2
        | false => rw [c] at q; exact i3 d q
    · cases h1
theorem kdB_ok {K : PySem.W.Frag} {x : String} {l : List (String × DV)} (h : kdB K x l = true) : (Fa.glo (Str.ofString x)).ok K = true ∧ ∀ z : Str, ∃ r, PySem.W.nsIn K (ga K (Str.ofString x)) z = some r ∧ (kdAt l z = none → r = none) ∧ ∀ d, kdAt l z = some d → ∃ u v, r = some u ∧ RelV v u ∧ Rep K H0 d v := by
  unfold kdB at h
  obtain ⟨h1, h2⟩ := and2 h
  refine ⟨h1, fun z => ?_⟩
  split at h2
  · rename_i oc od es n sl q
    obtain ⟨i1, i2, i3⟩ := kdEs_find z h2
    unfold PySem.W.nsIn
    rw [q]
    cases c : kdAt l z with
    | none =>
      refine ⟨none, ?_, fun _ => rfl, fun d e => by cases e⟩
      show (match es.toList.find? (·.key.isStr z) with
        | some e => some (some e.val)
        | none => if es.toList.any (·.refKey) then none else some none) = _
      rw [i2 c, i1]
      rfl
    | some d =>
      obtain ⟨e, v, e1, e2, e3⟩ := i3 d c
      refine ⟨some e.val, ?_, ⟨(fun z => by cases z), (fun d' e' => by cases e'; exact ⟨_, v, rfl, relB_ok e3, dv1_rep e2⟩)⟩⟩
      show (match es.toList.find? (·.key.isStr z) with
        | some e => some (some e.val)
        | none => if es.toList.any (·.refKey) then none else some none) = _
      rw [e1]
  · cases h2
/-- the code objects whose lambdas are told are those of tf -/
def tabL (D : PT) (K : PySem.W.Frag) : List (Str × Addr) := D.tf.map fun p => (p.2, (cT K p.1).2)
def lamB (D : PT) (K : PySem.W.Frag) : Bool := (K.all fun q => match q.2.data with
  | .fields vs => (match (vs[1]? : Option Value), (vs[11]? : Option Value) with
    | some (.str q0 _), some (.ref P) => !(decide (q0 ∈ lamQuals)) || decide ((q0, P) ∈ tabL D K)
    | _, _ => true)
  | _ => true) && decide ((tabL D K).map (·.2)).Nodup
theorem lamB_mem {D : PT} {K : PySem.W.Frag} (h : lamB D K = true) {P : Addr} {q : Str} (t : LamTab K P q) : ∃ q0, (q0, P) ∈ tabL D K ∧ q = q0 ++ ".<locals>." ++ "<lambda>" := by
  unfold lamB at h
  obtain ⟨h1, h2⟩ := and2 h
  obtain ⟨c, o, vs, q0, tk, e1, e2, e3, e4, e5, e6⟩ := t
  have := List.all_eq_true.mp h1 (c, o) (lookup_mem e1)
  dsimp only at this
  rw [e2] at this
  dsimp only at this
  rw [e3, e4] at this
  dsimp only at this
  rw [decide_eq_true e5] at this
  exact ⟨q0, of_decide_eq_true (by simpa using this), e6⟩
theorem nodup_snd {l : List (Str × Addr)} (h : (l.map (·.2)).Nodup) {a b : Str} {P : Addr} (h1 : (a, P) ∈ l) (h2 : (b, P) ∈ l) : a = b := by
  induction l with
  | nil => cases h1
  | cons x l ih =>
    rw [List.map_cons, List.nodup_cons] at h
    rcases List.mem_cons.mp h1 with e1 | h1
    · rcases List.mem_cons.mp h2 with e2 | h2
      · rw [← e2] at e1; exact congrArg Prod.fst e1
      · exact absurd (List.mem_map.mpr ⟨_, h2, by rw [← e1]⟩) h.1
    · rcases List.mem_cons.mp h2 with e2 | h2
      · exact absurd (List.mem_map.mpr ⟨_, h1, by rw [← e2]⟩) h.1
      · exact ih h.2 h1 h2
theorem lamB_u {D : PT} {K : PySem.W.Frag} (h : lamB D K = true) : ∀ P q q', LamTab K P q → LamTab K P q' → q = q' := fun P q q' t t' => by
  obtain ⟨a, m, e⟩ := lamB_mem h t
  obtain ⟨b, m', e'⟩ := lamB_mem h t'
  unfold lamB at h
  rw [e, e', nodup_snd (of_decide_eq_true (and2 h).2) m m']
def gfB (D : PT) (K : PySem.W.Frag) : Bool :=
  D.T.free.all (fun x => (Fa.free (Str.ofString x)).ok K) && (D.T.vals.all (valB K) &&
  (D.T.fns.all (fun p => (Fa.glo (Str.ofString p.1)).ok K && atB D p.2.1 p.2.2 K (ga K (Str.ofString p.1))) &&
  (D.T.mks.all (fun p => (Fa.glo (Str.ofString p.1)).ok K && (decide (ga K (Str.ofString p.1) = ga K p.2.1) && ((Fa.mkr (Str.ofString p.2.1)).ok K && atB D p.2.2.1 p.2.2.2 K (ma K (ga K p.2.1) "__init__")))) &&
  (D.T.mets.all (fun p => (Fa.cls (Str.ofString p.1)).ok K && ((Fa.meth (Str.ofString p.1) (Str.ofString p.2.1)).ok K && atB D p.2.2.1 p.2.2.2 K (ma K (ga K p.1) (Str.ofString p.2.1)))) &&
  (D.T.flds.all (fun p => (Fa.cls (Str.ofString p.1)).ok K && (Fa.noat (Str.ofString p.1) (Str.ofString p.2)).ok K) &&
  (D.T.clss.all (isiB D.T K) &&
  (D.T.kds.all (fun p => kdB K p.1 p.2) &&
  (D.T.kfns.all (fun p => (Fa.glo (Str.ofString p.1)).ok K && (atB D p.2.1 p.2.2.length K (ga K (Str.ofString p.1)) && (match D.ds[p.2.1]? with
    | some d => decide (d.1.ps = p.2.2.map Str.ofString)
    | none => false))) && lamB D K))))))))
/-- what the head tells: the defs, the facts, the tables of text keys -/
structure PGOk (D : PT) (w : World) (K : PySem.W.Frag) : Prop where
  gf : gfB D K = true
  dok : D.ds.all (fun d => d.1.ok D.T) = true
  lok : D.ls.all (fun d => d.ok D.T) = true
  fun_ : ∀ d ∈ D.ds, ∃ fd, FunD K d.1.name d.1.qual d.1.params d.1.body d.1.scope [] [] (fAd K d.2) fd ∧ (d.1.lam = true → ∃ c P, fd.code = .ref c ∧ LamTab K P (lamQ d.1.qual) ∧ (c, P) ∈ D.tf.map fun p => cT K p.1)
  kd : ∀ p ∈ D.T.kds, ∃ es k, KDict K w (ga K (Str.ofString p.1)) es k
  lams : ∀ L f n, (L, f, n) ∈ D.T.lams → ∃ i d, D.ls[i]? = some d ∧ d.L = L ∧ f = D.ds.length + i ∧ n = d.ps.length
/-- the specs by levels: what a level's defs are served by -/
structure Lev (D : PT) (C : Nat → Nat → DSp) : Prop where
  zero : ∀ f ds G P EX, ¬ C 0 f ds G P EX
  d : ∀ n f d, D.ds[f]? = some d → Serves D.T (C n) d.1 (C (n + 1) f)
  l : ∀ n i d, D.ls[i]? = some d → ServesL D.T (C n) d (C (n + 1) (D.ds.length + i))
theorem lookup_some {α β : Type} [BEq α] [LawfulBEq α] {x : α} {b : β} : ∀ {l : List (α × β)}, l.lookup x = some b → (x, b) ∈ l
  | [], h => by cases h
  | (y, c) :: r, h => by
    rw [List.lookup_cons] at h
    cases q : x == y with
    | true =>
      rw [q] at h
      cases h
      rw [beq_iff_eq.mp q]
      exact List.mem_cons_self
    | false =>
      rw [q] at h
      exact List.mem_cons_of_mem _ (lookup_some h)
section
variable {D : PT} {C : Nat → Nat → DSp} {P : Program} {w : World} {K : PySem.W.Frag} {mg : Str → Option Value} {base : Heap}
/-- the defs at a level -/
def DefsAt (D : PT) (C : Nat → DSp) (j : Nat) (P : Program) (w : World) (K : PySem.W.Frag) (mg : Str → Option Value) (base : Heap) : Prop :=
  (∀ f d, D.ds[f]? = some d → ∃ fd, FnOk P w K mg base (L2.CX P w) j (fAd K d.2) fd d.1.ps (spD K d.1.ps.length (C f)) ∧ Binds K fd d.1.ps [] ∧ PySem.W.keepIn K (.ref (fAd K d.2)) = true ∧ fd.params = d.1.params ∧ fd.defaults = .none ∧ ∃ o, K.lookup (fAd K d.2) = some o ∧ o.data = .func fd) ∧
  ∀ i d, D.ls[i]? = some d → LF.LamOk P w K mg base (L2.CX P w) j d.L (spD K d.ps.length (C (D.ds.length + i)))
theorem gf_of {C : Nat → DSp} {j : Nat} (O : PGOk D w K) (KX : K.In base) (G : base.Ns mainGlobals mg) (A : DefsAt D C j P w K mg base) : GF D.T C j P w K mg base := by
  have h := O.gf
  unfold gfB at h
  obtain ⟨h1, h⟩ := and2 h
  obtain ⟨h2, h⟩ := and2 h
  obtain ⟨h3, h⟩ := and2 h
  obtain ⟨h4, h⟩ := and2 h
  obtain ⟨h5, h⟩ := and2 h
  obtain ⟨h6, h⟩ := and2 h
  obtain ⟨h7, h⟩ := and2 h
  obtain ⟨h8, h⟩ := and2 h
  obtain ⟨h9, h10⟩ := and2 h
  constructor
  · exact fun x hx => free_ok KX G (List.all_eq_true.mp h1 x hx)
  · intro i p hp
    have q := List.all_eq_true.mp h2 p (List.mem_of_getElem? hp)
    unfold valB at q
    split at q
    · rename_i z e
      obtain ⟨t, e1⟩ := int_ok KX G q
      exact ⟨.int z, _, e1, ⟨t, rfl⟩, by rw [e]; exact rep_int.mpr rfl⟩
    · rename_i z e
      obtain ⟨t, e1⟩ := str_ok KX G q
      exact ⟨.str z, _, e1, ⟨t, rfl⟩, by rw [e]; exact rep_str.mpr rfl⟩
    · cases q
  · intro x f n hx
    obtain ⟨q1, q2⟩ := and2 (List.all_eq_true.mp h3 _ hx)
    obtain ⟨d, e1, e2, e3⟩ := atB_ok q2
    dsimp only at e1 e2 e3
    obtain ⟨fd, a1, a2, a3, _⟩ := A.1 f d e1
    exact ⟨ga K (Str.ofString x), fd, d.1.ps, glo_ok KX G q1, by rw [← e2]; exact a3, a2, by rw [← e2, ← e3]; exact a1⟩
  · intro x c f n hx
    obtain ⟨q1, q2⟩ := and2 (List.all_eq_true.mp h4 _ hx)
    obtain ⟨q2, q3⟩ := and2 q2
    obtain ⟨q3, q4⟩ := and2 q3
    obtain ⟨d, e1, e2, e3⟩ := atB_ok q4
    dsimp only at e1 e2 e3
    obtain ⟨fd, a1, a2, a3, _⟩ := A.1 f d e1
    refine ⟨_, fd, d.1.ps, ?_, mkr_ok q3, a2, by rw [← e2, ← e3]; exact a1⟩
    have e := of_decide_eq_true q2
    rw [glo_ok KX G q1, e]
  · intro c m f n hx
    obtain ⟨q1, q2⟩ := and2 (List.all_eq_true.mp h5 _ hx)
    obtain ⟨q2, q3⟩ := and2 q2
    obtain ⟨d, e1, e2, e3⟩ := atB_ok q3
    dsimp only at e1 e2 e3
    obtain ⟨fd, a1, a2, a3, _⟩ := A.1 f d e1
    exact ⟨_, fd, d.1.ps, cls_ok q1, meth_ok q2, a2, by rw [← e2, ← e3]; exact a1⟩
  · intro c f hx
    obtain ⟨q1, q2⟩ := and2 (List.all_eq_true.mp h6 _ hx)
    exact ⟨cls_ok q1, noat_ok q2⟩
  · intro x c hx
    have q := List.all_eq_true.mp h7 _ hx
    unfold isiB at q
    obtain ⟨q1, q2⟩ := and2 q
    refine ⟨?_, fun t ht => ?_⟩
    · cases c with
      | b n =>
        obtain ⟨r1, r2⟩ := and2 q1
        exact ⟨free_ok KX G r1, of_decide_eq_true r2⟩
      | o cc =>
        obtain ⟨r1, r2⟩ := and2 q1
        have e := of_decide_eq_true r2
        show mg (Str.ofString x) = some (.ref (ga K cc))
        rw [glo_ok KX G r1, e]
    · obtain ⟨r1, r2⟩ := and2 (List.all_eq_true.mp q2 t ht)
      refine ⟨fun o e => ?_, of_decide_eq_true r2⟩
      subst e
      exact clsiB_ok r1
  · intro x l hx
    have hm := lookup_some hx
    obtain ⟨q1, q2⟩ := kdB_ok (List.all_eq_true.mp h8 _ hm)
    obtain ⟨es, k, e⟩ := O.kd _ hm
    exact ⟨_, es, k, glo_ok KX G q1, e, q2⟩
  · exact fun L f n hx => by
      obtain ⟨i, d, e1, e2, e3, e4⟩ := O.lams L f n hx
      have := A.2 i d e1
      rw [e2, ← e3, ← e4] at this
      exact this
  · exact lamB_u h10
  · intro x f ps hx
    obtain ⟨q1, q2⟩ := and2 (List.all_eq_true.mp h9 _ hx)
    obtain ⟨q2, q3⟩ := and2 q2
    obtain ⟨d, e1, e2, e3⟩ := atB_ok q2
    dsimp only at e1 e2 e3
    rw [e1] at q3
    have e4 := of_decide_eq_true q3
    obtain ⟨fd, a1, a2, a3, a4, a5, _⟩ := A.1 f d e1
    have hd := List.all_eq_true.mp O.dok d (List.mem_of_getElem? e1)
    unfold FD.ok at hd
    refine ⟨_, fd, glo_ok KX G q1, by rw [← e2]; exact a3, ?_, ?_, a5⟩
    · rw [← e2, ← e4, ← e3]; exact a1
    · rw [a4, ← e4]; exact (and2 (and2 hd).2).1
theorem defs_all (O : PGOk D w K) (L : Lev D C) (KX : K.In base) (G : base.Ns mainGlobals mg) (TB : ∀ p ∈ D.tf.map fun p => cT K p.1, LamX.TabB base mg p.1 p.2) : ∀ n, DefsAt D (C n) (2 * n) P w K mg base
  | 0 => by
    refine ⟨fun f d hd => ?_, fun i d hd => ⟨fun A outer s H us vs Q E f c hr e0 hf hc r ⟨ds, G, P, EX, _, _, _, p, _⟩ => (L.zero _ _ _ _ _ p).elim⟩⟩
    obtain ⟨fd, F, hl⟩ := O.fun_ d (List.mem_of_getElem? hd)
    have hok := List.all_eq_true.mp O.dok d (List.mem_of_getElem? hd)
    unfold FD.ok at hok
    obtain ⟨h1, h⟩ := and2 hok
    obtain ⟨h2, h3⟩ := and2 h
    have hb := F.bindsN fun kV doc pm an cdv ct us hl => bind_plain h2 rfl hl
    have kp := F.kp
    obtain ⟨oc, od, dV, kV, doc, pm, an, cdv, ct, osl, rfl, lk, hcd, hdv, _⟩ := F.ex
    have edv : dV = .none := by rcases hdv with ⟨_, e⟩ | ⟨e, _⟩ <;> first | exact e | exact absurd rfl e
    exact ⟨_, ⟨fun vs H Q E ⟨ds, G, P, EX, _, _, _, p, _⟩ => (L.zero _ _ _ _ _ p).elim, fun A outer s H args us vs Q E _ _ _ _ ⟨ds, G, P, EX, _, _, _, p, _⟩ => (L.zero _ _ _ _ _ p).elim⟩, hb, kp, rfl, edv, _, lk, rfl⟩
  | n + 1 => by
    have g := gf_of O KX G (defs_all O L KX G TB n)
    refine ⟨fun f d hd => ?_, fun i d hd => lamD (List.all_eq_true.mp O.lok d (List.mem_of_getElem? hd)) rfl g (L.l n i d hd)⟩
    obtain ⟨fd, F, hl⟩ := O.fun_ d (List.mem_of_getElem? hd)
    obtain ⟨a, b⟩ := fnD F (List.all_eq_true.mp O.dok d (List.mem_of_getElem? hd)) rfl g (L.d n f d hd) fun h => by
      obtain ⟨c, P, e1, e2, e3⟩ := hl h
      exact ⟨c, P, e1, TB _ e3, e2⟩
    have kp := F.kp
    obtain ⟨oc, od, dV, kV, doc, pm, an, cdv, ct, osl, e, lk, hcd, hdv, _⟩ := F.ex
    have edv : dV = .none := by rcases hdv with ⟨_, e⟩ | ⟨e, _⟩ <;> first | exact e | exact absurd rfl e
    exact ⟨fd, a, b, kp, by rw [e], by rw [e]; exact edv, _, lk, rfl⟩
end
end DL
end
section
set_option Elab.async false
set_option linter.all false
set_option maxRecDepth 100000
set_option autoImplicit false
namespace DL
open PySem PySem.Spec PyProof.Rows L2 He
/-! ### the hook's words, and what follows from them -/
def PT.fn (D : PT) : List DefD := D.ds.map fun d => ⟨d.2, d.1.name, d.1.qual, d.1.params, d.1.body, d.1.scope, [], []⟩
def PT.ts (D : PT) : List Tab := D.T.kds.map fun p => (fun K => ga K (Str.ofString p.1), p.2.map fun q => Str.ofString q.1)
def PT.tabs (D : PT) : List Defn := D.tf.map (·.1)
def lamsB (D : PT) : Bool := decide (D.T.lams.length = D.ls.length) && (D.ds.all fun d => !d.1.lam || (decide ((d.2, d.1.qual) ∈ D.tf) && decide (d.1.qual ∈ lamQuals)))
theorem lamTab_of {K : PySem.W.Frag} {c P : Addr} {q : Str} (h : PySem.W.codeHdIn K c P = true) (h2 : PySem.W.codeIn K (.ref c) q = true) (hq : q ∈ lamQuals) : LamTab K P (lamQ q) := by
  unfold PySem.W.codeHdIn at h
  split at h
  · rename_i od vs sl hk
    simp only [Bool.and_eq_true] at h
    obtain ⟨⟨⟨⟨⟨e1, e2⟩, e3⟩, e4⟩, e5⟩, e6⟩ := h
    split at e1
    · rename_i P' hv
      have eP : P' = P := by simpa using e1
      subst eP
      have h3 : (match K.lookup c with
        | some ⟨_, _, .fields vs, _⟩ => (match vs.toList with | _ :: .str n _ :: _ => n == q | _ => false)
        | _ => false) = true := h2
      rw [hk] at h3
      dsimp only at h3
      split at h3
      · rename_i x n t r hl
        have en : n = q := by simpa using h3
        subst en
        refine ⟨c, _, vs, n, t, hk, rfl, hv, ?_, hq, rfl⟩
        rw [← Array.getElem?_toList, hl]
        rfl
      · cases h3
    · cases e1
  · cases h
theorem pg_of {D : PT} {w : World} {h : Heap} {K : PySem.W.Frag} (c : SaysX [] D.fn D.ts D.tabs (gfB D) w h K) (dok : D.ds.all (fun d => d.1.ok D.T) = true) (lok : D.ls.all (fun d => d.ok D.T) = true) (lb : lamsB D = true)
    (hl : ∀ L f n, (L, f, n) ∈ D.T.lams → ∃ i d, D.ls[i]? = some d ∧ d.L = L ∧ f = D.ds.length + i ∧ n = d.ps.length) : PGOk D w K where
  gf := c.more
  dok := dok
  lok := lok
  fun_ := fun d hd => by
    obtain ⟨fd, F⟩ := c.t.d.defs (d := ⟨d.2, d.1.name, d.1.qual, d.1.params, d.1.body, d.1.scope, [], []⟩) (List.mem_map.mpr ⟨d, hd, rfl⟩)
    have F' : FunD K d.1.name d.1.qual d.1.params d.1.body d.1.scope [] [] (fAd K d.2) fd := F
    refine ⟨fd, F', fun hlam => ?_⟩
    have q := List.all_eq_true.mp (and2 lb).2 d hd
    rw [hlam] at q
    obtain ⟨q1, q2⟩ := and2 (show (decide ((d.2, d.1.qual) ∈ D.tf) && decide (d.1.qual ∈ lamQuals)) = true by simpa using q)
    have m := of_decide_eq_true q1
    have mt : d.2 ∈ D.tabs := List.mem_map.mpr ⟨_, m, rfl⟩
    have h1 := c.hd d.2 mt
    obtain ⟨oc, od, dV, kV, doc, pm, an, cdv, ct, osl, e, lk, hcd, _, _⟩ := F'.ex
    obtain ⟨cc, ec⟩ := codeIn_ref hcd
    have e2 : codeOf K d.2 = cc := codeOf_eq lk (by rw [e]; exact ec)
    refine ⟨(cT K d.2).1, (cT K d.2).2, ?_, lamTab_of h1 ?_ (of_decide_eq_true q2), List.mem_map.mpr ⟨_, m, rfl⟩⟩
    · show fd.code = .ref (codeOf K d.2)
      rw [e2, e]
      exact ec
    · show PySem.W.codeIn K (.ref (codeOf K d.2)) d.1.qual = true
      rw [e2, ← ec]
      exact hcd
  kd := fun p hp => by
    obtain ⟨i, hi, e⟩ := List.mem_iff_getElem.mp hp
    obtain ⟨es, n, k⟩ := c.t.tab i (t := (fun K => ga K (Str.ofString p.1), p.2.map fun q => Str.ofString q.1)) (by
      unfold PT.ts
      rw [List.getElem?_map, List.getElem?_eq_getElem hi, e]
      rfl)
    exact ⟨es, n, k⟩
  lams := hl
/-- the law's def as walk_ofTsE wants it: its spec at a level, at the script -/
theorem law_at {D : PT} {C : Nat → Nat → DSp} {l : PySem.W.OpenLaw} {w : World} {K : PySem.W.Frag} {n lev fid : Nat} {x : Str} {mg : Str → Option Value} {fa : Addr} {h : Heap} {d : FD × Loc1}
    (c : SaysX [] D.fn D.ts D.tabs (gfB D) w h K) (O : PGOk D w K) (L : Lev D C) (KX : K.In h) (G : h.Ns mainGlobals mg) (hd : D.ds[fid]? = some d) (hps : d.1.ps = [x]) (hfa : fAd K d.2 = fa)
    (hlaw : ∀ (ns : List Int) (G : DH) (s : DV), ns.length ≤ n → (∀ z ∈ ns, Builtin.Int.intBits z ≤ 1048576) → (s = .lk (ns.map DV.int) ∨ ∃ a, s = .ref a ∧ G a = some (.lst (ns.map DV.int))) → C lev fid [s] G (fun v _ => v = .bl true) (fun _ _ _ => False)) :
    LamX.LawAtS l w K (L2.CX l.prog w) (2 * lev) n x mg fa h := by
  obtain ⟨fd, F, hlm⟩ := O.fun_ d (List.mem_of_getElem? hd)
  have hok := List.all_eq_true.mp O.dok d (List.mem_of_getElem? hd)
  unfold FD.ok at hok
  obtain ⟨h1, h2⟩ := and2 hok
  obtain ⟨h2, h3⟩ := and2 h2
  have hb := F.bindsA (ps := [x]) fun kV doc pm an cdv ct us hl => by
    rw [← hps]
    exact bind_plain h2 rfl (by rw [hl, hps])
  have gfb := O.gf
  have lamb : lamB D K = true := by
    unfold gfB at gfb
    exact (and2 (and2 (and2 (and2 (and2 (and2 (and2 (and2 (and2 gfb).2).2).2).2).2).2).2).2).2
  refine ⟨fd, D.tf.map fun p => cT K p.1, spD K 1 (C lev fid), fun p hp => ?_, fun p hp => ?_, fun p hp => ?_, fun s u => hb s [u] rfl, fun H a ns hl hbits hT hS => ?_, fun base KB GB TB => ?_⟩
  · obtain ⟨q, hq, rfl⟩ := List.mem_map.mp hp
    exact c.empty q.1 (List.mem_map.mpr ⟨q, hq, rfl⟩)
  · obtain ⟨q, hq, rfl⟩ := List.mem_map.mp hp
    exact c.out q.1 (List.mem_map.mpr ⟨q, hq, rfl⟩)
  · obtain ⟨q, hq, rfl⟩ := List.mem_map.mp hp
    exact PySem.W.codeHd_of_K KX (c.hd q.1 (List.mem_map.mpr ⟨q, hq, rfl⟩))
  · have tabK : TabK K H := fun P q ht => by
      obtain ⟨q0, hm, e⟩ := lamB_mem lamb ht
      obtain ⟨p, hp, ep⟩ := List.mem_map.mp hm
      have e2 : (cT K p.1).2 = P := congrArg Prod.snd ep
      rw [← e2]
      exact LamX.TabS.nil (hT _ (List.mem_map.mpr ⟨p, hp, rfl⟩))
    have ri : ∀ H : Hp, RepL K H (ns.map DV.int) (ns.map V.int) := fun H => RepL.ints.mpr rfl
    have xr : XR K ⟨fun _ _ _ => False, fun _ _ _ => False⟩ (fun _ => none) H := ⟨fun _ _ _ _ _ _ _ _ _ _ z => z.elim, fun _ _ _ _ _ z => z.elim⟩
    have lk : (∃ o, H a = some (.frz o (.lst (ns.map V.int)))) ∨ SqL K H0 a (ns.map V.int) → spD K 1 (C lev fid) [.ref a] H (fun v _ => v = .bl true) fun _ _ _ => False := fun q =>
      ⟨[.lk (ns.map DV.int)], fun _ => none, fun v _ => v = .bl true, fun _ _ _ => False, repL_cons.mpr ⟨_, _, rfl, rep_lk.mpr ⟨a, _, rfl, q, ri H⟩, repL_nil.mpr rfl⟩, ⟨(fun _ _ z => by cases z), tabK⟩, rfl, hlaw ns _ _ hl hbits (.inl rfl), fun d G' v H' z _ _ p => by rw [p] at z; exact rep_bl.mp z, xr⟩
    rcases hS with (q | ⟨o, q⟩) | q
    · refine ⟨[.ref a], updD (fun _ => none) a (.lst (ns.map DV.int)), fun v _ => v = .bl true, fun _ _ _ => False, repL_cons.mpr ⟨_, _, rfl, rep_ref.mpr rfl, repL_nil.mpr rfl⟩, ⟨fun b ob z => ?_, tabK⟩, rfl, hlaw ns _ _ hl hbits (.inr ⟨a, rfl, updD_same⟩), fun d G' v H' z _ _ p => by rw [p] at z; exact rep_bl.mp z, ⟨fun _ _ _ _ _ _ _ _ _ _ z => z.elim, fun _ _ _ _ _ z => z.elim⟩⟩
      by_cases e : b = a
      · rw [e, updD_same] at z; cases z; rw [e]; exact ⟨_, q, ri H⟩
      · rw [updD_ne e] at z; cases z
    · exact lk (.inl ⟨o, q⟩)
    · exact lk (.inr (.inr q))
  · obtain ⟨fd', a1, a2, a3, a4, a5, o, lk, ho⟩ := (defs_all O L KB GB TB lev).1 fid d hd
    obtain ⟨oc, od, dV, kV, doc, pm, an, cdv, ct, osl, e, lk2, _⟩ := F.ex
    rw [lk2] at lk
    cases lk
    have e3 : fd = fd' := by
      have h4 : Data.func fd = Data.func fd' := ho
      injection h4
    rw [← e3, hps, hfa] at a1
    exact a1
end DL
end
section
set_option Elab.async false
set_option linter.all false
set_option maxRecDepth 100000
set_option autoImplicit false
namespace DL
open PySem PySem.Spec PyProof.Rows L2 He
/-! ### a hook that looks at a few named things only -/
def nmAt (g : Addr → Option Obj) (x : Str) : List Addr := match g mainGlobals with
  | some ⟨_, _, .dict es _, _⟩ => (match es.toList.find? (·.key.isStr x) with
    | some e => refV e.val
    | none => [])
  | _ => []
def refsF (g : Addr → Option Obj) (a : Addr) : List Addr := match g a with
  | some ⟨_, _, .func fd, _⟩ => refV fd.code ++ refV fd.defaults
  | some ⟨_, _, .cls cd, _⟩ => cd.ns :: cd.mro.flatMap refV
  | some ⟨_, _, .dict es _, _⟩ => es.toList.flatMap fun e => refV e.val
  | _ => []
def grow1 (g : Addr → Option Obj) (as : List Addr) : List Addr := as.flatMap (refsF g)
/-- the named things, what they name, in three steps -/
def asY (xs : List Str) (g : Addr → Option Obj) : List Addr :=
  let a0 := xs.flatMap (nmAt g)
  let a1 := grow1 g a0
  let a2 := grow1 g a1
  let a3 := grow1 g a2
  mainGlobals :: (a0 ++ (a1 ++ (a2 ++ a3)))
def obsY (xs : List Str) (fa : List Fa) (fn : List DefD) (ts : List Tab) (tf : List Defn) (ex : PySem.W.Frag → Bool) (g : Addr → Option Obj) : AlX := (obsT fa fn ts (frT g (asY xs g)), ex (frT g (asY xs g)) && tabsB g tf (frT g (asY xs g)))
theorem saysY_of {xs : List Str} {fa : List Fa} {fn : List DefD} {ts : List Tab} {tf : List Defn} {ex : PySem.W.Frag → Bool} {w : World} {h : Heap} (e : obsY xs fa fn ts tf ex h.get? = valX fn ts w) : SaysX fa fn ts tf ex w h (frT h.get? (asY xs h.get?)) := by
  have e1 : obsT fa fn ts (frT h.get? (asY xs h.get?)) = valT fn ts w := congrArg (fun z : AlX => z.1) e
  have e2 : (ex (frT h.get? (asY xs h.get?)) && tabsB h.get? tf (frT h.get? (asY xs h.get?))) = true := congrArg (fun z : AlX => z.2) e
  obtain ⟨h1, h2⟩ := ba e2
  have key : ∀ p ∈ tf, PySem.W.codeHdIn (frT h.get? (asY xs h.get?)) (cT (frT h.get? (asY xs h.get?)) p).1 (cT (frT h.get? (asY xs h.get?)) p).2 = true ∧ ∃ o, h.get? (cT (frT h.get? (asY xs h.get?)) p).2 = some o ∧ emptyTab o = true := fun p hp => by
    obtain ⟨h3, h4⟩ := ba (List.all_eq_true.mp h2 p hp)
    refine ⟨h3, ?_⟩
    cases q : h.get? (cT (frT h.get? (asY xs h.get?)) p).2 with
    | none =>
      rw [q] at h4
      cases h4
    | some o =>
      rw [q] at h4
      exact ⟨o, rfl, h4⟩
  exact ⟨e1, h1, fun p hp => (key p hp).1, fun p hp => by
    obtain ⟨_, o, q, z⟩ := key p hp
    exact frT_none q z, fun p hp => by
    obtain ⟨_, o, q, z⟩ := key p hp
    rw [q, emptyTab_eq z]⟩
def hookY (xs : List Str) (fa : List Fa) (fn : List DefD) (ts : List Tab) (tf : List Defn) (ex : PySem.W.Frag → Bool) : PySem.W.Hook where
  α := AlX
  obs := fun s => obsY xs fa fn ts tf ex s.heap.get?
  val := fun w => valX fn ts w
  says := fun w h => ∃ K : PySem.W.Frag, K.In h ∧ SaysX fa fn ts tf ex w h K
  of := fun _ _ e => ⟨_, frT_in, saysY_of e⟩
  keeps := fun _ _ _ ⟨K, hK, c⟩ k => ⟨K, PySem.W.Frag.In.keeps hK k, ⟨c.t, c.more, c.hd, c.out, fun p hp => k _ _ (c.empty p hp)⟩⟩
theorem obsY_eq {xs : List Str} {fa : List Fa} {fn : List DefD} {ts : List Tab} {tf : List Defn} {ex : PySem.W.Frag → Bool} {g : Addr → Option Obj} {s : Shared} (h : ∀ a, g a = s.heap.get? a) : obsY xs fa fn ts tf ex g = (hookY xs fa fn ts tf ex).obs s := by
  have e : g = s.heap.get? := funext h
  rw [e] <;> rfl
/-- the module's names that are looked at -/
def PT.xs (D : PT) : List Str := ((D.ds.map fun d => d.2.1) ++ (D.T.fns.map fun p => Str.ofString p.1) ++ (D.T.kfns.map fun p => Str.ofString p.1) ++ (D.T.mks.map fun p => Str.ofString p.1) ++ (D.T.kds.map fun p => Str.ofString p.1) ++ (D.T.tys.flatMap fun t => match t with
  | .o c => [Str.ofString c]
  | .b _ => [])).eraseDups
end DL
end
section
set_option Elab.async false
set_option linter.all false
set_option maxRecDepth 100000
set_option maxHeartbeats 0
namespace DL
open PySem PySem.W PySem.Calls PyProof.Rows L2
abbrev R : OpenRow := OpenLaw.row PySem.Challenge.rw_circlewatch_k00_watchers_of_any_value
def tst (i : Nat) : Stmt := R.prog.main.body.getD i (.Pass ⟨0, 0, 0, 0⟩)
def mst (i j : Nat) : Stmt := match tst i with
  | .ClassDef _ _ _ body _ _ _ _ _ _ _ => body.getD j (.Pass ⟨0, 0, 0, 0⟩)
  | _ => .Pass ⟨0, 0, 0, 0⟩
def subE : Expr → Nat → Expr
  | .Tuple es _ _, i => es.getD i (.Constant .none 0 ⟨0, 0, 0, 0⟩)
  | .List es _, i => es.getD i (.Constant .none 0 ⟨0, 0, 0, 0⟩)
  | .Call _ es _ _, i => es.getD i (.Constant .none 0 ⟨0, 0, 0, 0⟩)
  | e, _ => e
def retE : Stmt → Expr
  | .Return (some e) _ => e
  | _ => .Constant .none 0 ⟨0, 0, 0, 0⟩
def lamE (q : Str) : Expr → LF.LamT
  | .Lambda a b s _ => ⟨q, a, b, s⟩
  | e => ⟨q, ⟨[], [], none, [], [], none, []⟩, e, ⟨.module, [], false, false, []⟩⟩
def lamL0 : LF.LamT := lamE (lamQ "both") (subE (subE (retE ((C8.fnBody (tst 110)).getD 0 (.Pass ⟨0, 0, 0, 0⟩))) 1) 2)
def tabs : GT := {
  free := ["range", "zip", "enumerate", "isinstance", "list", "int", "sorted", "tuple", "len", "max", "str", "all", "dict"]
  vals := [("PAIR_watchers", .int 2), ("MOST_MEMBERS", .int 4), ("DEED_PARTS", .int 4), ("KIND_PARTS", .int 2), ("MOST_PARTS", .int 3), ("OPENING_PARTS", .int 4), ("MOST_NEEDS", .int 2), ("SMALL", .str (Str.ofString "abcdefghijklmnopqrstuvwxyz")), ("PAIR_circles", .int 2), ("PART", .str (Str.ofString "part")), ("AROUND", .str (Str.ofString "around")), ("MOST_SIGNS_things", .int 8), ("CAPITALS", .str (Str.ofString "ABCDEFGHIJKLMNOPQRSTUVWXYZ")), ("DIGITS", .str (Str.ofString "0123456789"))]
  fns := [("law", 0, 1), ("_law_deck", 1, 2), ("_law_circle", 2, 2), ("_law_draw", 5, 2), ("_law_code", 6, 1), ("_law_watcher", 4, 2), ("_law_made", 9, 2), ("_law_recipe", 14, 3), ("_law_pick", 7, 2), ("_law_names", 10, 1), ("done", 11, 2), ("_law_same", 12, 2), ("opposite", 15, 2), ("both", 16, 3), ("_law_near_watchers", 3, 3), ("_law_is_watcher", 8, 2), ("is_watcher", 13, 2), ("_law_books", 17, 0), ("_law_thing", 19, 4), ("_law_words", 18, 2), ("_law_is_standing", 22, 2), ("is_row", 25, 3), ("are_standings", 24, 2), ("paired_rows", 26, 2), ("paired_standings", 27, 3), ("is_place_circles", 30, 2), ("are_deeds", 28, 4), ("are_firsts", 29, 3), ("are_kinds", 31, 1), ("are_openings", 32, 2), ("are_ascending_circles", 33, 1), ("is_deed", 34, 4), ("is_kind", 37, 1), ("are_ascending_books", 36, 1), ("is_opening", 38, 2), ("is_word", 39, 1), ("is_move", 40, 4), ("is_thing_by", 41, 2), ("is_integer", 42, 1), ("is_place_books", 43, 2), ("is_need", 44, 3), ("is_short", 45, 1), ("is_show", 46, 3), ("is_name", 47, 1), ("is_single", 48, 2), ("are_members", 49, 2)]
  mks := [("Circle", "Circle", 20, 6), ("Book", "Book", 21, 3)]
  mets := [("Circle", "deed", 23, 2), ("Book", "is_thing", 35, 2)]
  flds := [("Book", "counts"), ("Book", "kinds"), ("Book", "openings"), ("Book", "needs_by_opening"), ("Circle", "book"), ("Circle", "members"), ("Circle", "states"), ("Circle", "deeds"), ("Circle", "firsts"), ("Circle", "names"), ("Circle", "deed_by_name"), ("Circle", "known_by_word")]
  clss := [("tuple", .b "tuple"), ("list", .b "list"), ("bool", .b "bool"), ("int", .b "int"), ("dict", .b "dict"), ("str", .b "str")]
  kds := [("NEED_SIZES", [("part", .int 2), ("around", .int 3), ("inside", .int 3)])]
  kfns := [("is_watcher", 13, ["circle", "thing"])]
  lams := [(lamL0, 50, 2)]
  tys := [.b "NoneType", .b "bool", .b "int", .b "str", .b "tuple", .b "list", .b "dict", .o "Book", .o "Circle"] }
def f_law : FD := { name := "law", qual := "law", params := C8.fnArgs (tst 129), body := C8.fnBody (tst 129), scope := C8.fnScope (tst 129), N := ["script", "deck", "turn", "w", "near", "things", "some", "thing", "code", "name", "due", "told", "rows", "good", "made", "go"], ps := ["script"], lam := false, ys := [
    .asg (.n 1) (.call "_law_deck" 1 2 [.v 0, .int 20135100]),
    .for_ (.n 2) .rng1 [.int 6] [
      .asg (.n 3) (.call "_law_circle" 2 2 [.v 1, .int 3]),
      .ifs (.cmp .eq (.call "_law_draw" 5 2 [.v 1, .int 8]) (.int 0)) [
        .set (.v 3) (.str "deeds") (.tup [])] [],
      .par2 8 5 (.call "_law_code" 6 1 [.v 3]) (.lst [.call "_law_watcher" 4 2 [.v 1, .v 3]]),
      .ifs (.cmp .ne (.ix (.v 3) (.str "deeds")) (.tup [])) [
        .expr (.bm .append (.v 5) [.call "_law_made" 9 2 [.v 3, .call "_law_recipe" 14 3 [.v 1, .v 3, .int 2]]]),
        .asg (.n 9) (.call "_law_pick" 7 2 [.v 1, .call "_law_names" 10 1 [.v 3]]),
        .par2 14 10 (.call "done" 11 2 [.v 8, .v 9]) (.call "_law_made" 9 2 [.v 3, .tup [.str "done", .v 9]]),
        .ifs (.not (.call "_law_same" 12 2 [.v 14, .v 10])) [
          .ret (.bl false)] [],
        .asg (.n 5) (.bin .add (.v 5) (.lst [.v 14, .call "opposite" 15 2 [.v 8, .v 14], .call "both" 16 3 [.v 8, .v 14, .ix (.v 5) (.int 0)]]))] [],
      .asg (.n 4) (.call "_law_near_watchers" 3 3 [.v 1, .v 3, .call "_law_pick" 7 2 [.v 1, .slH (.v 5) (.int 2)]]),
      .asg (.n 5) (.bin .add (.v 5) (.lc [15] (.n 15) .rng1 [.int 14] [] (.call "_law_pick" 7 2 [.v 1, .v 4]))),
      .asg (.n 6) (.lst [.bl true, .int 7, .str "", .tup [], .tup [.tup [], .tup []], .tup [.tup []], .tup [.tup [.tup []], .tup []], .tup [.tup [.tup [.int 0]], .tup [.int 0]], .tup [.tup [.tup [.int 0, .int 0]], .tup []], .tup [.tup [.tup []], .tup [.int 0]], .v 8]),
      .for_ (.n 7) .seq [.bin .add (.v 5) (.lc [15] (.n 15) .rng1 [.int 3] [] (.call "_law_pick" 7 2 [.v 1, .v 6]))] [
        .asg (.n 10) (.call "_law_is_watcher" 8 2 [.v 3, .v 7]),
        .asg (.n 11) (.lst [.call "is_watcher" 13 2 [.v 8, .v 7], .callK "is_watcher" 13 2 0 [1, 0] ["circle", "thing"] ["thing", "circle"] [] [.v 7, .v 8]]),
        .ifs (.not (.call "_law_same" 12 2 [.v 11, .lst [.v 10, .v 10]])) [
          .ret (.bl false)] []],
      .asg (.t [.n 12, .n 13]) (.call "_law_watcher" 4 2 [.v 1, .v 3]),
      .asg (.n 7) (.lst [.bf .list [.v 12], .bf .list [.v 13]]),
      .ifs (.or [.cmp .nis (.call "is_watcher" 13 2 [.v 8, .v 7]) (.bl false), .cmp .ne (.v 7) (.lst [.bf .list [.v 12], .bf .list [.v 13]])]) [
        .ret (.bl false)] []],
    .ret (.bl true)] }
def f_law_deck : FD := { name := "_law_deck", qual := "_law_deck", params := C8.fnArgs (tst 113), body := C8.fnBody (tst 113), scope := C8.fnScope (tst 113), N := ["script", "seed", "cell"], ps := ["script", "seed"], lam := false, ys := [
    .for_ (.n 2) .seq [.slH (.v 0) (.int 63)] [
      .asg (.n 1) (.bin .mod (.bf .int [.bin .add (.bin .add (.bin .mul (.v 1) (.int 40014)) (.bin .mod (.bf .int [.v 2]) (.int 2147483629))) (.int 71)]) (.int 2147483587))],
    .ret (.dct [.str "left", .str "mixed", .str "draws"] [.rev (.lc [2] (.n 2) .seq [.slH (.v 0) (.int 63)] [] (.bf .int [.v 2])), .v 1, .int 0])] }
def f_law_circle : FD := { name := "_law_circle", qual := "_law_circle", params := C8.fnArgs (tst 120), body := C8.fnBody (tst 120), scope := C8.fnScope (tst 120), N := ["deck", "most", "w", "names", "pool", "name", "firsts", "p", "kinds", "opens", "deeds", "k", "need", "moves", "some", "show", "there", "way"], ps := ["deck", "most"], lam := false, ys := [
    .asg (.t [.n 8, .n 9]) (.call "_law_pick" 7 2 [.v 0, .call "_law_books" 17 0 []]),
    .asg (.n 2) (.dct [.str "kinds", .str "opens", .str "members", .str "states"] [.v 8, .v 9, .bin .add (.int 1) (.call "_law_draw" 5 2 [.v 0, .v 1]), .bin .add (.int 1) (.call "_law_draw" 5 2 [.v 0, .v 1])]),
    .asg (.n 3) (.lst [.str "K", .str "N7", .str "s", .str "to"]),
    .asg (.n 4) (.bin .add (.lst [.str "K"]) (.lc [11] (.n 11) .rng1 [.bin .add (.int 2) (.call "_law_draw" 5 2 [.v 0, .int 2])] [] (.call "_law_thing" 19 4 [.v 0, .fg (.v 8), .v 3, .int 2]))),
    .tset (.v 2) (.str "pool") 10 (.v 4) (.lst []),
    .for_ (.n 5) .seq [.bf .sorted [.call "_law_words" 18 2 [.v 0, .bin .add (.int 1) (.call "_law_draw" 5 2 [.v 0, .int 3])]]] [
      .par2 12 13 (.call "_law_pick" 7 2 [.v 0, .bin .add (.bin .add (.lst [.non, .non]) (.slH (.v 4) (.int 1))) (.slL (.v 4) (.neg (.int 1)))]) (.lst []),
      .for_ (.n 11) .rng1 [.ix (.v 2) (.str "states")] [
        .par2 16 17 (.call "_law_draw" 5 2 [.v 0, .ix (.v 2) (.str "states")]) (.call "_law_draw" 5 2 [.v 0, .int 5]),
        .asg (.n 14) (.lc [7] (.n 7) .rng1 [.ix (.v 2) (.str "members")] [.cmp .eq (.call "_law_draw" 5 2 [.v 0, .int 2]) (.int 0)] (.v 7)),
        .asg (.n 15) (.ite (.and [.cmp .ne (.v 14) (.lst []), .cmp .gt (.v 17) (.int 1)]) (.tup [.call "_law_pick" 7 2 [.v 0, .v 4], .bf .tuple [.v 14]]) .non),
        .expr (.bm .append (.v 13) [.ite (.cmp .gt (.v 17) (.int 0)) (.tup [.v 16, .v 15]) .non])],
      .expr (.bm .append (.v 10) [.tup [.v 5, .call "_law_draw" 5 2 [.v 0, .ix (.v 2) (.str "members")], .v 12, .bf .tuple [.v 13]]])],
    .set (.v 2) (.str "deeds") (.bf .tuple [.v 10]),
    .asg (.n 6) (.lst []),
    .for_ (.n 7) .rng1 [.ix (.v 2) (.str "members")] [
      .expr (.bm .append (.v 6) [.bf .tuple [.lc [11] (.n 11) .rng1 [.call "_law_draw" 5 2 [.v 0, .int 3]] [] (.call "_law_pick" 7 2 [.v 0, .v 4])]])],
    .set (.v 2) (.str "firsts") (.bf .tuple [.v 6]),
    .ret (.v 2)] }
def f_law_near_watchers : FD := { name := "_law_near_watchers", qual := "_law_near_watchers", params := C8.fnArgs (tst 128), body := C8.fnBody (tst 128), scope := C8.fnScope (tst 128), N := ["deck", "w", "watcher", "row", "k", "some", "found", "rows", "good", "at", "many", "it"], ps := ["deck", "w", "watcher"], lam := false, ys := [
    .asg (.t [.n 7, .n 8]) (.v 2),
    .asg (.t [.n 9, .n 10]) (.tup [.call "_law_draw" 5 2 [.v 0, .bf .len [.v 7]], .bf .len [.v 7]]),
    .asg (.n 3) (.ix (.v 7) (.v 9)),
    .asg (.n 4) (.call "_law_draw" 5 2 [.v 0, .bf .max [.int 1, .bf .len [.v 3]]]),
    .ifs (.cmp .eq (.v 3) (.tup [])) [
      .ret (.lst [.tup [.bin .add (.bin .add (.slH (.v 7) (.v 9)) (.tup [.tup [.int 0]])) (.slL (.v 7) (.bin .add (.v 9) (.int 1))), .v 8], .tup [.v 7, .bin .add (.v 8) (.tup [.v 10])], .tup [.slL (.v 7) (.int 1), .v 8], .bf .list [.v 2]])] [],
    .asg (.n 5) (.lst [.bin .add (.v 3) (.tup [.int 0]), .slH (.v 3) (.neg (.int 1)), .bf .list [.v 3], .bin .add (.bin .add (.slH (.v 3) (.v 4)) (.tup [.v 10])) (.slL (.v 3) (.bin .add (.v 4) (.int 1))), .bin .add (.bin .add (.slH (.v 3) (.v 4)) (.tup [.neg (.int 1)])) (.slL (.v 3) (.bin .add (.v 4) (.int 1))), .non, .tup []]),
    .asg (.n 5) (.bin .add (.v 5) (.lst [.bin .add (.bin .add (.slH (.v 3) (.v 4)) (.tup [.cmp .eq (.ix (.v 3) (.v 4)) (.int 1)])) (.slL (.v 3) (.bin .add (.v 4) (.int 1))), .bin .add (.bin .add (.slH (.v 3) (.v 4)) (.tup [.bf .str [.ix (.v 3) (.v 4)]])) (.slL (.v 3) (.bin .add (.v 4) (.int 1))), .rev (.v 3)])),
    .asg (.n 6) (.lc [11] (.n 11) .seq [.v 5] [] (.tup [.bin .add (.bin .add (.slH (.v 7) (.v 9)) (.tup [.v 11])) (.slL (.v 7) (.bin .add (.v 9) (.int 1))), .v 8])),
    .asg (.n 6) (.bin .add (.v 6) (.lc [11] (.n 11) .seq [.tup [.bin .add (.v 8) (.tup [.v 10]), .bin .add (.v 8) (.slL (.v 8) (.neg (.int 1))), .rev (.v 8), .bf .list [.v 8], .tup [.int 0, .int 0], .tup [.bl true]]] [] (.tup [.v 7, .v 11]))),
    .asg (.n 6) (.bin .add (.v 6) (.lc [11] (.n 11) .seq [.tup [.tup [.bin .sub (.v 10) (.int 1)], .tup [.int 0, .bin .sub (.v 10) (.int 1)], .tup [.neg (.int 1)], .non, .int 0, .tup [.str "0"]]] [] (.tup [.v 7, .v 11]))),
    .asg (.n 6) (.bin .add (.v 6) (.lst [.tup [.slL (.v 7) (.int 1), .v 8], .tup [.slH (.v 7) (.neg (.int 1)), .v 8], .tup [.bin .add (.v 7) (.slH (.v 7) (.int 1)), .v 8], .tup [.bf .list [.v 7], .v 8], .tup [.tup [], .tup []]])),
    .ret (.bin .add (.v 6) (.lst [.bin .add (.v 2) (.tup [.tup []]), .lst [.v 7, .v 8], .v 7, .tup [.v 7], .tup [.v 8, .v 7], .non, .str "watcher", .dct [] [], .int 0]))] }
def f_law_watcher : FD := { name := "_law_watcher", qual := "_law_watcher", params := C8.fnArgs (tst 123), body := C8.fnBody (tst 123), scope := C8.fnScope (tst 123), N := ["deck", "w", "k", "many", "rows", "deed"], ps := ["deck", "w"], lam := false, ys := [
    .asg (.t [.n 3, .n 4]) (.tup [.bin .add (.int 1) (.call "_law_draw" 5 2 [.v 0, .int 4]), .lst []]),
    .for_ (.n 2) .rng1 [.v 3] [
      .expr (.bm .append (.v 4) [.bf .tuple [.lc [5] (.n 5) .seq [.ix (.v 1) (.str "deeds")] [] (.call "_law_draw" 5 2 [.v 0, .v 3])]])],
    .ret (.tup [.bf .tuple [.v 4], .bf .tuple [.lc [2] (.n 2) .rng1 [.v 3] [.cmp .eq (.call "_law_draw" 5 2 [.v 0, .int 3]) (.int 0)] (.v 2)]])] }
def f_law_draw : FD := { name := "_law_draw", qual := "_law_draw", params := C8.fnArgs (tst 114), body := C8.fnBody (tst 114), scope := C8.fnScope (tst 114), N := ["deck", "many", "figure", "cell"], ps := ["deck", "many"], lam := false, ys := [
    .set (.v 0) (.str "draws") (.bin .add (.ix (.v 0) (.str "draws")) (.int 1)),
    .asg (.n 2) (.bin .add (.ix (.v 0) (.str "mixed")) (.bin .mul (.int 56003) (.ix (.v 0) (.str "draws")))),
    .ifs (.cmp .ne (.ix (.v 0) (.str "left")) (.lst [])) [
      .asg (.n 3) (.bm .pop (.ix (.v 0) (.str "left")) []),
      .ifs (.cmp .ge (.v 3) (.bin .pow (.int 10) (.int 18))) [
        .expr (.bm .append (.ix (.v 0) (.str "left")) [.bin .fdiv (.v 3) (.bf .max [.int 2, .v 1])]),
        .ret (.bin .mod (.bf .int [.v 3]) (.v 1))] [],
      .asg (.n 2) (.bin .add (.v 2) (.bin .mod (.bf .int [.v 3]) (.int 2147483629)))] [],
    .asg (.n 2) (.bin .mod (.bf .int [.bin .add (.bin .mul (.v 2) (.int 48271)) (.int 83)]) (.int 2147483563)),
    .asg (.n 2) (.bin .mod (.bf .int [.bin .add (.bin .add (.bin .mul (.v 2) (.v 2)) (.bin .mul (.int 52774) (.ix (.v 0) (.str "draws")))) (.int 31)]) (.int 2147483399)),
    .asg (.n 2) (.bin .mod (.bf .int [.bin .mul (.v 2) (.int 40692)]) (.int 2147483647)),
    .ret (.bin .mod (.bf .int [.bin .fdiv (.v 2) (.int 64)]) (.v 1))] }
def f_law_code : FD := { name := "_law_code", qual := "_law_code", params := C8.fnArgs (tst 121), body := C8.fnBody (tst 121), scope := C8.fnScope (tst 121), N := ["w"], ps := ["w"], lam := false, ys := [
    .ret (.mk "Circle" "Circle" 20 6 [.mk "Book" "Book" 21 3 [.ix (.v 0) (.str "kinds"), .ix (.v 0) (.str "opens")], .ix (.v 0) (.str "members"), .ix (.v 0) (.str "states"), .ix (.v 0) (.str "deeds"), .ix (.v 0) (.str "firsts")])] }
def f_law_pick : FD := { name := "_law_pick", qual := "_law_pick", params := C8.fnArgs (tst 115), body := C8.fnBody (tst 115), scope := C8.fnScope (tst 115), N := ["deck", "some"], ps := ["deck", "some"], lam := false, ys := [
    .ret (.ix (.v 1) (.call "_law_draw" 5 2 [.v 0, .bf .len [.v 1]]))] }
def f_law_is_watcher : FD := { name := "_law_is_watcher", qual := "_law_is_watcher", params := C8.fnArgs (tst 127), body := C8.fnBody (tst 127), scope := C8.fnScope (tst 127), N := ["w", "thing", "many", "row", "it", "one", "other"], ps := ["w", "thing"], lam := false, ys := [
    .ifs (.or [.not (.isi "tuple" (.b "tuple") (.v 1)), .cmp .ne (.bf .len [.v 1]) (.int 2), .not (.isi "tuple" (.b "tuple") (.ix (.v 1) (.int 0))), .cmp .eq (.ix (.v 1) (.int 0)) (.tup [])]) [
      .ret (.bl false)] [],
    .asg (.n 2) (.bf .len [.ix (.v 1) (.int 0)]),
    .for_ (.n 3) .seq [.ix (.v 1) (.int 0)] [
      .ifs (.or [.not (.isi "tuple" (.b "tuple") (.v 3)), .cmp .ne (.bf .len [.v 3]) (.bf .len [.ix (.v 0) (.str "deeds")])]) [
        .ret (.bl false)] [],
      .ifs (.cmp .ne (.lc [4] (.n 4) .seq [.v 3] [.not (.call "_law_is_standing" 22 2 [.v 4, .v 2])] (.int 1)) (.lst [])) [
        .ret (.bl false)] []],
    .ifs (.or [.not (.isi "tuple" (.b "tuple") (.ix (.v 1) (.int 1))), .cmp .ne (.lc [4] (.n 4) .seq [.ix (.v 1) (.int 1)] [.not (.call "_law_is_standing" 22 2 [.v 4, .v 2])] (.int 1)) (.lst [])]) [
      .ret (.bl false)] [],
    .ret (.cmp .eq (.lc [5, 6] (.t [.n 5, .n 6]) .zip [.ix (.v 1) (.int 1), .slL (.ix (.v 1) (.int 1)) (.int 1)] [.cmp .ge (.v 5) (.v 6)] (.int 1)) (.lst []))] }
def f_law_made : FD := { name := "_law_made", qual := "_law_made", params := C8.fnArgs (tst 124), body := C8.fnBody (tst 124), scope := C8.fnScope (tst 124), N := ["w", "recipe", "one", "other", "names", "word", "rows", "k", "good", "many", "l", "far", "goal", "near", "is_good", "name", "x", "y"], ps := ["w", "recipe"], lam := false, ys := [
    .par2 4 5 (.call "_law_names" 10 1 [.v 0]) (.ix (.v 1) (.int 0)),
    .ifs (.cmp .eq (.v 5) (.str "own")) [
      .ret (.ix (.v 1) (.int 1))] [],
    .ifs (.cmp .eq (.v 5) (.str "done")) [
      .ret (.tup [.tup [.bf .tuple [.lc [15] (.n 15) .seq [.v 4] [] (.bf .int [.cmp .eq (.v 15) (.ix (.v 1) (.int 1))])], .bin .mul (.tup [.int 1]) (.bf .len [.v 4])], .tup [.int 1]])] [],
    .ifs (.cmp .eq (.v 5) (.str "in order")) [
      .asg (.t [.n 6, .n 9]) (.tup [.lst [], .bf .len [.ix (.v 1) (.int 1)]]),
      .for_ (.t [.n 7, .n 12]) .enum [.ix (.v 1) (.int 1)] [
        .expr (.bm .append (.v 6) [.bf .tuple [.lc [15] (.n 15) .seq [.v 4] [] (.bin .add (.v 7) (.bf .int [.cmp .eq (.v 15) (.v 12)]))]])],
      .ret (.tup [.bin .add (.bf .tuple [.v 6]) (.tup [.bin .mul (.tup [.v 9]) (.bf .len [.v 4])]), .tup [.v 9]])] [],
    .ifs (.cmp .eq (.v 5) (.str "counted")) [
      .asg (.n 6) (.lst []),
      .for_ (.n 7) .rng1 [.ix (.v 1) (.int 2)] [
        .expr (.bm .append (.v 6) [.bf .tuple [.lc [15] (.n 15) .seq [.v 4] [] (.bin .mod (.bf .int [.bin .add (.v 7) (.bf .int [.cmp .eq (.v 15) (.ix (.v 1) (.int 1))])]) (.ix (.v 1) (.int 2)))]])],
      .ret (.tup [.bf .tuple [.v 6], .tup [.ix (.v 1) (.int 3)]])] [],
    .asg (.n 2) (.call "_law_made" 9 2 [.v 0, .ix (.v 1) (.int 1)]),
    .ifs (.cmp .eq (.v 5) (.str "opposite")) [
      .ret (.tup [.ix (.v 2) (.int 0), .bf .tuple [.lc [7] (.n 7) .rng1 [.bf .len [.ix (.v 2) (.int 0)]] [.cmp .nin (.v 7) (.ix (.v 2) (.int 1))] (.v 7)]])] [],
    .asg (.n 3) (.call "_law_made" 9 2 [.v 0, .ix (.v 1) (.int 2)]),
    .asg (.t [.n 6, .n 8, .n 9]) (.tup [.lst [], .lst [], .bf .len [.ix (.v 2) (.int 0)]]),
    .for_ (.t [.n 10, .n 11]) .enum [.ix (.v 3) (.int 0)] [
      .for_ (.t [.n 7, .n 13]) .enum [.ix (.v 2) (.int 0)] [
        .expr (.bm .append (.v 6) [.bf .tuple [.lc [16, 17] (.t [.n 16, .n 17]) .zip [.v 13, .v 11] [] (.bin .add (.v 16) (.bin .mul (.v 9) (.v 17)))]]),
        .asg (.n 14) (.lst [.cmp .inn (.v 7) (.ix (.v 2) (.int 1)), .cmp .inn (.v 10) (.ix (.v 3) (.int 1))]),
        .ifs (.ite (.cmp .eq (.v 5) (.str "both")) (.cmp .nin (.bl false) (.v 14)) (.cmp .inn (.bl true) (.v 14))) [
          .expr (.bm .append (.v 8) [.bin .add (.v 7) (.bin .mul (.v 9) (.v 10))])] []]],
    .ret (.tup [.bf .tuple [.v 6], .bf .tuple [.v 8]])] }
def f_law_names : FD := { name := "_law_names", qual := "_law_names", params := C8.fnArgs (tst 122), body := C8.fnBody (tst 122), scope := C8.fnScope (tst 122), N := ["w", "deed"], ps := ["w"], lam := false, ys := [
    .ret (.lc [1] (.n 1) .seq [.ix (.v 0) (.str "deeds")] [] (.ix (.v 1) (.int 0)))] }
def f_done : FD := { name := "done", qual := "done", params := C8.fnArgs (tst 107), body := C8.fnBody (tst 107), scope := C8.fnScope (tst 107), N := ["circle", "name", "other"], ps := ["circle", "name"], lam := false, ys := [
    .expr (.own "Circle" "deed" 23 2 (.v 0) [.v 1]),
    .ret (.tup [.tup [.bf .tuple [.lc [2] (.n 2) .seq [.fld "names" (.v 0)] [] (.bf .int [.cmp .eq (.v 2) (.v 1)])], .bin .mul (.tup [.int 1]) (.bf .len [.fld "names" (.v 0)])], .tup [.int 1]])] }
def f_law_same : FD := { name := "_law_same", qual := "_law_same", params := C8.fnArgs (tst 116), body := C8.fnBody (tst 116), scope := C8.fnScope (tst 116), N := ["told", "due", "todo", "one", "other"], ps := ["told", "due"], lam := false, ys := [
    .asg (.n 2) (.lst [.tup [.v 0, .v 1]]),
    .whl (.cmp .ne (.v 2) (.lst [])) [
      .asg (.t [.n 3, .n 4]) (.bm .pop (.v 2) []),
      .ifs (.or [.isi "tuple" (.b "tuple") (.v 4), .isi "list" (.b "list") (.v 4)]) [
        .ifs (.or [.cmp .ne (.isi "tuple" (.b "tuple") (.v 3)) (.isi "tuple" (.b "tuple") (.v 4)), .cmp .ne (.isi "list" (.b "list") (.v 3)) (.isi "list" (.b "list") (.v 4))]) [
          .ret (.bl false)] [],
        .ifs (.cmp .ne (.bf .len [.v 3]) (.bf .len [.v 4])) [
          .ret (.bl false)] [],
        .expr (.bm .extend (.v 2) [.lzip [.v 3, .v 4]])] [
        .ifs (.cmp .is (.v 4) .non) [
          .ifs (.cmp .nis (.v 3) .non) [
            .ret (.bl false)] []] [
          .ifs (.isi "bool" (.b "bool") (.v 4)) [
            .ifs (.or [.not (.isi "bool" (.b "bool") (.v 3)), .cmp .ne (.v 3) (.v 4)]) [
              .ret (.bl false)] []] [
            .ifs (.isi "int" (.b "int") (.v 4)) [
              .ifs (.or [.not (.isi "int" (.b "int") (.v 3)), .isi "bool" (.b "bool") (.v 3), .cmp .ne (.v 3) (.v 4)]) [
                .ret (.bl false)] []] [
              .ifs (.isi "dict" (.b "dict") (.v 4)) [
                .ifs (.or [.not (.isi "dict" (.b "dict") (.v 3)), .cmp .ne (.v 3) (.v 4)]) [
                  .ret (.bl false)] []] [
                .ifs (.or [.not (.isi "str" (.b "str") (.v 3)), .cmp .ne (.v 3) (.v 4)]) [
                  .ret (.bl false)] []]]]]]],
    .ret (.bl true)] }
def f_is_watcher : FD := { name := "is_watcher", qual := "is_watcher", params := C8.fnArgs (tst 106), body := C8.fnBody (tst 106), scope := C8.fnScope (tst 106), N := ["circle", "thing", "moves", "good", "row"], ps := ["circle", "thing"], lam := false, ys := [
    .ifs (.or [.not (.isi "tuple" (.b "tuple") (.v 1)), .cmp .ne (.bf .len [.v 1]) (.g 0)]) [
      .ret (.bl false)] [],
    .asg (.t [.n 2, .n 3]) (.v 1),
    .ifs (.or [.not (.isi "tuple" (.b "tuple") (.v 2)), .cmp .eq (.v 2) (.tup [])]) [
      .ret (.bl false)] [],
    .ifs (.not (.bf .all [.lc [4] (.n 4) .seq [.v 2] [] (.call "is_row" 25 3 [.bf .len [.v 2], .bf .len [.fld "names" (.v 0)], .v 4])])) [
      .ret (.bl false)] [],
    .ret (.call "are_standings" 24 2 [.bf .len [.v 2], .v 3])] }
def f_law_recipe : FD := { name := "_law_recipe", qual := "_law_recipe", params := C8.fnArgs (tst 125), body := C8.fnBody (tst 125), scope := C8.fnScope (tst 125), N := ["deck", "w", "deep", "names", "way", "modulus", "k"], ps := ["deck", "w", "deep"], lam := false, ys := [
    .asg (.t [.n 3, .n 4]) (.tup [.call "_law_names" 10 1 [.v 1], .call "_law_draw" 5 2 [.v 0, .ite (.cmp .gt (.v 2) (.int 0)) (.int 7) (.int 4)]]),
    .ifs (.cmp .eq (.v 4) (.int 0)) [
      .ret (.tup [.str "done", .call "_law_pick" 7 2 [.v 0, .v 3]])] [],
    .ifs (.cmp .eq (.v 4) (.int 1)) [
      .ret (.tup [.str "in order", .bf .tuple [.lc [6] (.n 6) .rng1 [.call "_law_draw" 5 2 [.v 0, .int 4]] [] (.call "_law_pick" 7 2 [.v 0, .v 3])]])] [],
    .ifs (.cmp .eq (.v 4) (.int 2)) [
      .asg (.n 5) (.bin .add (.int 1) (.call "_law_draw" 5 2 [.v 0, .int 4])),
      .ret (.tup [.str "counted", .call "_law_pick" 7 2 [.v 0, .v 3], .v 5, .call "_law_draw" 5 2 [.v 0, .v 5]])] [],
    .ifs (.cmp .eq (.v 4) (.int 3)) [
      .ret (.tup [.str "own", .call "_law_watcher" 4 2 [.v 0, .v 1]])] [],
    .ifs (.cmp .eq (.v 4) (.int 4)) [
      .ret (.tup [.str "opposite", .call "_law_recipe" 14 3 [.v 0, .v 1, .bin .sub (.v 2) (.int 1)]])] [],
    .ret (.tup [.call "_law_pick" 7 2 [.v 0, .lst [.str "both", .str "either"]], .call "_law_recipe" 14 3 [.v 0, .v 1, .bin .sub (.v 2) (.int 1)], .call "_law_recipe" 14 3 [.v 0, .v 1, .bin .sub (.v 2) (.int 1)]])] }
def f_opposite : FD := { name := "opposite", qual := "opposite", params := C8.fnArgs (tst 111), body := C8.fnBody (tst 111), scope := C8.fnScope (tst 111), N := ["circle", "watcher", "standing"], ps := ["circle", "watcher"], lam := false, ys := [
    .ret (.tup [.ix (.v 1) (.int 0), .bf .tuple [.lc [2] (.n 2) .rng1 [.bf .len [.ix (.v 1) (.int 0)]] [.cmp .nin (.v 2) (.ix (.v 1) (.int 1))] (.v 2)]])] }
def f_both : FD := { name := "both", qual := "both", params := C8.fnArgs (tst 110), body := C8.fnBody (tst 110), scope := C8.fnScope (tst 110), N := ["circle", "one", "other"], ps := ["circle", "one", "other"], lam := true, ys := [
    .ret (.tup [.call "paired_rows" 26 2 [.v 1, .v 2], .call "paired_standings" 27 3 [.v 1, .v 2, .lam 0]])] }
def f_law_books : FD := { name := "_law_books", qual := "_law_books", params := C8.fnArgs (tst 117), body := C8.fnBody (tst 117), scope := C8.fnScope (tst 117), N := ["some", "kinds", "small"], ps := [], lam := false, ys := [
    .asg (.n 0) (.tup [.tup [.str "first", .str "pair", .int 0, .tup []], .tup [.str "open", .str "lock", .int 0, .tup [.tup [.str "part", .int 1]]], .tup [.str "second", .str "pair", .int 1, .tup []]]),
    .asg (.n 0) (.bin .add (.v 0) (.tup [.tup [.str "shown", .str "sign", .int 0, .tup []], .tup [.str "signed", .str "sign", .int 0, .tup [.tup [.str "around", .str "half", .int 1]]]])),
    .asg (.n 0) (.bin .add (.v 0) (.tup [.tup [.str "unseal", .str "seal", .int 0, .tup [.tup [.str "inside", .int 1, .str "half"]]]])),
    .asg (.n 1) (.xtup [.tup [.str "half", .int 1], .tup [.str "lock", .int 2], .tup [.str "mark", .int 1], .tup [.str "pair", .int 2], .tup [.str "seal", .int 2], .tup [.str "sign", .int 2]]),
    .asg (.n 2) (.tup [.tup [.str "lift", .str "bag", .int 0, .tup [.tup [.str "part", .int 1]]], .tup [.str "peel", .str "tag", .int 0, .tup []]]),
    .ret (.lst [.tup [.v 1, .v 0], .tup [.v 1, .v 0], .tup [.xtup [.tup [.str "bag", .int 2], .tup [.str "tag", .int 1]], .v 2]])] }
def f_law_words : FD := { name := "_law_words", qual := "_law_words", params := C8.fnArgs (tst 118), body := C8.fnBody (tst 118), scope := C8.fnScope (tst 118), N := ["deck", "many", "letters", "at", "k"], ps := ["deck", "many"], lam := false, ys := [
    .asg (.t [.n 2, .n 3]) (.tup [.str "abcdefghijklmnopqrstuvwxyz", .call "_law_draw" 5 2 [.v 0, .int 26]]),
    .ret (.lc [4] (.n 4) .rng1 [.v 1] [] (.bin .mul (.ix (.v 2) (.bin .mod (.bf .int [.bin .add (.v 3) (.bin .mul (.int 5) (.v 4))]) (.int 26))) (.bin .add (.int 1) (.bin .mod (.bf .int [.bin .add (.v 3) (.v 4)]) (.int 8)))))] }
def f_law_thing : FD := { name := "_law_thing", qual := "_law_thing", params := C8.fnArgs (tst 119), body := C8.fnBody (tst 119), scope := C8.fnScope (tst 119), N := ["deck", "kinds", "names", "deep", "way", "parts", "last", "kind", "many", "k"], ps := ["deck", "kinds", "names", "deep"], lam := false, ys := [
    .asg (.n 4) (.call "_law_draw" 5 2 [.v 0, .int 5]),
    .ifs (.or [.cmp .lt (.v 4) (.int 2), .cmp .eq (.v 3) (.int 0)]) [
      .ret (.call "_law_pick" 7 2 [.v 0, .v 2])] [],
    .asg (.t [.n 7, .n 8]) (.call "_law_pick" 7 2 [.v 0, .v 1]),
    .asg (.n 5) (.lc [9] (.n 9) .rng1 [.bin .sub (.v 8) (.int 1)] [] (.call "_law_thing" 19 4 [.v 0, .v 1, .v 2, .bin .sub (.v 3) (.int 1)])),
    .asg (.n 6) (.ite (.cmp .gt (.call "_law_draw" 5 2 [.v 0, .int 4]) (.int 0)) (.call "_law_pick" 7 2 [.v 0, .v 2]) (.call "_law_thing" 19 4 [.v 0, .v 1, .v 2, .bin .sub (.v 3) (.int 1)])),
    .ifs (.cmp .eq (.tup [.v 7, .v 4]) (.tup [.str "seal", .int 2])) [
      .asg (.n 6) (.tup [.str "half", .v 6])] [],
    .ret (.bin .add (.bin .add (.tup [.v 7]) (.bf .tuple [.v 5])) (.tup [.v 6]))] }
def f_Circle___init__ : FD := { name := "__init__", qual := "Circle.__init__", params := C8.fnArgs (mst 101 0), body := C8.fnBody (mst 101 0), scope := C8.fnScope (mst 101 0), N := ["self", "book", "members", "states", "deeds", "firsts", "deed"], ps := ["self", "book", "members", "states", "deeds", "firsts"], lam := false, ys := [
    .ifs (.or [.not (.call "is_place_circles" 30 2 [.bin .add (.g 1) (.int 1), .v 2]), .cmp .lt (.v 2) (.int 1)]) [
      .never] [],
    .ifs (.or [.not (.isi "int" (.b "int") (.v 3)), .isi "bool" (.b "bool") (.v 3), .cmp .lt (.v 3) (.int 1)]) [
      .never] [],
    .ifs (.not (.call "are_deeds" 28 4 [.v 1, .v 2, .v 3, .v 4])) [
      .never] [],
    .ifs (.not (.call "are_firsts" 29 3 [.v 1, .v 2, .v 5])) [
      .never] [],
    .fset (.v 0) "book" (.v 1),
    .fset (.v 0) "members" (.v 2),
    .fset (.v 0) "states" (.v 3),
    .fset (.v 0) "deeds" (.v 4),
    .fset (.v 0) "firsts" (.v 5),
    .fset (.v 0) "names" (.bf .tuple [.lc [6] (.n 6) .seq [.v 4] [] (.ix (.v 6) (.int 0))]),
    .fset (.v 0) "deed_by_name" (.dc [6] (.n 6) .seq [.v 4] [] (.ix (.v 6) (.int 0)) (.v 6)),
    .fset (.v 0) "known_by_word" (.dct [] [])] }
def f_Book___init__ : FD := { name := "__init__", qual := "Book.__init__", params := C8.fnArgs (mst 63 0), body := C8.fnBody (mst 63 0), scope := C8.fnScope (mst 63 0), N := ["self", "kinds", "openings", "item"], ps := ["self", "kinds", "openings"], lam := false, ys := [
    .ifs (.not (.call "are_kinds" 31 1 [.fg (.v 1)])) [
      .never] [],
    .fset (.v 0) "counts" (.bf .dict [.v 1]),
    .ifs (.not (.call "are_openings" 32 2 [.fld "counts" (.v 0), .v 2])) [
      .never] [],
    .fset (.v 0) "kinds" (.v 1),
    .fset (.v 0) "openings" (.v 2),
    .fset (.v 0) "needs_by_opening" (.dc [3] (.n 3) .seq [.v 2] [] (.ix (.v 3) (.int 0)) (.ix (.v 3) (.int 3)))] }
def f_law_is_standing : FD := { name := "_law_is_standing", qual := "_law_is_standing", params := C8.fnArgs (tst 126), body := C8.fnBody (tst 126), scope := C8.fnScope (tst 126), N := ["thing", "many"], ps := ["thing", "many"], lam := false, ys := [
    .ret (.and [.isi "int" (.b "int") (.v 0), .not (.isi "bool" (.b "bool") (.v 0)), .chain .le .lt (.int 0) (.v 0) (.v 1)])] }
def f_Circle_deed : FD := { name := "deed", qual := "Circle.deed", params := C8.fnArgs (mst 101 4), body := C8.fnBody (mst 101 4), scope := C8.fnScope (mst 101 4), N := ["self", "name"], ps := ["self", "name"], lam := false, ys := [
    .ifs (.or [.not (.isi "str" (.b "str") (.v 1)), .cmp .nin (.v 1) (.fld "deed_by_name" (.v 0))]) [
      .never] [],
    .ret (.ix (.fld "deed_by_name" (.v 0)) (.v 1))] }
def f_are_standings : FD := { name := "are_standings", qual := "are_standings", params := C8.fnArgs (tst 104), body := C8.fnBody (tst 104), scope := C8.fnScope (tst 104), N := ["many", "thing", "standing"], ps := ["many", "thing"], lam := false, ys := [
    .ifs (.or [.not (.isi "tuple" (.b "tuple") (.v 1)), .not (.bf .all [.lc [2] (.n 2) .seq [.v 1] [] (.call "is_place_circles" 30 2 [.v 0, .v 2])])]) [
      .ret (.bl false)] [],
    .ret (.call "are_ascending_circles" 33 1 [.v 1])] }
def f_is_row : FD := { name := "is_row", qual := "is_row", params := C8.fnArgs (tst 105), body := C8.fnBody (tst 105), scope := C8.fnScope (tst 105), N := ["many", "deeds", "thing", "standing"], ps := ["many", "deeds", "thing"], lam := false, ys := [
    .ret (.and [.isi "tuple" (.b "tuple") (.v 2), .cmp .eq (.bf .len [.v 2]) (.v 1), .bf .all [.lc [3] (.n 3) .seq [.v 2] [] (.call "is_place_circles" 30 2 [.v 0, .v 3])]])] }
def f_paired_rows : FD := { name := "paired_rows", qual := "paired_rows", params := C8.fnArgs (tst 108), body := C8.fnBody (tst 108), scope := C8.fnScope (tst 108), N := ["one", "other", "far", "many", "rows", "near", "k", "l"], ps := ["one", "other"], lam := false, ys := [
    .asg (.t [.n 3, .n 4]) (.tup [.bf .len [.ix (.v 0) (.int 0)], .lst []]),
    .for_ (.n 2) .seq [.ix (.v 1) (.int 0)] [
      .for_ (.n 5) .seq [.ix (.v 0) (.int 0)] [
        .expr (.bm .append (.v 4) [.bf .tuple [.lc [6, 7] (.t [.n 6, .n 7]) .zip [.v 5, .v 2] [] (.bin .add (.v 6) (.bin .mul (.v 3) (.v 7)))]])]],
    .ret (.bf .tuple [.v 4])] }
def f_paired_standings : FD := { name := "paired_standings", qual := "paired_standings", params := C8.fnArgs (tst 109), body := C8.fnBody (tst 109), scope := C8.fnScope (tst 109), N := ["one", "other", "is_good", "found", "l", "k"], ps := ["one", "other", "is_good"], lam := false, ys := [
    .asg (.n 3) (.lst []),
    .for_ (.n 4) .rng1 [.bf .len [.ix (.v 1) (.int 0)]] [
      .expr (.bm .extend (.v 3) [.lc [5] (.n 5) .rng1 [.bf .len [.ix (.v 0) (.int 0)]] [.callV 2 [.cmp .inn (.v 5) (.ix (.v 0) (.int 1)), .cmp .inn (.v 4) (.ix (.v 1) (.int 1))]] (.bin .add (.v 5) (.bin .mul (.bf .len [.ix (.v 0) (.int 0)]) (.v 4)))])],
    .ret (.bf .tuple [.v 3])] }
def f_are_deeds : FD := { name := "are_deeds", qual := "are_deeds", params := C8.fnArgs (tst 99), body := C8.fnBody (tst 99), scope := C8.fnScope (tst 99), N := ["book", "members", "states", "thing", "deed"], ps := ["book", "members", "states", "thing"], lam := false, ys := [
    .ifs (.or [.not (.isi "tuple" (.b "tuple") (.v 3)), .not (.bf .all [.lc [4] (.n 4) .seq [.v 3] [] (.call "is_deed" 34 4 [.v 0, .v 1, .v 2, .v 4])])]) [
      .ret (.bl false)] [],
    .ret (.call "are_ascending_circles" 33 1 [.lc [4] (.n 4) .seq [.v 3] [] (.ix (.v 4) (.int 0))])] }
def f_are_firsts : FD := { name := "are_firsts", qual := "are_firsts", params := C8.fnArgs (tst 100), body := C8.fnBody (tst 100), scope := C8.fnScope (tst 100), N := ["book", "members", "thing", "lot", "item"], ps := ["book", "members", "thing"], lam := false, ys := [
    .ifs (.or [.not (.isi "tuple" (.b "tuple") (.v 2)), .cmp .ne (.bf .len [.v 2]) (.v 1)]) [
      .ret (.bl false)] [],
    .ret (.bf .all [.lc [3] (.n 3) .seq [.v 2] [] (.and [.isi "tuple" (.b "tuple") (.v 3), .bf .all [.lc [4] (.n 4) .seq [.v 3] [] (.own "Book" "is_thing" 35 2 (.v 0) [.v 4])]])])] }
def f_is_place_circles : FD := { name := "is_place", qual := "is_place", params := C8.fnArgs (tst 91), body := C8.fnBody (tst 91), scope := C8.fnScope (tst 91), N := ["many", "thing"], ps := ["many", "thing"], lam := false, ys := [
    .ret (.and [.isi "int" (.b "int") (.v 1), .not (.isi "bool" (.b "bool") (.v 1)), .chain .le .lt (.int 0) (.v 1) (.v 0)])] }
def f_are_kinds : FD := { name := "are_kinds", qual := "are_kinds", params := C8.fnArgs (tst 56), body := C8.fnBody (tst 56), scope := C8.fnScope (tst 56), N := ["thing", "kind", "many", "item"], ps := ["thing"], lam := false, ys := [
    .ifs (.or [.not (.isi "tuple" (.b "tuple") (.v 0)), .cmp .eq (.v 0) (.tup []), .not (.bf .all [.lc [3] (.n 3) .seq [.v 0] [] (.call "is_kind" 37 1 [.v 3])])]) [
      .ret (.bl false)] [],
    .ret (.call "are_ascending_books" 36 1 [.lc [1, 2] (.t [.n 1, .n 2]) .seq [.v 0] [] (.v 1)])] }
def f_are_openings : FD := { name := "are_openings", qual := "are_openings", params := C8.fnArgs (tst 62), body := C8.fnBody (tst 62), scope := C8.fnScope (tst 62), N := ["counts", "thing", "item"], ps := ["counts", "thing"], lam := false, ys := [
    .ifs (.or [.not (.isi "tuple" (.b "tuple") (.v 1)), .not (.bf .all [.lc [2] (.n 2) .seq [.v 1] [] (.call "is_opening" 38 2 [.v 0, .v 2])])]) [
      .ret (.bl false)] [],
    .ret (.call "are_ascending_books" 36 1 [.lc [2] (.n 2) .seq [.v 1] [] (.ix (.v 2) (.int 0))])] }
def f_are_ascending_circles : FD := { name := "are_ascending", qual := "are_ascending", params := C8.fnArgs (tst 93), body := C8.fnBody (tst 93), scope := C8.fnScope (tst 93), N := ["items", "one", "other"], ps := ["items"], lam := false, ys := [
    .ret (.bf .all [.lc [1, 2] (.t [.n 1, .n 2]) .zip [.v 0, .slL (.v 0) (.int 1)] [] (.cmp .lt (.v 1) (.v 2))])] }
def f_is_deed : FD := { name := "is_deed", qual := "is_deed", params := C8.fnArgs (tst 98), body := C8.fnBody (tst 98), scope := C8.fnScope (tst 98), N := ["book", "members", "states", "thing", "name", "owner", "need", "moves", "move"], ps := ["book", "members", "states", "thing"], lam := false, ys := [
    .ifs (.or [.not (.isi "tuple" (.b "tuple") (.v 3)), .cmp .ne (.bf .len [.v 3]) (.g 2), .not (.call "is_word" 39 1 [.ix (.v 3) (.int 0)])]) [
      .ret (.bl false)] [],
    .asg (.t [.n 4, .n 5, .n 6, .n 7]) (.v 3),
    .ifs (.or [.not (.call "is_place_circles" 30 2 [.v 1, .v 5]), .and [.cmp .nis (.v 6) .non, .not (.own "Book" "is_thing" 35 2 (.v 0) [.v 6])]]) [
      .ret (.bl false)] [],
    .ifs (.or [.not (.isi "tuple" (.b "tuple") (.v 7)), .cmp .ne (.bf .len [.v 7]) (.v 2)]) [
      .ret (.bl false)] [],
    .ret (.bf .all [.lc [8] (.n 8) .seq [.v 7] [] (.call "is_move" 40 4 [.v 0, .v 1, .v 2, .v 8])])] }
def f_Book_is_thing : FD := { name := "is_thing", qual := "Book.is_thing", params := C8.fnArgs (mst 63 4), body := C8.fnBody (mst 63 4), scope := C8.fnScope (mst 63 4), N := ["self", "thing"], ps := ["self", "thing"], lam := false, ys := [
    .ret (.call "is_thing_by" 41 2 [.fld "counts" (.v 0), .v 1])] }
def f_are_ascending_books : FD := { name := "are_ascending", qual := "are_ascending", params := C8.fnArgs (tst 53), body := C8.fnBody (tst 53), scope := C8.fnScope (tst 53), N := ["words", "one", "other"], ps := ["words"], lam := false, ys := [
    .ret (.bf .all [.lc [1, 2] (.t [.n 1, .n 2]) .zip [.v 0, .slL (.v 0) (.int 1)] [] (.cmp .lt (.v 1) (.v 2))])] }
def f_is_kind : FD := { name := "is_kind", qual := "is_kind", params := C8.fnArgs (tst 55), body := C8.fnBody (tst 55), scope := C8.fnScope (tst 55), N := ["thing"], ps := ["thing"], lam := false, ys := [
    .ifs (.or [.not (.isi "tuple" (.b "tuple") (.v 0)), .cmp .ne (.bf .len [.v 0]) (.g 3), .not (.call "is_word" 39 1 [.ix (.v 0) (.int 0)])]) [
      .ret (.bl false)] [],
    .ret (.and [.call "is_integer" 42 1 [.ix (.v 0) (.int 1)], .chain .le .le (.int 1) (.ix (.v 0) (.int 1)) (.g 4)])] }
def f_is_opening : FD := { name := "is_opening", qual := "is_opening", params := C8.fnArgs (tst 61), body := C8.fnBody (tst 61), scope := C8.fnScope (tst 61), N := ["counts", "thing", "many", "opening", "kind", "given", "needs", "need"], ps := ["counts", "thing"], lam := false, ys := [
    .ifs (.or [.not (.isi "tuple" (.b "tuple") (.v 1)), .cmp .ne (.bf .len [.v 1]) (.g 5)]) [
      .ret (.bl false)] [],
    .asg (.t [.n 3, .n 4, .n 5, .n 6]) (.v 1),
    .ifs (.or [.not (.call "is_word" 39 1 [.v 3]), .cmp .inn (.v 3) (.v 0), .not (.call "is_word" 39 1 [.v 4]), .cmp .nin (.v 4) (.v 0)]) [
      .ret (.bl false)] [],
    .asg (.n 2) (.ix (.v 0) (.v 4)),
    .ifs (.or [.not (.call "is_place_books" 43 2 [.v 2, .v 5]), .not (.isi "tuple" (.b "tuple") (.v 6)), .cmp .gt (.bf .len [.v 6]) (.g 6)]) [
      .ret (.bl false)] [],
    .ret (.bf .all [.lc [7] (.n 7) .seq [.v 6] [] (.call "is_need" 44 3 [.v 0, .v 2, .v 7])])] }
def f_is_word : FD := { name := "is_word", qual := "is_word", params := C8.fnArgs (tst 16), body := C8.fnBody (tst 16), scope := C8.fnScope (tst 16), N := ["thing", "sign"], ps := ["thing"], lam := false, ys := [
    .ret (.and [.call "is_short" 45 1 [.v 0], .bf .all [.lc [1] (.n 1) .seq [.v 0] [] (.cmp .inn (.v 1) (.g 7))]])] }
def f_is_move : FD := { name := "is_move", qual := "is_move", params := C8.fnArgs (tst 97), body := C8.fnBody (tst 97), scope := C8.fnScope (tst 97), N := ["book", "members", "states", "thing"], ps := ["book", "members", "states", "thing"], lam := false, ys := [
    .ifs (.cmp .is (.v 3) .non) [
      .ret (.bl true)] [],
    .ifs (.or [.not (.isi "tuple" (.b "tuple") (.v 3)), .cmp .ne (.bf .len [.v 3]) (.g 8)]) [
      .ret (.bl false)] [],
    .ret (.and [.call "is_place_circles" 30 2 [.v 2, .ix (.v 3) (.int 0)], .call "is_show" 46 3 [.v 0, .v 1, .ix (.v 3) (.int 1)]])] }
def f_is_thing_by : FD := { name := "is_thing_by", qual := "is_thing_by", params := C8.fnArgs (tst 18), body := C8.fnBody (tst 18), scope := C8.fnScope (tst 18), N := ["counts", "thing", "part"], ps := ["counts", "thing"], lam := false, ys := [
    .ifs (.not (.isi "tuple" (.b "tuple") (.v 1))) [
      .ret (.or [.call "is_word" 39 1 [.v 1], .call "is_name" 47 1 [.v 1]])] [],
    .ifs (.or [.cmp .eq (.v 1) (.tup []), .not (.call "is_word" 39 1 [.ix (.v 1) (.int 0)]), .cmp .ne (.bm .get (.v 0) [.ix (.v 1) (.int 0)]) (.bin .sub (.bf .len [.v 1]) (.int 1))]) [
      .ret (.bl false)] [],
    .ret (.bf .all [.lc [2] (.n 2) .seq [.slL (.v 1) (.int 1)] [] (.call "is_thing_by" 41 2 [.v 0, .v 2])])] }
def f_is_integer : FD := { name := "is_integer", qual := "is_integer", params := C8.fnArgs (tst 52), body := C8.fnBody (tst 52), scope := C8.fnScope (tst 52), N := ["thing"], ps := ["thing"], lam := false, ys := [
    .ret (.and [.isi "int" (.b "int") (.v 0), .not (.isi "bool" (.b "bool") (.v 0))])] }
def f_is_place_books : FD := { name := "is_place", qual := "is_place", params := C8.fnArgs (tst 57), body := C8.fnBody (tst 57), scope := C8.fnScope (tst 57), N := ["many", "thing"], ps := ["many", "thing"], lam := false, ys := [
    .ret (.and [.call "is_integer" 42 1 [.v 1], .chain .le .lt (.int 0) (.v 1) (.v 0)])] }
def f_is_need : FD := { name := "is_need", qual := "is_need", params := C8.fnArgs (tst 60), body := C8.fnBody (tst 60), scope := C8.fnScope (tst 60), N := ["counts", "many", "thing"], ps := ["counts", "many", "thing"], lam := false, ys := [
    .ifs (.or [.not (.isi "tuple" (.b "tuple") (.v 2)), .cmp .eq (.v 2) (.tup []), .not (.isi "str" (.b "str") (.ix (.v 2) (.int 0)))]) [
      .ret (.bl false)] [],
    .ifs (.cmp .ne (.kget "NEED_SIZES" (.ix (.v 2) (.int 0))) (.bf .len [.v 2])) [
      .ret (.bl false)] [],
    .ifs (.cmp .eq (.ix (.v 2) (.int 0)) (.g 9)) [
      .ret (.call "is_place_books" 43 2 [.v 1, .ix (.v 2) (.int 1)])] [],
    .ifs (.cmp .eq (.ix (.v 2) (.int 0)) (.g 10)) [
      .ret (.and [.call "is_single" 48 2 [.v 0, .ix (.v 2) (.int 1)], .call "is_place_books" 43 2 [.v 1, .ix (.v 2) (.int 2)]])] [],
    .ret (.and [.call "is_place_books" 43 2 [.v 1, .ix (.v 2) (.int 1)], .call "is_single" 48 2 [.v 0, .ix (.v 2) (.int 2)]])] }
def f_is_short : FD := { name := "is_short", qual := "is_short", params := C8.fnArgs (tst 15), body := C8.fnBody (tst 15), scope := C8.fnScope (tst 15), N := ["thing"], ps := ["thing"], lam := false, ys := [
    .ret (.and [.isi "str" (.b "str") (.v 0), .chain .le .le (.int 1) (.bf .len [.v 0]) (.g 11)])] }
def f_is_show : FD := { name := "is_show", qual := "is_show", params := C8.fnArgs (tst 96), body := C8.fnBody (tst 96), scope := C8.fnScope (tst 96), N := ["book", "members", "thing"], ps := ["book", "members", "thing"], lam := false, ys := [
    .ifs (.cmp .is (.v 2) .non) [
      .ret (.bl true)] [],
    .ifs (.or [.not (.isi "tuple" (.b "tuple") (.v 2)), .cmp .ne (.bf .len [.v 2]) (.g 8)]) [
      .ret (.bl false)] [],
    .ret (.and [.own "Book" "is_thing" 35 2 (.v 0) [.ix (.v 2) (.int 0)], .call "are_members" 49 2 [.v 1, .ix (.v 2) (.int 1)]])] }
def f_is_name : FD := { name := "is_name", qual := "is_name", params := C8.fnArgs (tst 17), body := C8.fnBody (tst 17), scope := C8.fnScope (tst 17), N := ["thing", "sign"], ps := ["thing"], lam := false, ys := [
    .ret (.and [.call "is_short" 45 1 [.v 0], .cmp .inn (.ix (.v 0) (.int 0)) (.g 12), .bf .all [.lc [1] (.n 1) .seq [.slL (.v 0) (.int 1)] [] (.cmp .inn (.v 1) (.bin .add (.g 7) (.g 13)))]])] }
def f_is_single : FD := { name := "is_single", qual := "is_single", params := C8.fnArgs (tst 59), body := C8.fnBody (tst 59), scope := C8.fnScope (tst 59), N := ["counts", "thing"], ps := ["counts", "thing"], lam := false, ys := [
    .ret (.and [.call "is_word" 39 1 [.v 1], .cmp .eq (.bm .get (.v 0) [.v 1]) (.int 1)])] }
def f_are_members : FD := { name := "are_members", qual := "are_members", params := C8.fnArgs (tst 95), body := C8.fnBody (tst 95), scope := C8.fnScope (tst 95), N := ["many", "thing", "member"], ps := ["many", "thing"], lam := false, ys := [
    .ifs (.or [.not (.isi "tuple" (.b "tuple") (.v 1)), .cmp .eq (.v 1) (.tup []), .not (.bf .all [.lc [2] (.n 2) .seq [.v 1] [] (.call "is_place_circles" 30 2 [.v 0, .v 2])])]) [
      .ret (.bl false)] [],
    .ret (.call "are_ascending_circles" 33 1 [.v 1])] }
def lamD0 : LD := { L := lamL0, N := ["near", "far"], ps := ["near", "far"], x := .and [.v 0, .v 1] }
def lc (x : Str) (m : Option Str) : Loc1 := (x, m)
def pt : PT := {
  T := tabs
  ds := [(f_law, (lc "law" none)), (f_law_deck, (lc "_law_deck" none)), (f_law_circle, (lc "_law_circle" none)), (f_law_near_watchers, (lc "_law_near_watchers" none)), (f_law_watcher, (lc "_law_watcher" none)), (f_law_draw, (lc "_law_draw" none)), (f_law_code, (lc "_law_code" none)), (f_law_pick, (lc "_law_pick" none)), (f_law_is_watcher, (lc "_law_is_watcher" none)), (f_law_made, (lc "_law_made" none)), (f_law_names, (lc "_law_names" none)), (f_done, (lc "done" none)), (f_law_same, (lc "_law_same" none)), (f_is_watcher, (lc "is_watcher" none)), (f_law_recipe, (lc "_law_recipe" none)), (f_opposite, (lc "opposite" none)), (f_both, (lc "both" none)), (f_law_books, (lc "_law_books" none)), (f_law_words, (lc "_law_words" none)), (f_law_thing, (lc "_law_thing" none)), (f_Circle___init__, (lc "Circle" (some "__init__"))), (f_Book___init__, (lc "Book" (some "__init__"))), (f_law_is_standing, (lc "_law_is_standing" none)), (f_Circle_deed, (lc "Circle" (some "deed"))), (f_are_standings, (lc "are_standings" none)), (f_is_row, (lc "is_row" none)), (f_paired_rows, (lc "paired_rows" none)), (f_paired_standings, (lc "paired_standings" none)), (f_are_deeds, (lc "are_deeds" none)), (f_are_firsts, (lc "are_firsts" none)), (f_is_place_circles, (lc "is_place_circles" none)), (f_are_kinds, (lc "are_kinds" none)), (f_are_openings, (lc "are_openings" none)), (f_are_ascending_circles, (lc "are_ascending_circles" none)), (f_is_deed, (lc "is_deed" none)), (f_Book_is_thing, (lc "Book" (some "is_thing"))), (f_are_ascending_books, (lc "are_ascending_books" none)), (f_is_kind, (lc "is_kind" none)), (f_is_opening, (lc "is_opening" none)), (f_is_word, (lc "is_word" none)), (f_is_move, (lc "is_move" none)), (f_is_thing_by, (lc "is_thing_by" none)), (f_is_integer, (lc "is_integer" none)), (f_is_place_books, (lc "is_place_books" none)), (f_is_need, (lc "is_need" none)), (f_is_short, (lc "is_short" none)), (f_is_show, (lc "is_show" none)), (f_is_name, (lc "is_name" none)), (f_is_single, (lc "is_single" none)), (f_are_members, (lc "are_members" none))]
  ls := [lamD0]
  tf := [((lc "both" none), "both")] }
end DL
end
section
set_option Elab.async false
set_option linter.all false
set_option maxRecDepth 100000
set_option maxHeartbeats 0
namespace DL
open PySem PySem.Spec PyProof.Rows L2 He
theorem dok : pt.ds.all (fun d => d.1.ok pt.T) = true := by kernel_rfl
theorem lok : pt.ls.all (fun d => d.ok pt.T) = true := by kernel_rfl
theorem lamsb : lamsB pt = true := by kernel_rfl
abbrev qv : Program := PySem.W.view R.prog [129]
def names : List PySem.Str := (R.prog.main.scope.names.filter fun p => decide (p.2 = .local) && !(p.1 == ("law" : PySem.Str))).map (·.1)
abbrev hk : PySem.W.Hook := hookY pt.xs [] pt.fn pt.ts pt.tabs (gfB pt)
def ob (s : PySem.W.SharedT) : AlX := obsY pt.xs [] pt.fn pt.ts pt.tabs (gfB pt) (HandSHeadRun.getT s)
theorem ob_eq (s : PySem.W.SharedT) : ob s = hk.obs s.abs := obsY_eq (HandSHeadRun.getT_eq s)
end DL
end
section
set_option Elab.async false
set_option linter.all false
set_option maxRecDepth 100000
set_option maxHeartbeats 0
namespace DL
open PySem PySem.Spec PyProof.Rows L2 He
theorem runF (w : World) : HandSHeadRun.RunEq R qv hk ob 8000 names (w.withFollow "special-get-raises" false) := by
  intro os
  kernel_rfl
theorem runT (w : World) : HandSHeadRun.RunEq R qv hk ob 8000 names (w.withFollow "special-get-raises" true) := by
  intro os
  kernel_rfl
theorem run (w : World) : HandSHeadRun.RunEq R qv hk ob 8000 names w := PySem.W.byRow2 "special-get-raises" runF runT w
end DL
end
section
set_option Elab.async false
set_option linter.all false
set_option maxRecDepth 100000
set_option maxHeartbeats 0
namespace DL
open PySem PySem.Spec PyProof.Rows L2 He
abbrev RWL : PySem.W.OpenLaw := PySem.Challenge.rw_circlewatch_k00_watchers_of_any_value
theorem lam_at : ∀ L f n, (L, f, n) ∈ pt.T.lams → ∃ i d, pt.ls[i]? = some d ∧ d.L = L ∧ f = pt.ds.length + i ∧ n = d.ps.length := fun L f n h => by
  have h1 : (L, f, n) = (lamL0, 50, 2) := List.mem_singleton.mp h
  injection h1 with h2 h3
  injection h3 with h4 h5
  subst h2 h4 h5
  exact ⟨0, lamD0, rfl, rfl, rfl, rfl⟩
end DL
open PySem PySem.W PySem.Calls PyProof.Rows DL
theorem k00_of {C : Nat → Nat → DSp} {lev : Nat} (L : Lev pt C) (hr : L2.Room (2 * lev) callerA)
    (hlaw : ∀ (ns : List Int) (G : DH) (s : DV), ns.length ≤ 63 → (∀ z ∈ ns, Builtin.Int.intBits z ≤ 1048576) → (s = .lk (ns.map DV.int) ∨ ∃ a, s = .ref a ∧ G a = some (.lst (ns.map DV.int))) → C lev 0 [s] G (fun v _ => v = .bl true) (fun _ _ _ => False)) :
    RWL.Holds := by
  w_on; o_law
  refine HandSHeadRun.head_any (r := R) (q := qv) (H := hk) (ob := ob) (M := 8000) (loose := names) (d := HandSHeadRun.topDef R.prog 129) (kwd := []) ob_eq
    (by kernel_rfl) (fun s => by kernel_rfl) run (by kernel_rfl) (by kernel_rfl) (by kernel_rfl) (by rfl) (by first | assumption | decide +kernel) (by decide +kernel) ⟨rfl, rfl, rfl, rfl, rfl, by decide +kernel⟩ ?hw ?hc
  case hw => w_witness2
  case hc =>
    refine LamX.walk_ofTsE (l := RWL) (n := 63) (k := 2 * lev) (x := "script") (CX := fun w => L2.CX RWL.prog w) rfl (by decide) (by kernel_rfl) hr ?F (fun w H s e s' z => ?c)
    case F =>
      intro w mg fa h Y G hmg0
      obtain ⟨K, KX, c⟩ := Y
      have hmg : mg ("law" : PySem.Str) = some (.ref fa) := by
        have e : (HandSHeadRun.topDef R.prog 129).name = ("law" : PySem.Str) := by kernel_rfl
        rw [← e]
        exact hmg0
      have O : PGOk pt w K := pg_of c dok lok lamsb lam_at
      refine ⟨K, KX, law_at (l := RWL) (fid := 0) (d := (f_law, lc "law" none)) c O L KX G rfl rfl ?_ hlaw⟩
      have hg : (He.Fa.glo (Str.ofString "law")).ok K = true := by
        have h1 := O.gf
        unfold gfB at h1
        have h2 := (and2 (and2 (and2 h1).2).2).1
        exact (and2 (List.all_eq_true.mp h2 ("law", 0, 1) (by decide +kernel))).1
      have e := He.glo_ok KX G hg
      rw [show (Str.ofString "law") = ("law" : PySem.Str) from rfl] at e
      rw [hmg] at e
      cases e
      rfl
    case c =>
      obtain ⟨a, B, H', cls, d, _, _, _, _, _, _, _, z⟩ := z
      exact z
end
section
set_option Elab.async false
set_option linter.all false
set_option maxRecDepth 100000
set_option autoImplicit false
namespace DL
open PySem PySem.Spec PyProof.Rows L2
/-! ### heaps that grow; a deck whose draws change it -/
abbrev Dk := Option (Addr × Addr)
def inD : Dk → Addr → Prop
  | none, _ => False
  | some p, a => a = p.1 ∨ a = p.2
abbrev kS (s : String) : Key := .inr (Str.ofString s)
def deckO (l : Addr) (m k : Int) : DO := .dK [(kS "left", .ref l), (kS "mixed", .int m), (kS "draws", .int k)]
def okD : Dk → DH → Prop
  | none, _ => True
  | some p, G => p.1 ≠ p.2 ∧ ∃ (zs : List Int) (m k : Int), zs.length ≤ 63 ∧ G p.1 = some (deckO p.2 m k) ∧ G p.2 = some (.lst (zs.map .int))
structure Ext (D : Dk) (G G' : DH) : Prop where
  k : ∀ a o, ¬ inD D a → G a = some o → G' a = some o
  d : okD D G → okD D G'
def Kn (D : Dk) (G : DH) (a : Addr) (o : DO) : Prop := ¬ inD D a ∧ G a = some o
section
variable {D : Dk} {G G1 G2 : DH} {a b p : Addr} {o o' : DO}
theorem Ext.refl (D : Dk) (G : DH) : Ext D G G := ⟨fun _ _ _ h => h, id⟩
theorem Ext.trans (e : Ext D G G1) (f : Ext D G1 G2) : Ext D G G2 := ⟨fun a o n h => f.k a o n (e.k a o n h), fun h => f.d (e.d h)⟩
theorem Kn.mono (h : Kn D G a o) (e : Ext D G G1) : Kn D G1 a o := ⟨h.1, e.k a o h.1 h.2⟩
theorem Kn.uniq (h : Kn D G a o) (h2 : Kn D G a o') : o = o' := by have := h.2.symm.trans h2.2; cases this; rfl
theorem okD.notIn (ok : okD D G) (h : G p = none) : ¬ inD D p := by
  cases D with
  | none => exact id
  | some q =>
    obtain ⟨_, zs, m, k, _, h1, h2⟩ := ok
    rintro (e | e)
    · subst e; rw [h1] at h; cases h
    · subst e; rw [h2] at h; cases h
theorem okD.upd (ok : okD D G) (n : ¬ inD D p) : okD D (updD G p o) := by
  cases D with
  | none => trivial
  | some q =>
    obtain ⟨h0, zs, m, k, hl, h1, h2⟩ := ok
    exact ⟨h0, zs, m, k, hl, by rw [updD_ne (fun e => n (.inl e.symm))]; exact h1, by rw [updD_ne (fun e => n (.inr e.symm))]; exact h2⟩
theorem Ext.new (ok : okD D G) (h : G p = none) : Ext D G (updD G p o) :=
  ⟨fun a ob n q => by rw [updD_ne (fun e => by rw [e, h] at q; cases q)]; exact q, fun h1 => h1.upd (ok.notIn h)⟩
theorem Kn.new (ok : okD D G) (h : G p = none) : Kn D (updD G p o) p o := ⟨ok.notIn h, updD_same⟩
theorem Ext.fresh (e : Ext D G G1) (ok : okD D G1) (h : G1 p = none) : G p = none := by
  cases q : G p with
  | none => rfl
  | some o => rw [e.k p o (ok.notIn h) q] at h; cases h
theorem Ext.wr (e : Ext D G G1) (ok : okD D G) (h : G p = none) : Ext D G (updD G1 p o) :=
  ⟨fun a ob n q => by rw [updD_ne (fun e => by rw [e, h] at q; cases q)]; exact e.k a ob n q, fun h1 => (e.d h1).upd (ok.notIn h)⟩
theorem Kn.wr (h : Kn D G p o) : Kn D (updD G p o') p o' := ⟨h.1, updD_same⟩
theorem Kn.wrN (h : Kn D G a o) (n : a ≠ p) : Kn D (updD G p o') a o := ⟨h.1, by rw [updD_ne n]; exact h.2⟩
theorem Kn.ne (h : Kn D G a o) (hb : G b = none) : a ≠ b := fun e => by rw [e, Kn] at h; rw [h.2] at hb; cases hb
theorem okD.wr (ok : okD D G) (h : Kn D G p o) : okD D (updD G p o') := ok.upd h.1
end
/-! ### specs -/
def SP {α : Type} (pre : Dk → α → DH → List DV → Prop) (post : Dk → α → DH → DV → Prop) : DSp := fun ds G P _ => ∃ D x, okD D G ∧ pre D x G ds ∧ ∀ v G2, Ext D G G2 → okD D G2 → post D x G2 v → P v G2
abbrev Has (C : Nat → DSp) (f : Nat) (S : DSp) : Prop := ∀ ds G P EX, S ds G P EX → C f ds G P EX
section
variable {α : Type} {pre : Dk → α → DH → List DV → Prop} {post : Dk → α → DH → DV → Prop} {C : Nat → DSp} {f : Nat} {D : Dk} {G : DH} {ds : List DV} {P : DK} {EX : DXK} {T : GT} {d : FD}
theorem SP.use (h : Has C f (SP pre post)) (x : α) (ok : okD D G) (hp : pre D x G ds) (k : ∀ v G2, Ext D G G2 → okD D G2 → post D x G2 v → P v G2) : C f ds G P EX := h _ _ _ _ ⟨D, x, ok, hp, k⟩
theorem SP.serves (h : ∀ D x ds G EX (P : DK), okD D G → pre D x G ds → (∀ v G2, Ext D G G2 → okD D G2 → post D x G2 v → P v G2) → denSs T C EX d.ys { nx := fun _ G' => P .non G', rt := P } (startD d.N.length ds) G) : Serves T C d (SP pre post) :=
  fun ds G P EX hl ⟨D, x, ok, hp, k⟩ => h D x ds G EX P ok hp k
end
/-- a new object -/
def NewO (o : DO) (G : DH) (P : DK) : Prop := ∀ p, G p = none → P (.ref p) (updD G p o)
theorem NewO.run {D : Dk} {G : DH} {P : DK} {o : DO} (ok : okD D G) (k : ∀ p G2, Ext D G G2 → okD D G2 → Kn D G2 p o → G p = none → P (.ref p) G2) : NewO o G P :=
  fun p hp => k p _ (Ext.new ok hp) (ok.upd (ok.notIn hp)) (Kn.new ok hp) hp
/-- a new instance -/
def MkO (C : Nat → DSp) (f n : Nat) (c : String) (E : DXK) (ds : List DV) (G : DH) (P : DK) : Prop := ∀ a, G a = none → (.ref a :: ds : List DV).length = n ∧ C f (.ref a :: ds) (updD G a (.ins c [])) (fun v G2 => v = .non ∧ P (.ref a) G2) E
/-! ### one step of what is computed -/
section
variable {T : GT} {C : Nat → DSp} {E : DXK} {τ : DSt} {G : DH} {P : DK} {PT' : Bool → DH → Prop} {PA : List DV → DH → Prop} {Dn : DEnds} {ta tb tc te : DTE} {tt tu : DTT} {tr : DTA} {r r' : DR2} {v x y z : DV} {xs ys : List DV}
theorem e_nil : denSs T C E [] Dn τ G = Dn.nx τ G := by simp only [denSs, dNext]
theorem e_cons {s : DY} {ss : List DY} : denSs T C E (s :: ss) Dn τ G = denS T C E s { Dn with nx := denSs T C E ss Dn } τ G := by simp only [denSs, dSeq]
theorem s_asg {tg : Tg} {e : DX} : denS T C E (.asg tg e) Dn τ G = den T C E e τ G fun d G1 => ∃ τ2, asgD tg d τ = some τ2 ∧ Dn.nx τ2 G1 := by simp only [denS, dAsg]
theorem s_par2 {i j : Nat} {a b : DX} : denS T C E (.par2 i j a b) Dn τ G = den T C E a τ G fun x G1 => den T C E b τ G1 fun y G2 => Dn.nx ((τ.set i (some x)).set j (some y)) G2 := by
  simp only [denS, dPar, denA, dCons, dNil, List.cons.injEq, and_true]
  congr; funext x G1; congr; funext y G2
  exact propext ⟨fun ⟨_, _, ⟨e1, e2⟩, h⟩ => by subst e1 e2; exact h, fun h => ⟨_, _, ⟨rfl, rfl⟩, h⟩⟩
theorem s_expr {e : DX} : denS T C E (.expr e) Dn τ G = den T C E e τ G fun _ G1 => Dn.nx τ G1 := by simp only [denS, dDrop]
theorem s_ret {e : DX} : denS T C E (.ret e) Dn τ G = den T C E e τ G Dn.rt := by simp only [denS, dRet]
theorem s_ifs {c : DX} {a b : List DY} : denS T C E (.ifs c a b) Dn τ G = denT T C E c τ G fun k G1 => if k = true then denSs T C E a Dn τ G1 else denSs T C E b Dn τ G1 := by simp only [denS, dIf]
theorem s_never : denS T C E .never Dn τ G = False := by simp only [denS, dNever]
theorem s_set {o i e : DX} : denS T C E (.set o i e) Dn τ G = den T C E e τ G fun v G1 => den T C E o τ G1 fun w G2 => den T C E i τ G2 fun j G3 => dSet w j v G3 fun G4 => Dn.nx τ G4 := by simp only [denS, dSetS]
theorem s_fset {o e : DX} {f : String} : denS T C E (.fset o f e) Dn τ G = den T C E e τ G fun v G1 => den T C E o τ G1 fun x G2 => ∃ a c fs, x = .ref a ∧ G2 a = some (.ins c fs) ∧ c ∈ T.clsOf f ∧ fs.length < 1000 ∧ Dn.nx τ (updD G2 a (.ins c (putFD f v fs))) := by simp only [denS, dFldS]
def ForK (xs : List DV) (live : DH → Prop) (tg : Tg) (tb : DTS) : DTS := fun E τ G => ∃ Pv : Nat → DSt → DH → Prop, Pv 0 τ G ∧ ∀ i τ G, i ≤ xs.length → Pv i τ G → live G ∧
  match xs[i]? with
  | some x => ∃ τ2, asgD tg x τ = some τ2 ∧ tb { E with nx := Pv (i + 1), ct := Pv (i + 1), bk := E.nx } τ2 G
  | none => E.nx τ G
theorem s_for {tg : Tg} {ik : IK} {it : List DX} {body : List DY} : denS T C E (.for_ tg ik it body) Dn τ G = dIter ik (denL T C E it) (denA T C E it) τ G fun xs live G1 => ForK xs live tg (denSs T C E body) Dn τ G1 := by simp only [denS]; rfl
theorem s_tset {o i : DX} {n : Nat} {a b : DX} : denS T C E (.tset o i n a b) Dn τ G = den T C E a τ G fun x G1 => den T C E b τ G1 fun y G2 => den T C E o τ G2 fun w G3 => den T C E i τ G3 fun j G4 => dSet w j x G4 fun G5 => Dn.nx (τ.set n (some y)) G5 := by
  simp only [denS, dTset, denA, dCons, dNil, List.cons.injEq, and_true]
  congr; funext x G1; congr; funext y G2
  exact propext ⟨fun ⟨_, _, ⟨e1, e2⟩, h⟩ => by subst e1 e2; exact h, fun h => ⟨_, _, ⟨rfl, rfl⟩, h⟩⟩
/-! expressions -/
theorem d_v {i : Nat} : den T C E (.v i) τ G P = ∃ d, τ[i]? = some (some d) ∧ P d G := by simp only [den, dVar]
theorem d_int {i : Int} : den T C E (.int i) τ G P = P (.int i) G := by simp only [den, dC]
theorem d_bl {i : Bool} : den T C E (.bl i) τ G P = P (.bl i) G := by simp only [den, dC]
theorem d_non : den T C E .non τ G P = P .non G := by simp only [den, dC]
theorem d_str {i : String} : den T C E (.str i) τ G P = P (.str (Str.ofString i)) G := by simp only [den, dC]
theorem d_bin {o : BO} {a b : DX} : den T C E (.bin o a b) τ G P = den T C E a τ G fun x G1 => den T C E b τ G1 fun y G2 => boR o x y G2 P := by simp only [den, dOp]
theorem d_neg {a : DX} : den T C E (.neg a) τ G P = den T C E a τ G fun x G1 => dNeg x G1 P := by simp only [den, dOp1]
theorem d_cmp {o : CO} {a b : DX} : den T C E (.cmp o a b) τ G P = den T C E a τ G fun x G1 => den T C E b τ G1 fun y G2 => coR o x y G2 P := by simp only [den, dOp]
theorem d_chain {o o' : CO} {a b c : DX} : den T C E (.chain o o' a b c) τ G P = den T C E a τ G fun x G1 => den T C E b τ G1 fun y G2 => coR o x y G2 fun z G3 => ∃ k, z = .bl k ∧ if k = true then den T C E c τ G3 fun w G4 => coR o' y w G4 P else P (.bl false) G3 := by simp only [den, dChain]
theorem d_not {a : DX} : den T C E (.not a) τ G P = den T C E a τ G fun x G1 => ∃ c, x = .bl c ∧ P (.bl (!c)) G1 := by simp only [den, dNotV]
theorem d_and1 {a : DX} : den T C E (.and [a]) τ G P = den T C E a τ G P := by simp only [den, denAnd]
theorem d_and {a b : DX} {l : List DX} : den T C E (.and (a :: b :: l)) τ G P = den T C E a τ G fun x G1 => ∃ c, x = .bl c ∧ if c = true then den T C E (.and (b :: l)) τ G1 P else P (.bl false) G1 := by
  cases l <;> simp only [den, denAnd, dAndV]
theorem d_or1 {a : DX} : den T C E (.or [a]) τ G P = den T C E a τ G P := by simp only [den, denOr]
theorem d_or {a b : DX} {l : List DX} : den T C E (.or (a :: b :: l)) τ G P = den T C E a τ G fun x G1 => ∃ c, x = .bl c ∧ if c = true then P (.bl true) G1 else den T C E (.or (b :: l)) τ G1 P := by
  cases l <;> simp only [den, denOr, dOrV]
theorem d_ite {c a b : DX} : den T C E (.ite c a b) τ G P = denT T C E c τ G fun k G1 => if k = true then den T C E a τ G1 P else den T C E b τ G1 P := by simp only [den, dIte]
theorem d_ix {a b : DX} : den T C E (.ix a b) τ G P = den T C E a τ G fun x G1 => den T C E b τ G1 fun y G2 => dIx x y G2 P := by simp only [den, dOp]
theorem d_slL {a b : DX} : den T C E (.slL a b) τ G P = den T C E a τ G fun x G1 => den T C E b τ G1 fun y G2 => ∃ i, y = .int i ∧ dSlR x (some i) none G2 P := by simp only [den, dSl, dPart, dNoPart]
theorem d_slH {a b : DX} : den T C E (.slH a b) τ G P = den T C E a τ G fun x G1 => den T C E b τ G1 fun y G2 => ∃ i, y = .int i ∧ dSlR x none (some i) G2 P := by simp only [den, dSl, dPart, dNoPart]
theorem d_rev {a : DX} : den T C E (.rev a) τ G P = den T C E a τ G fun x G1 => (match x with
  | .tup xs => P (.tup xs.reverse) G1
  | x => ∃ xs, (∀ ys, x ≠ .tup ys) ∧ seqD G1 x = some xs ∧ NewO (.lst xs.reverse) G1 P) := by simp only [den]; rfl
theorem a_nil {K : List DV → DH → Prop} : denA T C E [] τ G K = K [] G := by simp only [denA, dNil]
theorem a_cons {K : List DV → DH → Prop} {a : DX} {l : List DX} : denA T C E (a :: l) τ G K = den T C E a τ G fun x G1 => denA T C E l τ G1 fun xs G2 => K (x :: xs) G2 := by simp only [denA, dCons]
theorem d_tup {l : List DX} : den T C E (.tup l) τ G P = denA T C E l τ G fun xs G1 => xs.length ≤ sizeLine ∧ P (.tup xs) G1 := by simp only [den, dTup]
theorem d_xtup {l : List DX} : den T C E (.xtup l) τ G P = denA T C E l τ G fun xs G1 => xs.length ≤ sizeLine ∧ P (.xt xs) G1 := by simp only [den, dXTup]
theorem d_lst {l : List DX} : den T C E (.lst l) τ G P = denA T C E l τ G fun xs G1 => xs.length ≤ sizeLine ∧ NewO (.lst xs) G1 P := by simp only [den, dLst, NewO]
theorem d_fg {a : DX} : den T C E (.fg a) τ G P = den T C E a τ G fun x G1 => P (fgD x) G1 := by simp only [den, dFg]
theorem d_call {s : String} {f n : Nat} {l : List DX} : den T C E (.call s f n l) τ G P = denA T C E l τ G fun ds G1 => ds.length = n ∧ C f ds G1 P E := by simp only [den, dCall]
theorem d_callK {s : String} {f n m : Nat} {pm : List Nat} {ps ks : List String} {l kl : List DX} : den T C E (.callK s f n m pm ps ks l kl) τ G P = denA T C E l τ G fun ds G1 => denA T C E kl τ G1 fun zs G2 => ds.length = m ∧ zs.length = ks.length ∧ (pmV pm ds zs).length = n ∧ C f (pmV pm ds zs) G2 P E := by simp only [den, dCallKN]
theorem d_bf {b : BF} {l : List DX} : den T C E (.bf b l) τ G P = denA T C E l τ G fun xs G1 => bfD b xs G1 P := by simp only [den, dCB]
theorem d_bm {b : BM} {o : DX} {l : List DX} : den T C E (.bm b o l) τ G P = den T C E o τ G fun x G1 => tyD G1 x = some (bmT b) ∧ denA T C E l τ G1 fun xs G2 => bmD b x xs G2 P := by simp only [den, dBM]
theorem d_own {c m : String} {f n : Nat} {o : DX} {l : List DX} : den T C E (.own c m f n o l) τ G P = den T C E o τ G fun x G1 => ∃ a fs, x = .ref a ∧ G1 a = some (.ins c fs) ∧ fs.lookup m = none ∧ denA T C E l τ G1 fun ds G2 => (x :: ds).length = n ∧ C f (x :: ds) G2 P E := by simp only [den, dOwn]
theorem d_mk {s c : String} {f n : Nat} {l : List DX} : den T C E (.mk s c f n l) τ G P = denA T C E l τ G fun ds G1 => MkO C f n c E ds G1 P := by simp only [den, dMk, MkO]
theorem d_isi {s : String} {c : TN} {a : DX} : den T C E (.isi s c a) τ G P = den T C E a τ G fun x G1 => ∃ t, tyN G1 x = some t ∧ t ∈ T.tys ∧ P (.bl (isa T.sub t c)) G1 := by simp only [den, dIsi]
theorem d_fld {f : String} {a : DX} : den T C E (.fld f a) τ G P = den T C E a τ G fun x G1 => ∃ a c fs d, x = .ref a ∧ G1 a = some (.ins c fs) ∧ c ∈ T.clsOf f ∧ fs.lookup f = some d ∧ P d G1 := by simp only [den, dFld]
theorem d_lam {i : Nat} : den T C E (.lam i) τ G P = (match T.lams[i]? with
    | some p => P (.fv p.1) G
    | none => False) := by
  simp only [den]
  cases T.lams[i]? <;> rfl
theorem d_callV {i : Nat} {l : List DX} : den T C E (.callV i l) τ G P = ∃ L f n, τ[i]? = some (some (.fv L)) ∧ (L, f, n) ∈ T.lams ∧ denA T C E l τ G fun ds G1 => ds.length = n ∧ C f ds G1 P E := by simp only [den, dCallF]
theorem d_kget {s : String} {e : DX} : den T C E (.kget s e) τ G P = den T C E e τ G fun y G1 => ∃ z l, y = .str z ∧ T.kds.lookup s = some l ∧ P ((kdAt l z).getD .non) G1 := by simp only [den, dKget]
theorem d_lzip {l : List DX} : den T C E (.lzip l) τ G P = denA T C E l τ G fun ds G1 => ∃ x y xs ys, ds = [x, y] ∧ ((x = .tup xs ∧ y = .tup ys) ∨ ((∀ us, x ≠ .tup us) ∧ (∀ us, y ≠ .tup us) ∧ seqD G1 x = some xs ∧ seqD G1 y = some ys)) ∧
  NewO (.lst (zipD xs ys)) G1 P := by simp only [den, dLzip, NewO]
theorem d_dct0 : den T C E (.dct [] []) τ G P = NewO (.dK []) G P := by simp only [den, dNewK, NewO]
theorem d_dct {k : DX} {ks vs : List DX} : den T C E (.dct (k :: ks) vs) τ G P = dDisp ((denL T C E (k :: ks)).zip (denL T C E vs)) τ G P := by simp only [den]
def LcK (xs : List DV) (live : DH → Prop) (tg : Tg) (tt : DTT) (te : DTE) (vs : List Nat) : DTE := fun τ G P => ∀ D, G D = none → ∃ Pv : Nat → List DV → DH → Prop, Pv 0 [] (updD G D (.lst [])) ∧ ∀ i acc G, i ≤ xs.length → Pv i acc G → G D = some (.lst acc) ∧ live G ∧
  match xs[i]? with
  | some x => ∃ τ2, asgD tg x (wipeD τ vs) = some τ2 ∧ tt τ2 G fun b G3 => if b = true then te τ2 G3 fun y G4 => G4 D = some (.lst acc) ∧ acc.length < sizeLine ∧ Pv (i + 1) (acc ++ [y]) (updD G4 D (.lst (acc ++ [y]))) else Pv (i + 1) acc G3
  | none => P (.ref D) G
theorem d_lc {vs : List Nat} {tg : Tg} {ik : IK} {it cs : List DX} {e : DX} : den T C E (.lc vs tg ik it cs e) τ G P = dIter ik (denL T C E it) (denA T C E it) τ G fun xs live G1 => LcK xs live tg (denC T C EX0 cs) (den T C EX0 e) vs τ G1 P := by simp only [den]; rfl
def DcK (xs : List DV) (live : DH → Prop) (tg : Tg) (tt : DTT) (tk tv : DTE) (vs : List Nat) : DTE := fun τ G P => ∀ D, G D = none → ∃ Pv : Nat → List (Key × DV) → DH → Prop, Pv 0 [] (updD G D (.dK [])) ∧ ∀ i acc G, i ≤ xs.length → Pv i acc G → G D = some (.dK acc) ∧ live G ∧
  match xs[i]? with
  | some x => ∃ τ2, asgD tg x (wipeD τ vs) = some τ2 ∧ tt τ2 G fun b G3 => if b = true then tk τ2 G3 fun y G4 => tv τ2 G4 fun z G5 => ∃ k, keyD y = some k ∧ G5 D = some (.dK acc) ∧ acc.length < sizeLine ∧ Pv (i + 1) (putD acc k z) (updD G5 D (.dK (putD acc k z))) else Pv (i + 1) acc G3
  | none => P (.ref D) G
theorem d_dc {vs : List Nat} {tg : Tg} {ik : IK} {it cs : List DX} {k e : DX} : den T C E (.dc vs tg ik it cs k e) τ G P = dIter ik (denL T C E it) (denA T C E it) τ G fun xs live G1 => DcK xs live tg (denC T C EX0 cs) (den T C EX0 k) (den T C EX0 e) vs τ G1 P := by simp only [den]; rfl
/-! iterables -/
theorem i_seq {e : DX} {K : List DV → (DH → Prop) → DH → Prop} : dIter .seq (denL T C E [e]) (denA T C E [e]) τ G K = den T C E e τ G fun x G1 => ∃ xs, itOf G1 x = some xs ∧ K xs (fun G' => itOf G' x = some xs) G1 := by simp only [dIter, denL, dSeqI]
theorem i_rng1 {it : List DX} {K : List DV → (DH → Prop) → DH → Prop} : dIter .rng1 (denL T C E it) (denA T C E it) τ G K = denA T C E it τ G fun ds G1 => ∃ j : Int, ds = [.int j] ∧ -(2 ^ 62) ≤ j ∧ j < 2 ^ 62 ∧ K (rngD 0 j.toNat) (fun _ => True) G1 := by simp only [dIter, dRng1]
theorem i_zip {it : List DX} {K : List DV → (DH → Prop) → DH → Prop} : dIter .zip (denL T C E it) (denA T C E it) τ G K = dZip (denA T C E it) τ G K := by simp only [dIter]
theorem i_enum {e : DX} {K : List DV → (DH → Prop) → DH → Prop} : dIter .enum (denL T C E [e]) (denA T C E [e]) τ G K = den T C E e τ G fun x G1 => ∃ xs, seqD G1 x = some xs ∧ K (enumD xs) (fun G' => seqD G' x = some xs) G1 := by
  simp only [dIter, dEnum, denA, dCons, dNil]
  congr; funext x G1
  exact propext ⟨fun ⟨y, xs, e, h⟩ => by cases e; exact ⟨xs, h⟩, fun ⟨xs, h⟩ => ⟨x, xs, rfl, h⟩⟩
/-! tests -/
variable {K : Bool → DH → Prop}
theorem t_not {a : DX} : denT T C E (.not a) τ G K = denT T C E a τ G fun c G1 => K (!c) G1 := by simp only [denT, dNotT]
theorem t_and1 {a : DX} : denT T C E (.and [a]) τ G K = denT T C E a τ G K := by simp only [denT, denAndT]
theorem t_and {a b : DX} {l : List DX} : denT T C E (.and (a :: b :: l)) τ G K = denT T C E a τ G fun c G1 => if c = true then denT T C E (.and (b :: l)) τ G1 K else K false G1 := by
  cases l <;> simp only [denT, denAndT, dAndT]
theorem t_or1 {a : DX} : denT T C E (.or [a]) τ G K = denT T C E a τ G K := by simp only [denT, denOrT]
theorem t_or {a b : DX} {l : List DX} : denT T C E (.or (a :: b :: l)) τ G K = denT T C E a τ G fun c G1 => if c = true then K true G1 else denT T C E (.or (b :: l)) τ G1 K := by
  cases l <;> simp only [denT, denOrT, dOrT]
theorem t_cmp {o : CO} {a b : DX} : denT T C E (.cmp o a b) τ G K = den T C E (.cmp o a b) τ G fun x G1 => ∃ c, x = .bl c ∧ K c G1 := by simp only [denT, den, dTest]
theorem t_chain {o o' : CO} {a b c : DX} : denT T C E (.chain o o' a b c) τ G K = den T C E (.chain o o' a b c) τ G fun x G1 => ∃ c, x = .bl c ∧ K c G1 := by simp only [denT, den, dTest]
theorem t_v {i : Nat} : denT T C E (.v i) τ G K = den T C E (.v i) τ G fun x G1 => ∃ c, x = .bl c ∧ K c G1 := by simp only [denT, den, dTest]
theorem t_call {s : String} {f n : Nat} {l : List DX} : denT T C E (.call s f n l) τ G K = den T C E (.call s f n l) τ G fun x G1 => ∃ c, x = .bl c ∧ K c G1 := by simp only [denT, den, dTest]
theorem t_callV {i : Nat} {l : List DX} : denT T C E (.callV i l) τ G K = den T C E (.callV i l) τ G fun x G1 => ∃ c, x = .bl c ∧ K c G1 := by simp only [denT, den, dTest]
theorem t_own {c m : String} {f n : Nat} {o : DX} {l : List DX} : denT T C E (.own c m f n o l) τ G K = den T C E (.own c m f n o l) τ G fun x G1 => ∃ c, x = .bl c ∧ K c G1 := by simp only [denT, den, dTest]
theorem t_bf {b : BF} {l : List DX} : denT T C E (.bf b l) τ G K = den T C E (.bf b l) τ G fun x G1 => ∃ c, x = .bl c ∧ K c G1 := by simp only [denT, den, dTest]
theorem t_isi {s : String} {c : TN} {a : DX} : denT T C E (.isi s c a) τ G K = den T C E (.isi s c a) τ G fun x G1 => ∃ c, x = .bl c ∧ K c G1 := by simp only [denT, den, dTest]
theorem t_ite {c a b : DX} : denT T C E (.ite c a b) τ G K = denT T C E c τ G fun k G1 => if k = true then denT T C E a τ G1 K else denT T C E b τ G1 K := by simp only [denT, dIteT]
theorem c_nil : denC T C E [] τ G K = K true G := by simp only [denC, dYes]
theorem c_one {a : DX} : denC T C E [a] τ G K = denT T C E a τ G K := by simp only [denC]
/-! operators by kinds -/
theorem o_addI {i j : Int} : dAdd (.int i) (.int j) G P = P (.int (i + j)) G := rfl
theorem o_addT : dAdd (.tup xs) (.tup ys) G P = (xs.length + ys.length ≤ sizeLine ∧ P (.tup (xs ++ ys)) G) := rfl
theorem o_addS {a b : Str} : dAdd (.str a) (.str b) G P = (a.length + b.length ≤ sizeLine ∧ P (.str (a ++ b)) G) := rfl
theorem o_subI {i j : Int} : dSub (.int i) (.int j) G P = P (.int (i - j)) G := propext ⟨fun ⟨_, _, e1, e2, _, h⟩ => by cases e1; cases e2; exact h, fun h => ⟨_, _, rfl, rfl, trivial, h⟩⟩
theorem o_mulI {i j : Int} : dMul (.int i) (.int j) G P = (CMul i j ∧ P (.int (i * j)) G) := rfl
theorem o_mulT {k : Int} : dMul (.tup xs) (.int k) G P = (-(2 ^ 62) ≤ k ∧ k ≤ 1000 ∧ xs.length ≤ 1000 ∧ P (.tup (List.replicate k.toNat xs).flatten) G) := rfl
theorem o_mulS {s : Str} {k : Int} : dMul (.str s) (.int k) G P = (-(2 ^ 62) ≤ k ∧ k ≤ 1000 ∧ s.length ≤ 1000 ∧ P (.str (strRep s k)) G) := rfl
theorem o_fdivI {i j : Int} : dFdiv (.int i) (.int j) G P = (CDivN i j ∧ P (.int (i.fdiv j)) G) := propext ⟨fun ⟨_, _, e1, e2, c, h⟩ => by cases e1; cases e2; exact ⟨c, h⟩, fun ⟨c, h⟩ => ⟨_, _, rfl, rfl, c, h⟩⟩
theorem o_modI {i j : Int} : dMod (.int i) (.int j) G P = (0 < j ∧ P (.int (i % j)) G) := propext ⟨fun ⟨_, _, e1, e2, c, h⟩ => by cases e1; cases e2; exact ⟨c, h⟩, fun ⟨c, h⟩ => ⟨_, _, rfl, rfl, c, h⟩⟩
theorem o_powI {i j : Int} : dPow (.int i) (.int j) G P = (CPow i j ∧ P (.int (i ^ j.toNat)) G) := propext ⟨fun ⟨_, _, e1, e2, c, h⟩ => by cases e1; cases e2; exact ⟨c, h⟩, fun ⟨c, h⟩ => ⟨_, _, rfl, rfl, c, h⟩⟩
theorem o_ltI {i j : Int} : dLt (.int i) (.int j) G P = P (.bl (decide (i < j))) G := rfl
theorem o_ltS {i j : Str} : dLt (.str i) (.str j) G P = P (.bl (sLt i j)) G := rfl
theorem o_leI {i j : Int} : dLe (.int i) (.int j) G P = P (.bl (decide (i ≤ j))) G := rfl
theorem o_gtI {i j : Int} : dGt (.int i) (.int j) G P = P (.bl (decide (j < i))) G := rfl
theorem o_geI {i j : Int} : dGe (.int i) (.int j) G P = P (.bl (decide (j ≤ i))) G := rfl
theorem o_isN {n : Bool} : dIs n x .non G P = P (.bl (xor n (isNonD x))) G := rfl
theorem o_isB {n a b : Bool} : dIs n (.bl a) (.bl b) G P = P (.bl (xor n (decide (a = b)))) G := propext ⟨fun ⟨_, e, h⟩ => by cases e; exact h, fun h => ⟨_, rfl, h⟩⟩
theorem o_neg {i : Int} : dNeg (.int i) G P = P (.int (-i)) G := propext ⟨fun ⟨_, e, h⟩ => by cases e; exact h, fun h => ⟨_, rfl, h⟩⟩
theorem o_ixT {i : Int} : dIx (.tup xs) (.int i) G P = ∃ v, atI xs i = some v ∧ P v G := propext ⟨fun ⟨_, _, e, h⟩ => by cases e; exact ⟨_, h⟩, fun ⟨v, h⟩ => ⟨_, v, rfl, h⟩⟩
theorem o_lenT : dLen [.tup xs] G P = P (.int xs.length) G := rfl
theorem o_lenS {s : Str} : dLen [.str s] G P = (s.length ≤ sizeLine ∧ P (.int s.length) G) := rfl
theorem o_intI {i : Int} : dInt [.int i] G P = P (.int i) G := rfl
theorem o_intB {b : Bool} : dInt [.bl b] G P = P (.int (if b then 1 else 0)) G := rfl
theorem o_max {i j : Int} : dMax2 [.int i, .int j] G P = P (.int (if j > i then j else i)) G := rfl
theorem o_strI {i : Int} : dStrI [.int i] G P = (i.natAbs.log2 < 1920 ∧ P (.str (toString i)) G) := rfl
theorem o_slT {lo hi : Option Int} : dSlR (.tup xs) lo hi G P = P (.tup (cutD xs lo hi)) G := rfl
theorem o_slS {s : Str} {lo hi : Option Int} : dSlR (.str s) lo hi G P = (s.length ≤ sizeLine ∧ P (.str (cutS s lo hi)) G) := rfl
theorem o_inS {n : Bool} {a b : Str} : dIn n (.str a) (.str b) G P = P (.bl (xor n (inStr a b))) G := propext ⟨fun ⟨_, e, h⟩ => by cases e; exact h, fun h => ⟨_, rfl, h⟩⟩
theorem o_inT {n : Bool} : dIn n x (.tup xs) G P = ((toF x).isSome = true ∧ flats xs = true ∧ P (.bl (xor n (inFlat x xs))) G) := rfl
theorem o_ixD {a : Addr} {kvs : List (Key × DV)} (h : G a = some (.dK kvs)) : dIx (.ref a) y G P = ∃ k v, keyD y = some k ∧ valD kvs k = some v ∧ P v G := by unfold dIx; dsimp only; rw [h]
theorem o_ixL {a : Addr} {i : Int} (h : G a = some (.lst xs)) : dIx (.ref a) (.int i) G P = ∃ v, atI xs i = some v ∧ P v G := by
  unfold dIx; dsimp only; rw [h]
  exact propext ⟨fun ⟨_, _, e, h⟩ => by cases e; exact ⟨_, h⟩, fun ⟨v, h⟩ => ⟨_, v, rfl, h⟩⟩
theorem o_inD {n : Bool} {a : Addr} {kvs : List (Key × DV)} (h : G a = some (.dK kvs)) : dIn n x (.ref a) G P = ∃ k, keyD x = some k ∧ P (.bl (xor n (valD kvs k).isSome)) G := by unfold dIn; dsimp only; rw [h]
theorem o_inL {n : Bool} {a : Addr} (h : G a = some (.lst xs)) : dIn n x (.ref a) G P = ((toF x).isSome = true ∧ flats xs = true ∧ P (.bl (xor n (inFlat x xs))) G) := by unfold dIn; dsimp only; rw [h]
theorem o_lenL {a : Addr} (h : G a = some (.lst xs)) : dLen [.ref a] G P = P (.int xs.length) G := by unfold dLen; dsimp only; rw [h]
theorem o_slL {a : Addr} {lo hi : Option Int} (h : G a = some (.lst xs)) : dSlR (.ref a) lo hi G P = NewO (.lst (cutD xs lo hi)) G P := by unfold dSlR; dsimp only; rw [h]; rfl
theorem o_addL {a b : Addr} (h : G a = some (.lst xs)) (h2 : G b = some (.lst ys)) (hl : xs.length + ys.length ≤ sizeLine) (k : NewO (.lst (xs ++ ys)) G P) : dAdd (.ref a) (.ref b) G P := by
  unfold dAdd; dsimp only; rw [h, h2]; first | exact ⟨hl, k⟩ | exact ⟨_, _, rfl, rfl, hl, k⟩
theorem o_list {ys : List DV} (h : seqD G x = some ys) : dListOf [x] G P = NewO (.lst ys) G P := by
  unfold dListOf NewO
  exact propext ⟨fun ⟨a, b, e, h2, k⟩ => by cases e; rw [h] at h2; cases h2; exact k, fun k => ⟨_, _, rfl, h, k⟩⟩
theorem o_tupO {ys : List DV} (h : seqD G x = some ys) : dTupOf [x] G P = P (.tup ys) G := by
  unfold dTupOf
  exact propext ⟨fun ⟨a, b, e, h2, k⟩ => by cases e; rw [h] at h2; cases h2; exact k, fun k => ⟨_, _, rfl, h, k⟩⟩
theorem o_app {a : Addr} {ys : List DV} (h : G a = some (.lst ys)) (hl : ys.length < sizeLine) (k : P .non (updD G a (.lst (ys ++ [y])))) : dAppend (.ref a) [y] G P := ⟨a, ys, y, rfl, rfl, h, hl, k⟩
theorem o_eqF {f g : V} (h1 : toF x = some f) (h2 : toF y = some g) (h3 : scal f g = true) (k : P (.bl (decide (f = g))) G) : dEq x y G P := .inl ⟨f, g, h1, h2, h3, k⟩
theorem o_neF {f g : V} (h1 : toF x = some f) (h2 : toF y = some g) (h3 : scal f g = true) (k : P (.bl (!decide (f = g))) G) : dNe x y G P := .inl ⟨f, g, h1, h2, h3, k⟩
theorem o_eqI {i j : Int} (k : P (.bl (decide (i = j))) G) : dEq (.int i) (.int j) G P := o_eqF rfl rfl rfl (by rw [show decide (V.int i = V.int j) = decide (i = j) from by rw [Bool.eq_iff_iff]; simp]; exact k)
theorem o_neI {i j : Int} (k : P (.bl (!decide (i = j))) G) : dNe (.int i) (.int j) G P := o_neF rfl rfl rfl (by rw [show decide (V.int i = V.int j) = decide (i = j) from by rw [Bool.eq_iff_iff]; simp]; exact k)
theorem o_eqS {i j : Str} (k : P (.bl (decide (i = j))) G) : dEq (.str i) (.str j) G P := o_eqF rfl rfl rfl (by rw [show decide (V.str i = V.str j) = decide (i = j) from by rw [Bool.eq_iff_iff]; simp]; exact k)
theorem o_eqE {xs : List DV} {ps : List PyData} (h : omap (toPD G 59) xs = some ps) (hc : PyData.canLayAll0 ps = true) (k : P (.bl xs.isEmpty) G) : dEq (.tup xs) (.tup []) G P := by
  refine .inr ⟨.tuple ps, .tuple [], by unfold toPD; rw [h]; rfl, by unfold toPD omap; rfl, by simpa [PyData.canLay0] using hc, by simp [PyData.canLay0, PyData.canLayAll0], ?_⟩
  have : PyData.eqv (.tuple ps) (.tuple []) = xs.isEmpty := by
    cases xs with
    | nil => cases h; simp [PyData.eqv, PyData.eqvAll]
    | cons x xs =>
      unfold omap at h
      split at h
      · cases h; simp [PyData.eqv, PyData.eqvAll]
      · cases h
  rw [this]; exact k
end
end DL
end
section
set_option Elab.async false
set_option linter.all false
set_option maxRecDepth 100000
set_option autoImplicit false
namespace DL
open PySem PySem.Spec PyProof.Rows L2
section
variable {D : Dk} {xs : List DV} {live : DH → Prop} {tg : Tg} {tb : DTS} {E : DEnds} {τ : DSt} {G : DH} {tt : DTT} {te tk tv : DTE} {vs : List Nat} {P : DK}
theorem ForK.run (J : Nat → DSt → DH → Prop) (h0 : J 0 τ G) (hl : ∀ i τ' G', J i τ' G' → live G')
    (hs : ∀ i τ' G' x, xs[i]? = some x → J i τ' G' → ∃ τ2, asgD tg x τ' = some τ2 ∧ tb { E with nx := J (i + 1), ct := J (i + 1), bk := E.nx } τ2 G')
    (he : ∀ τ' G', J xs.length τ' G' → E.nx τ' G') : ForK xs live tg tb E τ G :=
  ⟨J, h0, fun i τ' G' hle j => ⟨hl i τ' G' j, by
    cases q : xs[i]? with
    | some x => exact hs i τ' G' x q j
    | none =>
      have : xs.length ≤ i := List.getElem?_eq_none_iff.mp q
      have e : i = xs.length := by omega
      subst e
      exact he τ' G' j⟩⟩
theorem LcK.run (A : Nat → List DV → Prop) (ok : okD D G) (hl : xs.length < sizeLine) (lv : ∀ G', Ext D G G' → live G') (h0 : A 0 [])
    (hs : ∀ i acc G1 x, Ext D G G1 → okD D G1 → xs[i]? = some x → A i acc → ∃ τ2, asgD tg x (wipeD τ vs) = some τ2 ∧ ∀ (K1 : DV → DH → Prop) (K2 : DH → Prop), (∀ y G4, Ext D G1 G4 → okD D G4 → A (i + 1) (acc ++ [y]) → K1 y G4) → (∀ G4, Ext D G1 G4 → okD D G4 → A (i + 1) acc → K2 G4) → tt τ2 G1 fun b G3 => if b = true then te τ2 G3 K1 else K2 G3)
    (hP : ∀ p G2 acc, Ext D G G2 → okD D G2 → Kn D G2 p (.lst acc) → acc.length ≤ xs.length → G p = none → A xs.length acc → P (.ref p) G2) : LcK xs live tg tt te vs τ G P := fun p hp => by
  have nD := ok.notIn hp
  refine ⟨fun i acc G' => Ext D G G' ∧ okD D G' ∧ A i acc ∧ acc.length ≤ i ∧ G' p = some (.lst acc), ⟨Ext.new ok hp, ok.upd nD, h0, Nat.le_refl 0, updD_same⟩, fun i acc G' hle ⟨e, ok', ha, hlen, hg⟩ => ⟨hg, lv G' e, ?_⟩⟩
  cases q : xs[i]? with
  | none =>
    have : xs.length ≤ i := List.getElem?_eq_none_iff.mp q
    have ei : i = xs.length := by omega
    subst ei
    exact hP p G' acc e ok' ⟨nD, hg⟩ hlen hp ha
  | some x =>
    have hlt : i < xs.length := (List.getElem?_eq_some_iff.mp q).1
    obtain ⟨τ2, h1, h2⟩ := hs i acc G' x e ok' q ha
    refine ⟨τ2, h1, h2 _ _ (fun y G4 e4 ok4 a4 => ⟨e4.k _ _ nD hg, by omega, (e.trans e4).wr ok hp, ok4.upd nD, a4, by rw [List.length_append, List.length_singleton]; omega, updD_same⟩) fun G4 e4 ok4 a4 => ⟨e.trans e4, ok4, a4, by omega, e4.k _ _ nD hg⟩⟩
/-- what comes out is known -/
theorem LcK.map (f : DV → DV) (kp : DV → Bool) (ok : okD D G) (hl : xs.length < sizeLine) (lv : ∀ G', Ext D G G' → live G')
    (hs : ∀ x ∈ xs, ∃ τ2, asgD tg x (wipeD τ vs) = some τ2 ∧ ∀ G1, Ext D G G1 → okD D G1 → ∀ (K1 : DV → DH → Prop) (K2 : DH → Prop), (∀ G4, Ext D G1 G4 → okD D G4 → kp x = true → K1 (f x) G4) → (∀ G4, Ext D G1 G4 → okD D G4 → kp x = false → K2 G4) → tt τ2 G1 fun b G3 => if b = true then te τ2 G3 K1 else K2 G3)
    (hP : ∀ p G2, Ext D G G2 → okD D G2 → Kn D G2 p (.lst ((xs.filter kp).map f)) → G p = none → P (.ref p) G2) : LcK xs live tg tt te vs τ G P := by
  refine LcK.run (D := D) (fun i acc => acc = ((xs.take i).filter kp).map f) ok hl lv (by simp) (fun i acc G1 x e1 ok1 hx ha => ?_) fun p G2 acc e2 ok2 kn _ hp ha => hP p G2 e2 ok2 (by rw [ha, List.take_length] at kn; exact kn) hp
  obtain ⟨τ2, h1, h2⟩ := hs x (List.mem_of_getElem? hx)
  have htk : xs.take (i + 1) = xs.take i ++ [x] := by rw [List.take_succ, hx]; rfl
  refine ⟨τ2, h1, fun K1 K2 k1 k2 => h2 G1 e1 ok1 K1 K2 (fun G4 e4 ok4 hk => k1 _ G4 e4 ok4 ?_) fun G4 e4 ok4 hk => k2 G4 e4 ok4 ?_⟩
  · rw [htk, List.filter_append, List.map_append, ← ha]; simp [List.filter, hk]
  · rw [htk, List.filter_append, List.map_append, ← ha]; simp [List.filter, hk]
/-- all(..) of truths -/
theorem LcK.all (g : DV → Bool) (ok : okD D G) (hl : xs.length < sizeLine) (lv : ∀ G', Ext D G G' → live G')
    (hs : ∀ x ∈ xs, ∃ τ2, asgD tg x (wipeD τ vs) = some τ2 ∧ ∀ G1, Ext D G G1 → okD D G1 → ∀ (K1 : DV → DH → Prop) (K2 : DH → Prop), (∀ G4, Ext D G1 G4 → okD D G4 → K1 (.bl (g x)) G4) → tt τ2 G1 fun b G3 => if b = true then te τ2 G3 K1 else K2 G3)
    (hP : ∀ G2, Ext D G G2 → okD D G2 → P (.bl (xs.all g)) G2) : LcK xs live tg tt te vs τ G fun x G1 => dAll [x] G1 P := by
  refine LcK.map (D := D) (fun x => .bl (g x)) (fun _ => true) ok hl lv (fun x hx => ?_) fun p G2 e2 ok2 kn hp => ⟨p, xs.map g, rfl, ?_, ?_⟩
  · obtain ⟨τ2, h1, h2⟩ := hs x hx
    exact ⟨τ2, h1, fun G1 e1 ok1 K1 K2 k1 k2 => h2 G1 e1 ok1 K1 K2 fun G4 e4 ok4 => k1 G4 e4 ok4 rfl⟩
  · rw [kn.2, List.filter_eq_self.mpr (fun _ _ => rfl), List.map_map]; rfl
  · have e : (xs.map g).all id = xs.all g := by rw [List.all_map]; rfl
    rw [e]; exact hP G2 e2 ok2
theorem DcK.run (A : Nat → List (Key × DV) → Prop) (ok : okD D G) (hl : xs.length < sizeLine) (lv : ∀ G', Ext D G G' → live G') (h0 : A 0 []) (hA : ∀ i acc, A i acc → acc.length ≤ i)
    (hs : ∀ i acc G1 x, Ext D G G1 → okD D G1 → xs[i]? = some x → A i acc → ∃ τ2, asgD tg x (wipeD τ vs) = some τ2 ∧ ∀ (K1 : DV → DV → DH → Prop) (K2 : DH → Prop), (∀ y k z G4, Ext D G1 G4 → okD D G4 → keyD y = some k → A (i + 1) (putD acc k z) → K1 y z G4) → (∀ G4, Ext D G1 G4 → okD D G4 → A (i + 1) acc → K2 G4) → tt τ2 G1 fun b G3 => if b = true then tk τ2 G3 fun y G4 => tv τ2 G4 fun z G5 => K1 y z G5 else K2 G3)
    (hP : ∀ p G2 acc, Ext D G G2 → okD D G2 → Kn D G2 p (.dK acc) → G p = none → A xs.length acc → P (.ref p) G2) : DcK xs live tg tt tk tv vs τ G P := fun p hp => by
  have nD := ok.notIn hp
  refine ⟨fun i acc G' => Ext D G G' ∧ okD D G' ∧ A i acc ∧ G' p = some (.dK acc), ⟨Ext.new ok hp, ok.upd nD, h0, updD_same⟩, fun i acc G' hle ⟨e, ok', ha, hg⟩ => ⟨hg, lv G' e, ?_⟩⟩
  cases q : xs[i]? with
  | none =>
    have : xs.length ≤ i := List.getElem?_eq_none_iff.mp q
    have ei : i = xs.length := by omega
    subst ei
    exact hP p G' acc e ok' ⟨nD, hg⟩ hp ha
  | some x =>
    have hlt : i < xs.length := (List.getElem?_eq_some_iff.mp q).1
    obtain ⟨τ2, h1, h2⟩ := hs i acc G' x e ok' q ha
    refine ⟨τ2, h1, h2 _ _ (fun y k z G4 e4 ok4 hk a4 => ⟨k, hk, e4.k _ _ nD hg, ?_, (e.trans e4).wr ok hp, ok4.upd nD, a4, updD_same⟩) fun G4 e4 ok4 a4 => ⟨e.trans e4, ok4, a4, e4.k _ _ nD hg⟩⟩
    have := hA i acc ha
    omega
theorem asg_n {i : Nat} {d : DV} : asgD (.n i) d τ = some (τ.set i (some d)) := by simp only [asgD]
theorem asg_t {ts : List Tg} : asgD (.t ts) (.tup xs) τ = asgDs ts xs τ := by simp only [asgD]
theorem asgs_nil : asgDs [] [] τ = some τ := by simp only [asgDs]
theorem asgs_cons {i : Nat} {ts : List Tg} {d : DV} : asgDs (.n i :: ts) (d :: xs) τ = asgDs ts xs (τ.set i (some d)) := by simp only [asgDs, asgD]
theorem n_non : isNonD .non = true := rfl
theorem n_tup : isNonD (.tup xs) = false := rfl
theorem n_xt : isNonD (.xt xs) = false := rfl
theorem n_int {i : Int} : isNonD (.int i) = false := rfl
theorem n_str {i : Str} : isNonD (.str i) = false := rfl
theorem n_bl {i : Bool} : isNonD (.bl i) = false := rfl
theorem n_ref {i : Addr} : isNonD (.ref i) = false := rfl
theorem fg_x : fgD (.xt xs) = .tup xs := rfl
theorem fg_t : fgD (.tup xs) = .tup xs := rfl
theorem it_kn {a : Addr} (h : Kn D G a (.lst xs)) : ∀ G', Ext D G G' → itOf G' (.ref a) = some xs := fun G' e => by
  show (match G' a with | some (.lst xs) => some xs | _ => none) = some xs
  rw [(h.mono e).2]
theorem seq_kn {a : Addr} (h : Kn D G a (.lst xs)) : seqD G (.ref a) = some xs := by
  show (match G a with | some (.lst xs) => some xs | _ => none) = some xs
  rw [h.2]
theorem it_str {G : DH} {s : Str} : itOf G (.str s) = some (chrs s) := rfl
theorem it_tup {G : DH} : itOf G (.tup xs) = some xs := rfl
theorem seq_tup {G : DH} : seqD G (.tup xs) = some xs := rfl
theorem z_tup {it : DTA} {τ : DSt} {xs ys : List DV} {G : DH} {K : List DV → (DH → Prop) → DH → Prop} (h : it τ G fun ds G1 => ds = [.tup xs, .tup ys] ∧ K (zipD xs ys) (fun _ => True) G1) (hm : ∀ (A B : List DV → DH → Prop), (∀ ds G, A ds G → B ds G) → it τ G A → it τ G B) : dZip it τ G K := hm _ _ (fun ds G ⟨e, k⟩ => ⟨_, _, e, .inl ⟨xs, ys, rfl, rfl, k⟩⟩) h
theorem y_tup {G : DH} : tyN G (.tup xs) = some (.b "tuple") := rfl
theorem y_int {G : DH} {i : Int} : tyN G (.int i) = some (.b "int") := rfl
theorem y_str {G : DH} {i : Str} : tyN G (.str i) = some (.b "str") := rfl
theorem y_bl {G : DH} {i : Bool} : tyN G (.bl i) = some (.b "bool") := rfl
theorem y_non {G : DH} : tyN G .non = some (.b "NoneType") := rfl
theorem y_lk {G : DH} : tyN G (.lk xs) = some (.b "list") := rfl
theorem y_xt {G : DH} : tyN G (.xt xs) = some (.b "tuple") := rfl
theorem y_ref {G : DH} {a : Addr} (h : G a = some (.lst xs)) : tyN G (.ref a) = some (.b "list") := by unfold tyN; dsimp only; rw [h]
theorem y_dK {G : DH} {a : Addr} {kvs : List (Key × DV)} (h : G a = some (.dK kvs)) : tyN G (.ref a) = some (.b "dict") := by unfold tyN; dsimp only; rw [h]
theorem y_ins {G : DH} {a : Addr} {c : String} {fs : List (String × DV)} (h : G a = some (.ins c fs)) : tyN G (.ref a) = some (.o c) := by unfold tyN; dsimp only; rw [h]
theorem at0 {α : Type} {x : α} {l : List α} : atI (x :: l) 0 = some x := by simp [atI, ixN]
theorem at1 {α : Type} {x y : α} {l : List α} : atI (x :: y :: l) 1 = some y := by unfold atI ixN; rw [if_pos (by decide), if_pos (by simp only [List.length_cons]; omega)]; rfl
theorem at2 {α : Type} {x y z : α} {l : List α} : atI (x :: y :: z :: l) 2 = some z := by unfold atI ixN; rw [if_pos (by decide), if_pos (by simp only [List.length_cons]; omega)]; rfl
theorem at3 {α : Type} {x y z w : α} {l : List α} : atI (x :: y :: z :: w :: l) 3 = some w := by unfold atI ixN; rw [if_pos (by decide), if_pos (by simp only [List.length_cons]; omega)]; rfl
theorem atN {α : Type} {xs : List α} {i : Int} (h0 : 0 ≤ i) (h1 : i < xs.length) : ∃ x, atI xs i = some x ∧ x ∈ xs ∧ xs[i.toNat]? = some x := by
  have hi : i.toNat < xs.length := by omega
  exact ⟨xs[i.toNat], by unfold atI ixN; rw [if_pos h0, if_pos h1]; exact List.getElem?_eq_getElem hi, List.getElem_mem hi, List.getElem?_eq_getElem hi⟩
theorem cut_le (xs : List DV) (lo hi : Option Int) : (cutD xs lo hi).length ≤ xs.length := by unfold cutD; simp; omega
theorem cut_sub {xs : List DV} {lo hi : Option Int} : ∀ x ∈ cutD xs lo hi, x ∈ xs := fun x h => List.mem_of_mem_drop (List.mem_of_mem_take h)
theorem cut_from (xs : List DV) (k : Nat) : cutD xs (some (k : Int)) none = xs.drop k := by
  unfold cutD
  rw [HT.sIx_nat, HT.sIx_none]
  rcases Nat.le_total k xs.length with h | h
  · rw [Nat.min_eq_left h, ← List.length_drop, List.take_length]
  · rw [Nat.min_eq_right h, List.drop_eq_nil_of_le h]; simp
theorem cut_1 (xs : List DV) : cutD xs (some 1) none = xs.tail := by
  rw [show (1 : Int) = ((1 : Nat) : Int) from rfl, cut_from]; simp
end
def dZ := And.intro @s_asg <| And.intro @s_par2 <| And.intro @s_expr <| And.intro @s_ret <| And.intro @s_ifs <| And.intro @s_set <| And.intro @s_fset <| And.intro @s_for <| And.intro @s_tset <| And.intro @d_v <| And.intro @d_int <| And.intro @d_bl <| And.intro @d_non <| And.intro @d_str <| And.intro @d_bin <| And.intro @d_neg <| And.intro @d_cmp <| And.intro @d_chain <| And.intro @d_not <| And.intro @d_and1 <| And.intro @d_and <| And.intro @d_or1 <| And.intro @d_or <| And.intro @d_ite <| And.intro @d_ix <| And.intro @d_slL <| And.intro @d_slH <| And.intro @d_rev <| And.intro @a_nil <| And.intro @a_cons <| And.intro @d_tup <| And.intro @d_xtup <| And.intro @d_lst <| And.intro @d_fg <| And.intro @d_call <| And.intro @d_callK <| And.intro @d_bf <| And.intro @d_bm <| And.intro @d_own <| And.intro @d_mk <| And.intro @d_isi <| And.intro @d_fld <| And.intro @d_callV <| And.intro @d_kget <| And.intro @d_lzip <| And.intro @d_dct0 <| And.intro @d_lc <| And.intro @d_dc <| And.intro @i_seq <| And.intro @i_rng1 <| And.intro @i_zip <| And.intro @i_enum <| And.intro @t_not <| And.intro @t_and1 <| And.intro @t_and <| And.intro @t_or1 <| And.intro @t_or <| And.intro @t_ite <| And.intro @t_cmp <| And.intro @t_chain <| And.intro @t_v <| And.intro @t_call <| And.intro @t_callV <| And.intro @t_own <| And.intro @t_bf <| And.intro @t_isi <| And.intro @c_nil <| And.intro @c_one <| And.intro @o_addI <| And.intro @o_addT <| And.intro @o_addS <| And.intro @o_subI <| And.intro @o_mulI <| And.intro @o_mulT <| And.intro @o_mulS <| And.intro @o_fdivI <| And.intro @o_modI <| And.intro @o_powI <| And.intro @o_ltI <| And.intro @o_ltS <| And.intro @o_leI <| And.intro @o_gtI <| And.intro @o_geI <| And.intro @o_isN <| And.intro @o_isB <| And.intro @o_neg <| And.intro @o_ixT <| And.intro @o_lenT <| And.intro @o_lenS <| And.intro @o_intI <| And.intro @o_intB <| And.intro @o_max <| And.intro @o_strI <| And.intro @o_slT <| And.intro @o_slS <| And.intro @o_inS <| And.intro @it_str <| And.intro @it_tup <| And.intro @seq_tup <| And.intro @y_tup <| And.intro @y_int <| And.intro @y_str <| And.intro @y_bl <| And.intro @y_non <| And.intro @y_lk <| And.intro @y_xt <| And.intro @n_non <| And.intro @n_tup <| And.intro @n_int <| And.intro @n_str <| And.intro @n_bl <| And.intro @n_ref <| And.intro @n_xt <| And.intro @fg_x <| And.intro @fg_t <| And.intro @asg_n <| And.intro @asg_t <| And.intro @asgs_nil <| And.intro @asgs_cons <| And.intro @at0 <| And.intro @at1 <| And.intro @at2 <| And.intro @at3 <| And.intro @List.getElem?_cons_zero.{0} <| And.intro @List.getElem?_cons_succ.{0} <| And.intro @Option.some.injEq.{0} <| And.intro @exists_eq_left'.{1} <| And.intro @exists_eq_left.{1} <| And.intro @exists_eq'.{1} <| And.intro @List.set_cons_zero.{0} <| And.intro @List.set_cons_succ.{0} <| And.intro @List.length_cons.{0} <| And.intro @List.length_nil.{0} <| And.intro @List.cons.injEq.{0} <| And.intro @DV.bl.injEq <| And.intro @DV.int.injEq <| And.intro @DV.str.injEq <| And.intro @DV.tup.injEq <| And.intro @Bool.not_true <| And.intro @Bool.not_false <| And.intro @Bool.false_xor <| And.intro @Bool.true_xor <| And.intro @Bool.xor_false <| And.intro @Bool.xor_true <| And.intro @Bool.false_eq_true <| And.intro @Nat.zero_add <| And.intro @true_and <| And.intro @and_true <| And.intro @Bool.true_and <| And.intro @Bool.and_true <| And.intro @Bool.false_and <| And.intro @Bool.and_false <| And.intro @Bool.or_true <| And.intro @Bool.true_or <| And.intro @Bool.false_or <| And.intro @Bool.or_false <| And.intro @decide_true <| And.intro @decide_false <| And.intro @Bool.not_not <| And.intro @if_true.{1} <| @if_false.{1}
end DL
end
section
set_option Elab.async false
set_option linter.all false
set_option maxRecDepth 100000
set_option autoImplicit false
namespace DL
open PySem PySem.Spec PyProof.Rows L2
section
variable {C : Nat → DSp} {E : DXK} {τ : DSt} {G : DH} {P : DK}
theorem g0 : den tabs C E (.g 0) τ G P = P (.int 2) G := by simp only [den]; rfl
theorem g1 : den tabs C E (.g 1) τ G P = P (.int 4) G := by simp only [den]; rfl
theorem g2 : den tabs C E (.g 2) τ G P = P (.int 4) G := by simp only [den]; rfl
theorem g3 : den tabs C E (.g 3) τ G P = P (.int 2) G := by simp only [den]; rfl
theorem g4 : den tabs C E (.g 4) τ G P = P (.int 3) G := by simp only [den]; rfl
theorem g5 : den tabs C E (.g 5) τ G P = P (.int 4) G := by simp only [den]; rfl
theorem g6 : den tabs C E (.g 6) τ G P = P (.int 2) G := by simp only [den]; rfl
def SMALL : Str := Str.ofString "abcdefghijklmnopqrstuvwxyz"
def CAPS : Str := Str.ofString "ABCDEFGHIJKLMNOPQRSTUVWXYZ"
def DIGS : Str := Str.ofString "0123456789"
theorem g7 : den tabs C E (.g 7) τ G P = P (.str SMALL) G := by simp only [den]; rfl
theorem g8 : den tabs C E (.g 8) τ G P = P (.int 2) G := by simp only [den]; rfl
theorem g9 : den tabs C E (.g 9) τ G P = P (.str (Str.ofString "part")) G := by simp only [den]; rfl
theorem g10 : den tabs C E (.g 10) τ G P = P (.str (Str.ofString "around")) G := by simp only [den]; rfl
theorem g11 : den tabs C E (.g 11) τ G P = P (.int 8) G := by simp only [den]; rfl
theorem g12 : den tabs C E (.g 12) τ G P = P (.str CAPS) G := by simp only [den]; rfl
theorem g13 : den tabs C E (.g 13) τ G P = P (.str DIGS) G := by simp only [den]; rfl
theorem m_non : (TN.b "NoneType" ∈ tabs.tys) = True := eq_true (by decide)
theorem m_bl : (TN.b "bool" ∈ tabs.tys) = True := eq_true (by decide)
theorem m_int : (TN.b "int" ∈ tabs.tys) = True := eq_true (by decide)
theorem m_str : (TN.b "str" ∈ tabs.tys) = True := eq_true (by decide)
theorem m_tup : (TN.b "tuple" ∈ tabs.tys) = True := eq_true (by decide)
theorem m_lst : (TN.b "list" ∈ tabs.tys) = True := eq_true (by decide)
theorem m_dct : (TN.b "dict" ∈ tabs.tys) = True := eq_true (by decide)
theorem m_book : (TN.o "Book" ∈ tabs.tys) = True := eq_true (by decide)
theorem m_circle : (TN.o "Circle" ∈ tabs.tys) = True := eq_true (by decide)
theorem isa_bb {sub : List (String × String)} {a b : String} : isa sub (.b a) (.b b) = (a == b || (a == "bool" && b == "int")) := rfl
theorem isa_ob {sub : List (String × String)} {a b : String} : isa sub (.o a) (.b b) = false := rfl
end
def dG := And.intro @g0 <| And.intro @g1 <| And.intro @g2 <| And.intro @g3 <| And.intro @g4 <| And.intro @g5 <| And.intro @g6 <| And.intro @g7 <| And.intro @g8 <| And.intro @g9 <| And.intro @g10 <| And.intro @g11 <| And.intro @g12 <| And.intro @g13 <| And.intro @m_non <| And.intro @m_bl <| And.intro @m_int <| And.intro @m_str <| And.intro @m_tup <| And.intro @m_lst <| And.intro @m_dct <| And.intro @m_book <| And.intro @m_circle <| And.intro @isa_bb <| @isa_ob
/-- a value whose kind is known -/
def Ty (G : DH) (x : DV) : Prop := ∃ t, tyN G x = some t ∧ t ∈ tabs.tys
theorem Ty.mono {D : Dk} {G G1 : DH} {x : DV} (h : Ty G x) (e : Ext D G G1) (hx : ∀ a, x = .ref a → ¬ inD D a) : Ty G1 x := by
  obtain ⟨t, h1, h2⟩ := h
  refine ⟨t, ?_, h2⟩
  cases x with
  | ref a =>
    unfold tyN at h1 ⊢
    dsimp only at h1 ⊢
    cases q : G a with
    | none => rw [q] at h1; cases h1
    | some o => rw [e.k a o (hx a rfl) q]; rw [q] at h1; exact h1
  | _ => exact h1
/-! is_place -/
def isPlace (many : Int) : DV → Bool
  | .int i => decide (0 ≤ i) && decide (i < many)
  | _ => false
def isInt : DV → Bool
  | .int _ => true
  | _ => false
/-- known values: what their kinds are stays -/
def TyK (D : Dk) (G : DH) (x : DV) : Prop := Ty G x ∧ ∀ a, x = .ref a → ¬ inD D a
abbrev S_place : DSp := SP (α := Int × DV) (fun D x G ds => ds = [.int x.1, x.2] ∧ TyK D G x.2) (fun D x G v => v = .bl (isPlace x.1 x.2))
theorem tys_all {t : TN} (h : t ∈ tabs.tys) : t = .b "NoneType" ∨ t = .b "bool" ∨ t = .b "int" ∨ t = .b "str" ∨ t = .b "tuple" ∨ t = .b "list" ∨ t = .b "dict" ∨ t = .o "Book" ∨ t = .o "Circle" := by
  simpa [tabs] using h
theorem ty_ref {G : DH} {a : Addr} (h : Ty G (.ref a)) : ∃ t, tyN G (.ref a) = some t ∧ t ∈ tabs.tys ∧ (∀ s, s ∈ ["tuple", "int", "bool", "str", "NoneType"] → isa tabs.sub t (.b s) = false) := by
  obtain ⟨t, h1, h2⟩ := h
  refine ⟨t, h1, h2, ?_⟩
  have h3 : t = .b "list" ∨ t = .b "dict" ∨ ∃ c, t = .o c := by
    unfold tyN at h1
    dsimp only at h1
    split at h1 <;> cases h1
    · exact .inl rfl
    · exact .inr (.inl rfl)
    · exact .inr (.inr ⟨_, rfl⟩)
  rcases h3 with rfl | rfl | ⟨c, rfl⟩ <;> intro s hs <;> simp at hs <;> rcases hs with rfl | rfl | rfl | rfl | rfl <;> rfl
theorem sv_place {C : Nat → DSp} : Serves tabs C f_is_place_circles S_place := SP.serves fun D x ds G EX P ok ⟨e, ⟨ht, hd⟩⟩ k => by
  obtain ⟨many, x⟩ := x
  subst e
  show denSs tabs C EX _ _ [some _, some _] G
  rw [f_is_place_circles, e_cons]
  cases x with
  | int i => (try simp only [dZ, dG, boR, coR, bfD, bmD, bmT, wipeD, sizeLine, Nat.reduceAdd, Nat.reducePow, Nat.reduceLeDiff, reduceIte, String.reduceBEq]); split <;> rename_i h <;> exact k _ _ (Ext.refl D G) ok (by simp [isPlace, h])
  | ref a =>
    obtain ⟨t, h1, h2, h3⟩ := ty_ref ht
    (try simp only [dZ, dG, boR, coR, bfD, bmD, bmT, wipeD, sizeLine, Nat.reduceAdd, Nat.reducePow, Nat.reduceLeDiff, reduceIte, String.reduceBEq])
    exact ⟨t, h1, h2, by rw [h3 _ (by decide)]; (try simp only [dZ, dG, boR, coR, bfD, bmD, bmT, wipeD, sizeLine, Nat.reduceAdd, Nat.reducePow, Nat.reduceLeDiff, reduceIte, String.reduceBEq]); exact k _ _ (Ext.refl D G) ok rfl⟩
  | ty n => obtain ⟨t, h, _⟩ := ht; cases h
  | fv n => obtain ⟨t, h, _⟩ := ht; cases h
  | _ => (try simp only [dZ, dG, boR, coR, bfD, bmD, bmT, wipeD, sizeLine, Nat.reduceAdd, Nat.reducePow, Nat.reduceLeDiff, reduceIte, String.reduceBEq]); exact k _ _ (Ext.refl D G) ok rfl

/-! words, names -/
abbrev S_short : DSp := SP (α := Str) (fun D s G ds => ds = [.str s] ∧ s.length ≤ sizeLine) (fun D s G v => v = .bl (decide (1 ≤ (s.length : Int)) && decide ((s.length : Int) ≤ 8)))
theorem sv_short {C : Nat → DSp} : Serves tabs C f_is_short S_short := SP.serves fun D s ds G EX P ok ⟨e, hl⟩ k => by
  subst e
  show denSs tabs C EX _ _ [some _] G
  rw [f_is_short, e_cons]
  (try simp only [dZ, dG, boR, coR, bfD, bmD, bmT, wipeD, sizeLine, Nat.reduceAdd, Nat.reducePow, Nat.reduceLeDiff, reduceIte, String.reduceBEq])
  refine ⟨hl, ?_⟩
  split <;> rename_i h
  · exact k _ _ (Ext.refl D G) ok (by simp [h])
  · exact k _ _ (Ext.refl D G) ok (by simp [h])
def isWord (s : Str) : Bool := (decide (1 ≤ (s.length : Int)) && decide ((s.length : Int) ≤ 8)) && s.cps.toList.all fun c => inStr ⟨#[c]⟩ SMALL
abbrev S_word : DSp := SP (α := Str) (fun D s G ds => ds = [.str s] ∧ s.length ≤ sizeLine) (fun D s G v => v = .bl (isWord s))
def inSt (t : Str) : DV → Bool
  | .str s => inStr s t
  | _ => false
theorem sz_short {s : Str} (h : (decide (1 ≤ (s.length : Int)) && decide ((s.length : Int) ≤ 8)) = true) : (chrs s).length < sizeLine := by
  simp at h
  have : (chrs s).length = s.length := by simp [chrs, Str.length]
  rw [this]
  have := h.2
  have : sizeLine = 16777216 := rfl
  omega
theorem sv_word {C : Nat → DSp} (h45 : Has C 45 S_short) : Serves tabs C f_is_word S_word := SP.serves fun D s ds G EX P ok ⟨e, hl⟩ k => by
  subst e
  show denSs tabs C EX _ _ [some _, none] G
  rw [f_is_word, e_cons]
  (try simp only [dZ, dG, boR, coR, bfD, bmD, bmT, wipeD, sizeLine, Nat.reduceAdd, Nat.reducePow, Nat.reduceLeDiff, reduceIte, String.reduceBEq])
  refine SP.use h45 s ok ⟨rfl, hl⟩ fun v G2 e2 ok2 hv => ?_
  subst hv
  (try simp only [dZ, dG, boR, coR, bfD, bmD, bmT, wipeD, sizeLine, Nat.reduceAdd, Nat.reducePow, Nat.reduceLeDiff, reduceIte, String.reduceBEq])
  split <;> rename_i h
  · refine LcK.all (D := D) (inSt SMALL) ok2 (sz_short h) (fun _ _ => by trivial) (fun x hx => ?_) fun G3 e3 ok3 => k _ _ (e2.trans e3) ok3 ?_
    · obtain ⟨c, hc, rfl⟩ := List.mem_map.mp hx
      (try simp only [dZ, dG, boR, coR, bfD, bmD, bmT, wipeD, sizeLine, Nat.reduceAdd, Nat.reducePow, Nat.reduceLeDiff, reduceIte, String.reduceBEq])
      exact fun G1 e1 ok1 K1 K2 k1 => k1 G1 (Ext.refl D G1) ok1
    · rw [chrs, List.all_map]; unfold isWord; rw [h]; rfl
  · exact k _ _ e2 ok2 (by unfold isWord; simp only [Bool.not_eq_true] at h; rw [h]; rfl)
def isName (s : Str) : Bool := (decide (1 ≤ (s.length : Int)) && decide ((s.length : Int) ≤ 8)) && (match s.cps.toList with
  | c :: r => inStr ⟨#[c]⟩ CAPS && r.all fun c => inStr ⟨#[c]⟩ (SMALL ++ DIGS)
  | [] => false)
abbrev S_name : DSp := SP (α := Str) (fun D s G ds => ds = [.str s] ∧ s.length ≤ sizeLine) (fun D s G v => v = .bl (isName s))
theorem cutS_1 (s : Str) : (cutS s (some 1) none).cps.toList = s.cps.toList.tail := by
  unfold cutS
  simp only
  rw [show (1 : Int) = ((1 : Nat) : Int) from rfl, HT.sIx_nat, HT.sIx_none]
  rcases Nat.le_total 1 s.length with h | h
  · rw [Nat.min_eq_left h, List.drop_one]
    apply List.take_of_length_le
    simp [Str.length]
  · have h2 : s.cps.toList.length ≤ 1 := by simpa [Str.length] using h
    rw [Nat.min_eq_right h]
    have : s.length = s.cps.toList.length := by simp [Str.length]
    rw [this]
    rcases q : s.cps.toList with _ | ⟨c, r⟩
    · simp
    · rw [q] at h2
      simp at h2
      subst h2
      simp
theorem sv_name {C : Nat → DSp} (h45 : Has C 45 S_short) : Serves tabs C f_is_name S_name := SP.serves fun D s ds G EX P ok ⟨e, hl⟩ k => by
  subst e
  show denSs tabs C EX _ _ [some _, none] G
  rw [f_is_name, e_cons]
  (try simp only [dZ, dG, boR, coR, bfD, bmD, bmT, wipeD, sizeLine, Nat.reduceAdd, Nat.reducePow, Nat.reduceLeDiff, reduceIte, String.reduceBEq])
  refine SP.use h45 s ok ⟨rfl, hl⟩ fun v G2 e2 ok2 hv => ?_
  subst hv
  (try simp only [dZ, dG, boR, coR, bfD, bmD, bmT, wipeD, sizeLine, Nat.reduceAdd, Nat.reducePow, Nat.reduceLeDiff, reduceIte, String.reduceBEq])
  split <;> rename_i h
  · rcases q : s.cps.toList with _ | ⟨c, r⟩
    · have h0 : s.length = 0 := by have : s.length = s.cps.toList.length := by simp [Str.length]
                                   rw [this, q]; rfl
      simp [h0] at h
    have hix : ∀ (P : DK) (G : DH), P (.str ⟨#[c]⟩) G → dIx (.str s) (.int 0) G P := fun P G p => ⟨0, c, rfl, hl, by rw [q]; exact at0, p⟩
    refine hix _ _ ?_
    (try simp only [dZ, dG, boR, coR, bfD, bmD, bmT, wipeD, sizeLine, Nat.reduceAdd, Nat.reducePow, Nat.reduceLeDiff, reduceIte, String.reduceBEq])
    have hn : isName s = (inStr ⟨#[c]⟩ CAPS && r.all fun c => inStr ⟨#[c]⟩ (SMALL ++ DIGS)) := by unfold isName; rw [h, q]; rfl
    split <;> rename_i h2
    · refine ⟨hl, ?_⟩
      have hc : (cutS s (some 1) none).cps.toList = r := by rw [cutS_1, q]; rfl
      refine LcK.all (D := D) (inSt (SMALL ++ DIGS)) ok2 ?_ (fun _ _ => by trivial) (fun x hx => ?_) fun G3 e3 ok3 => k _ _ (e2.trans e3) ok3 ?_
      · have := sz_short h
        unfold chrs at this ⊢
        rw [hc]; rw [q] at this
        simp at this ⊢; omega
      · obtain ⟨c, hc, rfl⟩ := List.mem_map.mp hx
        (try simp only [dZ, dG, boR, coR, bfD, bmD, bmT, wipeD, sizeLine, Nat.reduceAdd, Nat.reducePow, Nat.reduceLeDiff, reduceIte, String.reduceBEq])
        refine fun G1 e1 ok1 K1 K2 k1 => ⟨by decide, k1 G1 (Ext.refl D G1) ok1⟩
      · rw [chrs, hc, List.all_map, hn, h2]; rfl
    · exact k _ _ e2 ok2 (by rw [hn]; simp only [Bool.not_eq_true] at h2; rw [h2]; rfl)
  · exact k _ _ e2 ok2 (by unfold isName; simp only [Bool.not_eq_true] at h; rw [h]; rfl)
/-! ascending -/
def ltD : DV → Bool
  | .tup [.int a, .int b] => decide (a < b)
  | .tup [.str a, .str b] => sLt a b
  | _ => false
def ascI (is : List Int) : Bool := (is.zip is.tail).all fun p => decide (p.1 < p.2)
def ascS (ss : List Str) : Bool := (ss.zip ss.tail).all fun p => sLt p.1 p.2
theorem asc_i (is : List Int) : (zipD (is.map DV.int) (is.map DV.int).tail).all ltD = ascI is := by
  unfold zipD ascI
  rw [← List.map_tail, List.zip_map, List.map_map, List.all_map]; rfl
theorem asc_s (is : List Str) : (zipD (is.map DV.str) (is.map DV.str).tail).all ltD = ascS is := by
  unfold zipD ascS
  rw [← List.map_tail, List.zip_map, List.map_map, List.all_map]; rfl
theorem mem_zip_map {α : Type} {f : α → DV} {is js : List α} {x : DV} (h : x ∈ zipD (is.map f) (js.map f)) : ∃ a b, x = .tup [f a, f b] := by
  unfold zipD at h
  rw [List.zip_map, List.map_map] at h
  obtain ⟨p, _, rfl⟩ := List.mem_map.mp h
  exact ⟨p.1, p.2, rfl⟩
theorem zip_len (xs : List DV) : (zipD xs xs.tail).length ≤ xs.length := by unfold zipD; simp
abbrev S_ascI : DSp := SP (α := List Int ⊕ (Addr × List Str)) (fun D x G ds => match x with
    | .inl is => ds = [.tup (is.map .int)] ∧ is.length < sizeLine
    | .inr p => ds = [.ref p.1] ∧ Kn D G p.1 (.lst (p.2.map .str)) ∧ p.2.length < sizeLine) (fun D x G v => match x with
    | .inl is => v = .bl (ascI is)
    | .inr p => v = .bl (ascS p.2))
theorem sv_ascC {C : Nat → DSp} : Serves tabs C f_are_ascending_circles S_ascI := SP.serves fun D x ds G EX P ok h k => by
  rcases x with is | ⟨a, ss⟩
  · obtain ⟨e, hl⟩ := h
    subst e
    show denSs tabs C EX _ _ [some _, none, none] G
    rw [f_are_ascending_circles, e_cons]
    (try simp only [dZ, dG, boR, coR, bfD, bmD, bmT, wipeD, sizeLine, Nat.reduceAdd, Nat.reducePow, Nat.reduceLeDiff, reduceIte, String.reduceBEq])
    unfold dZip
    (try simp only [dZ, dG, boR, coR, bfD, bmD, bmT, wipeD, sizeLine, Nat.reduceAdd, Nat.reducePow, Nat.reduceLeDiff, reduceIte, String.reduceBEq])
    refine ⟨_, _, ⟨rfl, rfl⟩, .inl ⟨_, _, rfl, rfl, ?_⟩⟩
    rw [cut_1]
    refine LcK.all (D := D) ltD ok (Nat.lt_of_le_of_lt (zip_len _) (by simpa using hl)) (fun _ _ => trivial) (fun x hx => ?_) fun G3 e3 ok3 => k _ _ e3 ok3 (by rw [asc_i])
    rw [← List.map_tail] at hx
    obtain ⟨a, b, rfl⟩ := mem_zip_map hx
    (try simp only [dZ, dG, boR, coR, bfD, bmD, bmT, wipeD, sizeLine, Nat.reduceAdd, Nat.reducePow, Nat.reduceLeDiff, reduceIte, String.reduceBEq])
    exact fun G1 e1 ok1 K1 K2 k1 => k1 G1 (Ext.refl D G1) ok1
  · obtain ⟨e, kn, hl⟩ := h
    subst e
    show denSs tabs C EX _ _ [some _, none, none] G
    rw [f_are_ascending_circles, e_cons]
    (try simp only [dZ, dG, boR, coR, bfD, bmD, bmT, wipeD, sizeLine, Nat.reduceAdd, Nat.reducePow, Nat.reduceLeDiff, reduceIte, String.reduceBEq])
    unfold dZip
    (try simp only [dZ, dG, boR, coR, bfD, bmD, bmT, wipeD, sizeLine, Nat.reduceAdd, Nat.reducePow, Nat.reduceLeDiff, reduceIte, String.reduceBEq])
    rw [o_slL kn.2]
    refine NewO.run ok fun p G2 e2 ok2 kn2 _ => ⟨_, _, ⟨rfl, rfl⟩, .inr ⟨_, _, (by simp), (by simp), seq_kn (kn.mono e2), seq_kn kn2, ?_⟩⟩
    rw [cut_1]
    rw [cut_1] at kn2
    refine LcK.all (D := D) ltD ok2 (Nat.lt_of_le_of_lt (zip_len _) (by simpa using hl)) (fun G' e' => ⟨seq_kn ((kn.mono e2).mono e'), seq_kn (kn2.mono e')⟩) (fun x hx => ?_) fun G3 e3 ok3 => k _ _ (e2.trans e3) ok3 (by rw [asc_s])
    rw [← List.map_tail] at hx
    obtain ⟨a, b, rfl⟩ := mem_zip_map hx
    (try simp only [dZ, dG, boR, coR, bfD, bmD, bmT, wipeD, sizeLine, Nat.reduceAdd, Nat.reducePow, Nat.reduceLeDiff, reduceIte, String.reduceBEq])
    exact fun G1 e1 ok1 K1 K2 k1 => k1 G1 (Ext.refl D G1) ok1
end DL
end
section
set_option Elab.async false
set_option linter.all false
set_option maxRecDepth 100000
set_option autoImplicit false
namespace DL
open PySem PySem.Spec PyProof.Rows L2
open PySem.PyData (strOk)
/-! data without dicts -/
def PDk (G : DH) (n : Nat) (x : DV) : Prop := ∃ p, toPD G n x = some p ∧ p.canLay0 = true
section
variable {G : DH} {n m : Nat} {x : DV} {xs : List DV}
theorem omap_pd {f : DV → Option PyData} : ∀ {xs : List DV}, (∀ x ∈ xs, ∃ p, f x = some p ∧ p.canLay0 = true) → ∃ ps, omap f xs = some ps ∧ PyData.canLayAll0 ps = true
  | [], _ => ⟨[], rfl, by simp [PyData.canLayAll0]⟩
  | x :: xs, h => by
    obtain ⟨p, h1, h2⟩ := h x List.mem_cons_self
    obtain ⟨ps, h3, h4⟩ := omap_pd fun y hy => h y (List.mem_cons_of_mem _ hy)
    exact ⟨p :: ps, by unfold omap; rw [h1, h3], by simp [PyData.canLayAll0, h2, h4]⟩
theorem PDk.int {i : Int} : PDk G n (.int i) := ⟨.int i, by cases n <;> rfl, by simp [PyData.canLay0]⟩
theorem PDk.bl {i : Bool} : PDk G n (.bl i) := ⟨.bool i, by cases n <;> rfl, by simp [PyData.canLay0]⟩
theorem PDk.non : PDk G n .non := ⟨.none, by cases n <;> rfl, by simp [PyData.canLay0]⟩
theorem PDk.str {s : Str} (h : strOk s = true) : PDk G n (.str s) := ⟨.str s, by cases n <;> rfl, by simpa [PyData.canLay0] using h⟩
theorem PDk.tup (h : ∀ x ∈ xs, PDk G n x) : PDk G (n + 1) (.tup xs) := by
  obtain ⟨ps, h1, h2⟩ := omap_pd h
  exact ⟨.tuple ps, by unfold toPD; rw [h1]; rfl, by simpa [PyData.canLay0] using h2⟩
theorem PDk.ref {a : Addr} (hg : G a = some (.lst xs)) (h : ∀ x ∈ xs, PDk G n x) : PDk G (n + 1) (.ref a) := by
  obtain ⟨ps, h1, h2⟩ := omap_pd h
  exact ⟨.list ps, by unfold toPD; rw [hg]; dsimp only; rw [h1]; rfl, by simpa [PyData.canLay0] using h2⟩
theorem o_eqE' {P : DK} (h : ∀ x ∈ xs, PDk G 59 x) (k : P (.bl xs.isEmpty) G) : dEq (.tup xs) (.tup []) G P := by
  obtain ⟨ps, h1, h2⟩ := omap_pd h
  exact o_eqE h1 h2 k
end
mutual
theorem toPD_up (G : DH) : ∀ (n m : Nat) (x : DV) (p : PyData), n ≤ m → toPD G n x = some p → toPD G m x = some p
  | n, m, .non, p, _, h => by cases n <;> cases m <;> exact h
  | n, m, .bl _, p, _, h => by cases n <;> cases m <;> exact h
  | n, m, .int _, p, _, h => by cases n <;> cases m <;> exact h
  | n, m, .str _, p, _, h => by cases n <;> cases m <;> exact h
  | n, m, .ty _, p, _, h => by cases n <;> cases h
  | n, m, .fv _, p, _, h => by cases n <;> cases h
  | 0, m, .tup _, p, _, h => by cases h
  | 0, m, .lk _, p, _, h => by cases h
  | 0, m, .xt _, p, _, h => by cases h
  | 0, m, .ref _, p, _, h => by cases h
  | n + 1, m + 1, .tup xs, p, l, h => by
    unfold toPD at h ⊢
    obtain ⟨ps, e, rfl⟩ := Option.map_eq_some_iff.mp h
    rw [omap_up G n m xs ps (by omega) e]; rfl
  | n + 1, m + 1, .lk xs, p, l, h => by
    unfold toPD at h ⊢
    obtain ⟨ps, e, rfl⟩ := Option.map_eq_some_iff.mp h
    rw [omap_up G n m xs ps (by omega) e]; rfl
  | n + 1, m + 1, .xt xs, p, l, h => by
    unfold toPD at h ⊢
    obtain ⟨ps, e, rfl⟩ := Option.map_eq_some_iff.mp h
    rw [omap_up G n m xs ps (by omega) e]; rfl
  | n + 1, m + 1, .ref a, p, l, h => by
    unfold toPD at h ⊢
    split at h
    · rename_i xs g
      obtain ⟨ps, e, rfl⟩ := Option.map_eq_some_iff.mp h
      rw [omap_up G n m xs ps (by omega) e]; rfl
    · cases h
  | n + 1, 0, x, p, l, h => by omega
termination_by n => (n, 0)
theorem omap_up (G : DH) : ∀ (n m : Nat) (xs : List DV) (ps : List PyData), n ≤ m → omap (toPD G n) xs = some ps → omap (toPD G m) xs = some ps
  | n, m, [], ps, _, h => h
  | n, m, x :: xs, ps, l, h => by
    unfold omap at h ⊢
    split at h
    · rename_i d ds e1 e2
      cases h
      rw [toPD_up G n m x d l e1, omap_up G n m xs ds l e2]
    · cases h
termination_by n _ xs => (n, xs.length + 1)
end
theorem PDk.up {G : DH} {n m : Nat} {x : DV} (h : PDk G n x) (l : n ≤ m) : PDk G m x := let ⟨p, h1, h2⟩ := h; ⟨p, toPD_up G n m x p l h1, h2⟩
theorem notIn_int {D : Dk} {i : Int} : ∀ a, (DV.int i) = .ref a → ¬ inD D a := fun a e => by cases e
theorem tyk_int {D : Dk} {G : DH} {i : Int} : TyK D G (.int i) := ⟨⟨_, rfl, by decide⟩, notIn_int⟩
/-! ### books -/
abbrev KL := List (Str × Int)
def kvK (K : KL) : List (Key × DV) := K.map fun p => (.inr p.1, .int p.2)
def kindsD (K : KL) : List DV := K.map fun p => .tup [.str p.1, .int p.2]
def look (K : KL) (s : Str) : Option Int := (K.find? fun p => decide (p.1 = s)).map (·.2)
theorem valD_kvK (K : KL) (s : Str) : valD (kvK K) (.inr s) = (look K s).map .int := by
  induction K with
  | nil => rfl
  | cons p K ih =>
    unfold valD look kvK at *
    rw [List.map_cons, List.find?_cons, List.find?_cons]
    by_cases h : p.1 = s
    · simp [h]
    · have : decide ((Sum.inr p.1 : Key) = Sum.inr s) = false := by simp [h]
      rw [this, decide_eq_false h]
      exact ih
abbrev Cn (D : Dk) (G : DH) (a : Addr) (K : KL) : Prop := Kn D G a (.dK (kvK K))
abbrev S_int : DSp := SP (α := Int) (fun D x G ds => ds = [.int x]) (fun D x G v => v = .bl true)
theorem sv_int {C : Nat → DSp} : Serves tabs C f_is_integer S_int := SP.serves fun D x ds G EX P ok e k => by
  subst e
  show denSs tabs C EX _ _ [some _] G
  rw [f_is_integer, e_cons]
  (try simp only [dZ, dG, boR, coR, bfD, bmD, bmT, wipeD, sizeLine, Nat.reduceAdd, Nat.reducePow, Nat.reduceLeDiff, reduceIte, String.reduceBEq])
  exact k _ _ (Ext.refl D G) ok rfl
abbrev S_placeB : DSp := SP (α := Int × Int) (fun D x G ds => ds = [.int x.1, .int x.2] ∧ 0 ≤ x.2 ∧ x.2 < x.1) (fun D x G v => v = .bl true)
theorem sv_placeB {C : Nat → DSp} (h42 : Has C 42 S_int) : Serves tabs C f_is_place_books S_placeB := SP.serves fun D x ds G EX P ok ⟨e, h1, h2⟩ k => by
  obtain ⟨many, i⟩ := x
  subst e
  show denSs tabs C EX _ _ [some _, some _] G
  rw [f_is_place_books, e_cons]
  (try simp only [dZ, dG, boR, coR, bfD, bmD, bmT, wipeD, sizeLine, Nat.reduceAdd, Nat.reducePow, Nat.reduceLeDiff, reduceIte, String.reduceBEq])
  refine SP.use h42 i ok rfl fun v G2 e2 ok2 hv => ?_
  subst hv
  dsimp only at h1 h2
  (try simp only [dZ, dG, boR, coR, bfD, bmD, bmT, wipeD, sizeLine, Nat.reduceAdd, Nat.reducePow, Nat.reduceLeDiff, reduceIte, String.reduceBEq])
  rw [decide_eq_true h1]
  (try simp only [dZ, dG, boR, coR, bfD, bmD, bmT, wipeD, sizeLine, Nat.reduceAdd, Nat.reducePow, Nat.reduceLeDiff, reduceIte, String.reduceBEq])
  rw [decide_eq_true h2]
  exact k _ _ e2 ok2 rfl
abbrev S_single : DSp := SP (α := Addr × KL × Str) (fun D x G ds => ds = [.ref x.1, .str x.2.2] ∧ Cn D G x.1 x.2.1 ∧ x.2.2.length ≤ sizeLine ∧ isWord x.2.2 = true ∧ look x.2.1 x.2.2 = some 1) (fun D x G v => v = .bl true)
theorem bm_get {a : Addr} {kvs : List (Key × DV)} {G : DH} {P : DK} {y : DV} {k : Key} (h : G a = some (.dK kvs)) (hk : keyD y = some k) (p : P ((valD kvs k).getD .non) G) : tyD G (.ref a) = some "dict" ∧ dGet (.ref a) [y] G P :=
  ⟨by unfold tyD; dsimp only; rw [h], a, kvs, rfl, h, .inl ⟨y, k, rfl, hk, p⟩⟩
theorem sv_single {C : Nat → DSp} (h39 : Has C 39 S_word) : Serves tabs C f_is_single S_single := SP.serves fun D x ds G EX P ok ⟨e, h1, h2, h3, h4⟩ k => by
  obtain ⟨c, K, s⟩ := x
  dsimp only at h1 h2 h3 h4
  subst e
  show denSs tabs C EX _ _ [some _, some _] G
  rw [f_is_single, e_cons]
  (try simp only [dZ, dG, boR, coR, bfD, bmD, bmT, wipeD, sizeLine, Nat.reduceAdd, Nat.reducePow, Nat.reduceLeDiff, reduceIte, String.reduceBEq])
  refine SP.use h39 s ok ⟨rfl, h2⟩ fun v G2 e2 ok2 hv => ?_
  subst hv
  rw [h3]
  (try simp only [dZ, dG, boR, coR, bfD, bmD, bmT, wipeD, sizeLine, Nat.reduceAdd, Nat.reducePow, Nat.reduceLeDiff, reduceIte, String.reduceBEq])
  refine bm_get (h1.mono e2).2 rfl ?_
  rw [valD_kvK, h4]
  exact o_eqI (k _ _ e2 ok2 rfl)
def PartS : Str := Str.ofString "part"
def AroundS : Str := Str.ofString "around"
def InsideS : Str := Str.ofString "inside"
def sgl (K : KL) (k : Str) : Prop := isWord k = true ∧ look K k = some 1 ∧ k.length ≤ sizeLine
def NeedOk (K : KL) (many : Int) (x : DV) : Prop := (∃ i, x = .tup [.str PartS, .int i] ∧ 0 ≤ i ∧ i < many) ∨ (∃ k i, x = .tup [.str AroundS, .str k, .int i] ∧ 0 ≤ i ∧ i < many ∧ sgl K k ∧ strOk k = true) ∨ ∃ i k, x = .tup [.str InsideS, .int i, .str k] ∧ 0 ≤ i ∧ i < many ∧ sgl K k ∧ strOk k = true
abbrev S_need : DSp := SP (α := Addr × KL × Int × DV) (fun D x G ds => ds = [.ref x.1, .int x.2.2.1, x.2.2.2] ∧ Cn D G x.1 x.2.1 ∧ NeedOk x.2.1 x.2.2.1 x.2.2.2) (fun D x G v => v = .bl true)
theorem kds_need : tabs.kds.lookup "NEED_SIZES" = some [("part", .int 2), ("around", .int 3), ("inside", .int 3)] := rfl
theorem kd_p : kdAt [("part", .int 2), ("around", .int 3), ("inside", .int 3)] PartS = some (.int 2) := rfl
theorem kd_a : kdAt [("part", .int 2), ("around", .int 3), ("inside", .int 3)] AroundS = some (.int 3) := rfl
theorem kd_i : kdAt [("part", .int 2), ("around", .int 3), ("inside", .int 3)] InsideS = some (.int 3) := rfl

theorem sv_need {C : Nat → DSp} (h43 : Has C 43 S_placeB) (h48 : Has C 48 S_single) : Serves tabs C f_is_need S_need := SP.serves fun D x ds G EX P ok ⟨e, h1, h2⟩ k => by
  obtain ⟨c, K, many, x⟩ := x
  dsimp only at h1 h2
  subst e
  show denSs tabs C EX _ _ [some _, some _, some _] G
  rw [f_is_need]
  rcases h2 with ⟨i, rfl, a1, a2⟩ | ⟨s, i, rfl, a1, a2, a3, a4⟩ | ⟨i, s, rfl, a1, a2, a3, a4⟩
  · ((first | rw [e_cons] | (dsimp only; rw [e_cons])); try simp only [dZ, dG, boR, coR, bfD, bmD, bmT, wipeD, sizeLine, Nat.reduceAdd, Nat.reducePow, Nat.reduceLeDiff, reduceIte, String.reduceBEq])
    refine o_eqE' (fun x hx => ?_) ?_
    · rcases List.mem_cons.mp hx with rfl | hx
      · exact PDk.str (by decide +kernel)
      · rw [List.mem_singleton.mp hx]; exact PDk.int
    rw [List.isEmpty_cons]; (try simp only [dZ, dG, boR, coR, bfD, bmD, bmT, wipeD, sizeLine, Nat.reduceAdd, Nat.reducePow, Nat.reduceLeDiff, reduceIte, String.reduceBEq])
    (rw [e_nil]; dsimp only; rw [e_cons]; try simp only [dZ, dG, boR, coR, bfD, bmD, bmT, wipeD, sizeLine, Nat.reduceAdd, Nat.reducePow, Nat.reduceLeDiff, reduceIte, String.reduceBEq])
    refine ⟨_, _, rfl, kds_need, ?_⟩
    rw [kd_p, Option.getD_some]
    refine o_neI ?_
    (try simp only [dZ, dG, boR, coR, bfD, bmD, bmT, wipeD, sizeLine, Nat.reduceAdd, Nat.reducePow, Nat.reduceLeDiff, reduceIte, String.reduceBEq])
    rw [show (!decide ((2 : Int) = ((1 + 1 : Nat) : Int))) = false from by decide +kernel]
    (try simp only [dZ, dG, boR, coR, bfD, bmD, bmT, wipeD, sizeLine, Nat.reduceAdd, Nat.reducePow, Nat.reduceLeDiff, reduceIte, String.reduceBEq])
    (rw [e_nil]; dsimp only; rw [e_cons]; try simp only [dZ, dG, boR, coR, bfD, bmD, bmT, wipeD, sizeLine, Nat.reduceAdd, Nat.reducePow, Nat.reduceLeDiff, reduceIte, String.reduceBEq])
    refine o_eqS ?_
    rw [show decide (PartS = Str.ofString "part") = true from by decide +kernel]
    (try simp only [dZ, dG, boR, coR, bfD, bmD, bmT, wipeD, sizeLine, Nat.reduceAdd, Nat.reducePow, Nat.reduceLeDiff, reduceIte, String.reduceBEq])
    ((first | rw [e_cons] | (dsimp only; rw [e_cons])); try simp only [dZ, dG, boR, coR, bfD, bmD, bmT, wipeD, sizeLine, Nat.reduceAdd, Nat.reducePow, Nat.reduceLeDiff, reduceIte, String.reduceBEq])
    exact SP.use h43 (many, i) ok ⟨rfl, a1, a2⟩ fun v G2 e2 ok2 hv => k _ _ e2 ok2 hv
  · ((first | rw [e_cons] | (dsimp only; rw [e_cons])); try simp only [dZ, dG, boR, coR, bfD, bmD, bmT, wipeD, sizeLine, Nat.reduceAdd, Nat.reducePow, Nat.reduceLeDiff, reduceIte, String.reduceBEq])
    refine o_eqE' (fun x hx => ?_) ?_
    · rcases List.mem_cons.mp hx with rfl | hx
      · exact PDk.str (by decide +kernel)
      rcases List.mem_cons.mp hx with rfl | hx
      · exact PDk.str a4
      · rw [List.mem_singleton.mp hx]; exact PDk.int
    rw [List.isEmpty_cons]; (try simp only [dZ, dG, boR, coR, bfD, bmD, bmT, wipeD, sizeLine, Nat.reduceAdd, Nat.reducePow, Nat.reduceLeDiff, reduceIte, String.reduceBEq])
    (rw [e_nil]; dsimp only; rw [e_cons]; try simp only [dZ, dG, boR, coR, bfD, bmD, bmT, wipeD, sizeLine, Nat.reduceAdd, Nat.reducePow, Nat.reduceLeDiff, reduceIte, String.reduceBEq])
    refine ⟨_, _, rfl, kds_need, ?_⟩
    rw [kd_a, Option.getD_some]
    refine o_neI ?_
    (try simp only [dZ, dG, boR, coR, bfD, bmD, bmT, wipeD, sizeLine, Nat.reduceAdd, Nat.reducePow, Nat.reduceLeDiff, reduceIte, String.reduceBEq])
    rw [show (!decide ((3 : Int) = ((1 + 1 + 1 : Nat) : Int))) = false from by decide +kernel]
    (try simp only [dZ, dG, boR, coR, bfD, bmD, bmT, wipeD, sizeLine, Nat.reduceAdd, Nat.reducePow, Nat.reduceLeDiff, reduceIte, String.reduceBEq])
    (rw [e_nil]; dsimp only; rw [e_cons]; try simp only [dZ, dG, boR, coR, bfD, bmD, bmT, wipeD, sizeLine, Nat.reduceAdd, Nat.reducePow, Nat.reduceLeDiff, reduceIte, String.reduceBEq])
    refine o_eqS ?_
    rw [show decide (AroundS = Str.ofString "part") = false from by decide +kernel]
    (try simp only [dZ, dG, boR, coR, bfD, bmD, bmT, wipeD, sizeLine, Nat.reduceAdd, Nat.reducePow, Nat.reduceLeDiff, reduceIte, String.reduceBEq])
    (rw [e_nil]; dsimp only; rw [e_cons]; try simp only [dZ, dG, boR, coR, bfD, bmD, bmT, wipeD, sizeLine, Nat.reduceAdd, Nat.reducePow, Nat.reduceLeDiff, reduceIte, String.reduceBEq])
    refine o_eqS ?_
    rw [show decide (AroundS = Str.ofString "around") = true from by decide +kernel]
    (try simp only [dZ, dG, boR, coR, bfD, bmD, bmT, wipeD, sizeLine, Nat.reduceAdd, Nat.reducePow, Nat.reduceLeDiff, reduceIte, String.reduceBEq])
    ((first | rw [e_cons] | (dsimp only; rw [e_cons])); try simp only [dZ, dG, boR, coR, bfD, bmD, bmT, wipeD, sizeLine, Nat.reduceAdd, Nat.reducePow, Nat.reduceLeDiff, reduceIte, String.reduceBEq])
    refine SP.use h48 (c, K, s) ok ⟨rfl, h1, a3.2.2, a3.1, a3.2.1⟩ fun v G2 e2 ok2 hv => ?_
    subst hv
    (try simp only [dZ, dG, boR, coR, bfD, bmD, bmT, wipeD, sizeLine, Nat.reduceAdd, Nat.reducePow, Nat.reduceLeDiff, reduceIte, String.reduceBEq])
    exact SP.use h43 (many, i) ok2 ⟨rfl, a1, a2⟩ fun v G3 e3 ok3 hv => k _ _ (e2.trans e3) ok3 hv
  · ((first | rw [e_cons] | (dsimp only; rw [e_cons])); try simp only [dZ, dG, boR, coR, bfD, bmD, bmT, wipeD, sizeLine, Nat.reduceAdd, Nat.reducePow, Nat.reduceLeDiff, reduceIte, String.reduceBEq])
    refine o_eqE' (fun x hx => ?_) ?_
    · rcases List.mem_cons.mp hx with rfl | hx
      · exact PDk.str (by decide +kernel)
      rcases List.mem_cons.mp hx with rfl | hx
      · exact PDk.int
      · rw [List.mem_singleton.mp hx]; exact PDk.str a4
    rw [List.isEmpty_cons]; (try simp only [dZ, dG, boR, coR, bfD, bmD, bmT, wipeD, sizeLine, Nat.reduceAdd, Nat.reducePow, Nat.reduceLeDiff, reduceIte, String.reduceBEq])
    (rw [e_nil]; dsimp only; rw [e_cons]; try simp only [dZ, dG, boR, coR, bfD, bmD, bmT, wipeD, sizeLine, Nat.reduceAdd, Nat.reducePow, Nat.reduceLeDiff, reduceIte, String.reduceBEq])
    refine ⟨_, _, rfl, kds_need, ?_⟩
    rw [kd_i, Option.getD_some]
    refine o_neI ?_
    (try simp only [dZ, dG, boR, coR, bfD, bmD, bmT, wipeD, sizeLine, Nat.reduceAdd, Nat.reducePow, Nat.reduceLeDiff, reduceIte, String.reduceBEq])
    rw [show (!decide ((3 : Int) = ((1 + 1 + 1 : Nat) : Int))) = false from by decide +kernel]
    (try simp only [dZ, dG, boR, coR, bfD, bmD, bmT, wipeD, sizeLine, Nat.reduceAdd, Nat.reducePow, Nat.reduceLeDiff, reduceIte, String.reduceBEq])
    (rw [e_nil]; dsimp only; rw [e_cons]; try simp only [dZ, dG, boR, coR, bfD, bmD, bmT, wipeD, sizeLine, Nat.reduceAdd, Nat.reducePow, Nat.reduceLeDiff, reduceIte, String.reduceBEq])
    refine o_eqS ?_
    rw [show decide (InsideS = Str.ofString "part") = false from by decide +kernel]
    (try simp only [dZ, dG, boR, coR, bfD, bmD, bmT, wipeD, sizeLine, Nat.reduceAdd, Nat.reducePow, Nat.reduceLeDiff, reduceIte, String.reduceBEq])
    (rw [e_nil]; dsimp only; rw [e_cons]; try simp only [dZ, dG, boR, coR, bfD, bmD, bmT, wipeD, sizeLine, Nat.reduceAdd, Nat.reducePow, Nat.reduceLeDiff, reduceIte, String.reduceBEq])
    refine o_eqS ?_
    rw [show decide (InsideS = Str.ofString "around") = false from by decide +kernel]
    (try simp only [dZ, dG, boR, coR, bfD, bmD, bmT, wipeD, sizeLine, Nat.reduceAdd, Nat.reducePow, Nat.reduceLeDiff, reduceIte, String.reduceBEq])
    (rw [e_nil]; dsimp only; rw [e_cons]; try simp only [dZ, dG, boR, coR, bfD, bmD, bmT, wipeD, sizeLine, Nat.reduceAdd, Nat.reducePow, Nat.reduceLeDiff, reduceIte, String.reduceBEq])
    refine SP.use h43 (many, i) ok ⟨rfl, a1, a2⟩ fun v G2 e2 ok2 hv => ?_
    subst hv
    (try simp only [dZ, dG, boR, coR, bfD, bmD, bmT, wipeD, sizeLine, Nat.reduceAdd, Nat.reducePow, Nat.reduceLeDiff, reduceIte, String.reduceBEq])
    exact SP.use h48 (c, K, s) ok2 ⟨rfl, h1.mono e2, a3.2.2, a3.1, a3.2.1⟩ fun v G3 e3 ok3 hv => k _ _ (e2.trans e3) ok3 hv
/-! openings, kinds -/
structure OpOk (K : KL) (nm : Str) (x : DV) : Prop where
  ex : ∃ kd g needs many, x = .tup [.str nm, .str kd, .int g, .tup needs] ∧ isWord kd = true ∧ kd.length ≤ sizeLine ∧ look K kd = some many ∧ 0 ≤ g ∧ g < many ∧ needs.length ≤ 2 ∧ ∀ y ∈ needs, NeedOk K many y
  wd : isWord nm = true
  ln : nm.length ≤ sizeLine
  no : look K nm = none
abbrev S_opening : DSp := SP (α := Addr × KL × Str × DV) (fun D x G ds => ds = [.ref x.1, x.2.2.2] ∧ Cn D G x.1 x.2.1 ∧ OpOk x.2.1 x.2.2.1 x.2.2.2) (fun D x G v => v = .bl true)
theorem sv_opening {C : Nat → DSp} (h39 : Has C 39 S_word) (h43 : Has C 43 S_placeB) (h44 : Has C 44 S_need) : Serves tabs C f_is_opening S_opening := SP.serves fun D x ds G EX P ok ⟨e, h1, h2⟩ k => by
  obtain ⟨c, K, nm, x⟩ := x
  dsimp only at h1 h2
  obtain ⟨⟨kd, g, needs, many, rfl, a1, a2, a3, a4, a5, a6, a7⟩, b1, b2, b3⟩ := h2
  subst e
  show denSs tabs C EX _ _ [some _, some _, none, none, none, none, none, none] G
  rw [f_is_opening, e_cons]
  (try simp only [dZ, dG, boR, coR, bfD, bmD, bmT, wipeD, sizeLine, Nat.reduceAdd, Nat.reducePow, Nat.reduceLeDiff, reduceIte, String.reduceBEq])
  refine o_neI ?_
  rw [show (!decide ((((1 + 1 + 1 + 1 : Nat)) : Int) = 4)) = false from by decide +kernel]
  (try simp only [dZ, dG, boR, coR, bfD, bmD, bmT, wipeD, sizeLine, Nat.reduceAdd, Nat.reducePow, Nat.reduceLeDiff, reduceIte, String.reduceBEq])
  (rw [e_nil]; dsimp only; rw [e_cons]; try simp only [dZ, dG, boR, coR, bfD, bmD, bmT, wipeD, sizeLine, Nat.reduceAdd, Nat.reducePow, Nat.reduceLeDiff, reduceIte, String.reduceBEq])
  ((first | rw [e_cons] | (dsimp only; rw [e_cons])); try simp only [dZ, dG, boR, coR, bfD, bmD, bmT, wipeD, sizeLine, Nat.reduceAdd, Nat.reducePow, Nat.reduceLeDiff, reduceIte, String.reduceBEq])
  refine SP.use h39 nm ok ⟨rfl, b2⟩ fun v G2 e2 ok2 hv => ?_
  subst hv
  rw [b1]; (try simp only [dZ, dG, boR, coR, bfD, bmD, bmT, wipeD, sizeLine, Nat.reduceAdd, Nat.reducePow, Nat.reduceLeDiff, reduceIte, String.reduceBEq])
  have h1' := h1.mono e2
  rw [o_inD h1'.2]
  refine ⟨_, rfl, ?_⟩
  rw [valD_kvK, b3]
  (try simp only [dZ, dG, boR, coR, bfD, bmD, bmT, wipeD, sizeLine, Nat.reduceAdd, Nat.reducePow, Nat.reduceLeDiff, reduceIte, String.reduceBEq])
  rw [show (Option.map DV.int none).isSome = false from rfl]
  (try simp only [dZ, dG, boR, coR, bfD, bmD, bmT, wipeD, sizeLine, Nat.reduceAdd, Nat.reducePow, Nat.reduceLeDiff, reduceIte, String.reduceBEq])
  refine SP.use h39 kd ok2 ⟨rfl, a2⟩ fun v G3 e3 ok3 hv => ?_
  subst hv
  rw [a1]; (try simp only [dZ, dG, boR, coR, bfD, bmD, bmT, wipeD, sizeLine, Nat.reduceAdd, Nat.reducePow, Nat.reduceLeDiff, reduceIte, String.reduceBEq])
  have h1'' := h1'.mono e3
  rw [o_inD h1''.2]
  refine ⟨_, rfl, ?_⟩
  rw [valD_kvK, a3]
  rw [show (Option.map DV.int (some many)).isSome = true from rfl]
  (try simp only [dZ, dG, boR, coR, bfD, bmD, bmT, wipeD, sizeLine, Nat.reduceAdd, Nat.reducePow, Nat.reduceLeDiff, reduceIte, String.reduceBEq])
  (rw [e_nil]; dsimp only; rw [e_cons]; try simp only [dZ, dG, boR, coR, bfD, bmD, bmT, wipeD, sizeLine, Nat.reduceAdd, Nat.reducePow, Nat.reduceLeDiff, reduceIte, String.reduceBEq])
  rw [o_ixD h1''.2]
  refine ⟨_, _, rfl, by rw [valD_kvK, a3]; rfl, ?_⟩
  ((first | rw [e_cons] | (dsimp only; rw [e_cons])); try simp only [dZ, dG, boR, coR, bfD, bmD, bmT, wipeD, sizeLine, Nat.reduceAdd, Nat.reducePow, Nat.reduceLeDiff, reduceIte, String.reduceBEq])
  refine SP.use h43 (many, g) ok3 ⟨rfl, a4, a5⟩ fun v G4 e4 ok4 hv => ?_
  subst hv
  (try simp only [dZ, dG, boR, coR, bfD, bmD, bmT, wipeD, sizeLine, Nat.reduceAdd, Nat.reducePow, Nat.reduceLeDiff, reduceIte, String.reduceBEq])
  rw [show decide ((2 : Int) < needs.length) = false from decide_eq_false (by omega)]
  (try simp only [dZ, dG, boR, coR, bfD, bmD, bmT, wipeD, sizeLine, Nat.reduceAdd, Nat.reducePow, Nat.reduceLeDiff, reduceIte, String.reduceBEq])
  (rw [e_nil]; dsimp only; rw [e_cons]; try simp only [dZ, dG, boR, coR, bfD, bmD, bmT, wipeD, sizeLine, Nat.reduceAdd, Nat.reducePow, Nat.reduceLeDiff, reduceIte, String.reduceBEq])
  refine LcK.all (D := D) (fun _ => true) ok4 (by have : sizeLine = 16777216 := rfl; omega) (fun _ _ => by trivial) (fun x hx => ?_) fun G5 e5 ok5 => k _ _ (e2.trans (e3.trans (e4.trans e5))) ok5 (by simp)
  (try simp only [dZ, dG, boR, coR, bfD, bmD, bmT, wipeD, sizeLine, Nat.reduceAdd, Nat.reducePow, Nat.reduceLeDiff, reduceIte, String.reduceBEq])
  exact fun G5 e5 ok5 K1 K2 k1 => SP.use h44 (c, K, many, x) ok5 ⟨rfl, h1''.mono (e4.trans e5), a7 x hx⟩ fun v G6 e6 ok6 hv => by subst hv; exact k1 G6 e6 ok6
abbrev S_openings : DSp := SP (α := Addr × KL × List Str × List DV) (fun D x G ds => ds = [.ref x.1, .tup x.2.2.2] ∧ Cn D G x.1 x.2.1 ∧ x.2.2.2.length < sizeLine ∧ ascS x.2.2.1 = true ∧ x.2.2.1.length = x.2.2.2.length ∧ ∀ p ∈ x.2.2.1.zip x.2.2.2, OpOk x.2.1 p.1 p.2) (fun D x G v => v = .bl true)
def fst4 : DV → DV
  | .tup (a :: _) => a
  | _ => .non
theorem zip_mem_right {α β : Type} : ∀ {l : List α} {m : List β} {b : β}, l.length = m.length → b ∈ m → ∃ a, (a, b) ∈ l.zip m
  | [], [], b, _, h => nomatch h
  | a :: l, c :: m, b, e, h => by
    rcases List.mem_cons.mp h with rfl | h
    · exact ⟨a, List.mem_cons_self⟩
    · obtain ⟨a', h'⟩ := zip_mem_right (by simpa using e) h
      exact ⟨a', List.mem_cons_of_mem _ h'⟩
theorem map_zip {α β γ : Type} {f : β → γ} {g : α → γ} : ∀ {l : List α} {m : List β}, l.length = m.length → (∀ p ∈ l.zip m, f p.2 = g p.1) → m.map f = l.map g
  | [], [], _, _ => rfl
  | a :: l, b :: m, e, h => by
    rw [List.map_cons, List.map_cons, h (a, b) List.mem_cons_self, map_zip (by simpa using e) fun p hp => h p (List.mem_cons_of_mem _ hp)]
theorem sv_openings {C : Nat → DSp} (h38 : Has C 38 S_opening) (h36 : Has C 36 S_ascI) : Serves tabs C f_are_openings S_openings := SP.serves fun D x ds G EX P ok ⟨e, h1, h2, h3, h4, h5⟩ k => by
  obtain ⟨c, K, nms, ops⟩ := x
  dsimp only at h1 h2 h3 h4 h5
  subst e
  show denSs tabs C EX _ _ [some _, some _, none] G
  rw [f_are_openings, e_cons]
  (try simp only [dZ, dG, boR, coR, bfD, bmD, bmT, wipeD, sizeLine, Nat.reduceAdd, Nat.reducePow, Nat.reduceLeDiff, reduceIte, String.reduceBEq])
  refine LcK.all (D := D) (fun _ => true) ok h2 (fun _ _ => by trivial) (fun x hx => ?_) fun G2 e2 ok2 => ?_
  · obtain ⟨nm, hm⟩ := zip_mem_right h4 hx
    (try simp only [dZ, dG, boR, coR, bfD, bmD, bmT, wipeD, sizeLine, Nat.reduceAdd, Nat.reducePow, Nat.reduceLeDiff, reduceIte, String.reduceBEq])
    exact fun G5 e5 ok5 K1 K2 k1 => SP.use h38 (c, K, nm, x) ok5 ⟨rfl, h1.mono e5, h5 _ hm⟩ fun v G6 e6 ok6 hv => by subst hv; exact k1 G6 e6 ok6
  rw [show (ops.all fun _ => true) = true from by simp]
  (try simp only [dZ, dG, boR, coR, bfD, bmD, bmT, wipeD, sizeLine, Nat.reduceAdd, Nat.reducePow, Nat.reduceLeDiff, reduceIte, String.reduceBEq])
  (rw [e_nil]; dsimp only; rw [e_cons]; try simp only [dZ, dG, boR, coR, bfD, bmD, bmT, wipeD, sizeLine, Nat.reduceAdd, Nat.reducePow, Nat.reduceLeDiff, reduceIte, String.reduceBEq])
  refine LcK.map (D := D) fst4 (fun _ => true) ok2 h2 (fun _ _ => by trivial) (fun x hx => ?_) fun p G3 e3 ok3 kn _ => ?_
  · obtain ⟨nm, hm⟩ := zip_mem_right h4 hx
    obtain ⟨⟨kd, g, needs, many, ex, _⟩, _⟩ := h5 _ hm
    dsimp only at ex
    subst ex
    (try simp only [dZ, dG, boR, coR, bfD, bmD, bmT, wipeD, sizeLine, Nat.reduceAdd, Nat.reducePow, Nat.reduceLeDiff, reduceIte, String.reduceBEq])
    exact fun G1 e1 ok1 K1 K2 k1 _ => k1 G1 (Ext.refl D G1) ok1 trivial
  rw [List.filter_eq_self.mpr (fun _ _ => rfl), map_zip (g := DV.str) h4 (fun p hp => by obtain ⟨⟨kd, g, needs, many, e, _⟩, _⟩ := h5 _ hp; rw [e]; rfl)] at kn
  exact SP.use h36 (.inr (p, nms)) ok3 ⟨rfl, kn, by rw [h4]; exact h2⟩ fun v G4 e4 ok4 hv => k _ _ (e2.trans (e3.trans e4)) ok4 (by rw [hv]; show DV.bl (ascS nms) = _; rw [h3])
end DL
end
section
set_option Elab.async false
set_option linter.all false
set_option maxRecDepth 100000
set_option autoImplicit false
namespace DL
open PySem PySem.Spec PyProof.Rows L2
open PySem.PyData (strOk)
abbrev S_kind : DSp := SP (α := Str × Int) (fun D x G ds => ds = [.tup [.str x.1, .int x.2]] ∧ isWord x.1 = true ∧ x.1.length ≤ sizeLine ∧ 1 ≤ x.2 ∧ x.2 ≤ 3) (fun D x G v => v = .bl true)
theorem sv_kind {C : Nat → DSp} (h39 : Has C 39 S_word) (h42 : Has C 42 S_int) : Serves tabs C f_is_kind S_kind := SP.serves fun D x ds G EX P ok ⟨e, h1, h2, h3, h4⟩ k => by
  obtain ⟨s, m⟩ := x
  dsimp only at h1 h2 h3 h4
  subst e
  show denSs tabs C EX _ _ [some _] G
  rw [f_is_kind]
  ((first | rw [e_cons] | (dsimp only; rw [e_cons])); try simp only [dZ, dG, boR, coR, bfD, bmD, bmT, wipeD, sizeLine, Nat.reduceAdd, Nat.reducePow, Nat.reduceLeDiff, reduceIte, String.reduceBEq])
  refine o_neI ?_
  rw [show (!decide ((((1 + 1 : Nat)) : Int) = 2)) = false from by decide]
  (try simp only [dZ, dG, boR, coR, bfD, bmD, bmT, wipeD, sizeLine, Nat.reduceAdd, Nat.reducePow, Nat.reduceLeDiff, reduceIte, String.reduceBEq])
  refine SP.use h39 s ok ⟨rfl, h2⟩ fun v G2 e2 ok2 hv => ?_
  subst hv
  rw [h1]; (try simp only [dZ, dG, boR, coR, bfD, bmD, bmT, wipeD, sizeLine, Nat.reduceAdd, Nat.reducePow, Nat.reduceLeDiff, reduceIte, String.reduceBEq])
  (rw [e_nil]; dsimp only; rw [e_cons]; try simp only [dZ, dG, boR, coR, bfD, bmD, bmT, wipeD, sizeLine, Nat.reduceAdd, Nat.reducePow, Nat.reduceLeDiff, reduceIte, String.reduceBEq])
  refine SP.use h42 m ok2 rfl fun v G3 e3 ok3 hv => ?_
  subst hv
  (try simp only [dZ, dG, boR, coR, bfD, bmD, bmT, wipeD, sizeLine, Nat.reduceAdd, Nat.reducePow, Nat.reduceLeDiff, reduceIte, String.reduceBEq])
  rw [decide_eq_true h3]; (try simp only [dZ, dG, boR, coR, bfD, bmD, bmT, wipeD, sizeLine, Nat.reduceAdd, Nat.reducePow, Nat.reduceLeDiff, reduceIte, String.reduceBEq])
  rw [decide_eq_true h4]
  exact k _ _ (e2.trans e3) ok3 rfl
structure KOk (K : KL) : Prop where
  ne : K ≠ []
  len : K.length ≤ 100
  ok : ∀ p ∈ K, isWord p.1 = true ∧ p.1.length ≤ sizeLine ∧ strOk p.1 = true ∧ 1 ≤ p.2 ∧ p.2 ≤ 3
  asc : ascS (K.map (·.1)) = true
  mrg : mergeD [] (kvK K) = kvK K
theorem sz100 {n : Nat} (h : n ≤ 100) : n < sizeLine := by have : sizeLine = 16777216 := rfl; omega
def fstD : DV → DV
  | .tup (a :: _) => a
  | _ => .non
abbrev S_kinds : DSp := SP (α := KL) (fun D K G ds => ds = [.tup (kindsD K)] ∧ KOk K) (fun D x G v => v = .bl true)
theorem mem_kinds {K : KL} {x : DV} (h : x ∈ kindsD K) : ∃ p ∈ K, x = .tup [.str p.1, .int p.2] := by
  obtain ⟨p, hp, e⟩ := List.mem_map.mp h
  exact ⟨p, hp, e.symm⟩
theorem sv_kinds {C : Nat → DSp} (h37 : Has C 37 S_kind) (h36 : Has C 36 S_ascI) : Serves tabs C f_are_kinds S_kinds := SP.serves fun D K ds G EX P ok ⟨e, O⟩ k => by
  subst e
  show denSs tabs C EX _ _ [some _, none, none, none] G
  rw [f_are_kinds]
  have hl : (kindsD K).length ≤ 100 := by unfold kindsD; rw [List.length_map]; exact O.len
  ((first | rw [e_cons] | (dsimp only; rw [e_cons])); try simp only [dZ, dG, boR, coR, bfD, bmD, bmT, wipeD, sizeLine, Nat.reduceAdd, Nat.reducePow, Nat.reduceLeDiff, reduceIte, String.reduceBEq])
  refine o_eqE' (fun x hx => ?_) ?_
  · obtain ⟨p, hp, rfl⟩ := mem_kinds hx
    refine PDk.tup fun y hy => ?_
    rcases List.mem_cons.mp hy with rfl | hy
    · exact PDk.str (O.ok p hp).2.2.1
    · rw [List.mem_singleton.mp hy]; exact PDk.int
  rw [show (kindsD K).isEmpty = false from by
    cases K with
    | nil => exact absurd rfl O.ne
    | cons p K => rfl]
  (try simp only [dZ, dG, boR, coR, bfD, bmD, bmT, wipeD, sizeLine, Nat.reduceAdd, Nat.reducePow, Nat.reduceLeDiff, reduceIte, String.reduceBEq])
  refine LcK.all (D := D) (fun _ => true) ok (sz100 hl) (fun _ _ => by trivial) (fun x hx => ?_) fun G2 e2 ok2 => ?_
  · obtain ⟨p, hp, rfl⟩ := mem_kinds hx
    have o := O.ok p hp
    (try simp only [dZ, dG, boR, coR, bfD, bmD, bmT, wipeD, sizeLine, Nat.reduceAdd, Nat.reducePow, Nat.reduceLeDiff, reduceIte, String.reduceBEq])
    exact fun G5 e5 ok5 K1 K2 k1 => SP.use h37 p ok5 ⟨rfl, o.1, o.2.1, o.2.2.2⟩ fun v G6 e6 ok6 hv => by subst hv; exact k1 G6 e6 ok6
  rw [show ((kindsD K).all fun _ => true) = true from by simp]
  (try simp only [dZ, dG, boR, coR, bfD, bmD, bmT, wipeD, sizeLine, Nat.reduceAdd, Nat.reducePow, Nat.reduceLeDiff, reduceIte, String.reduceBEq])
  (rw [e_nil]; dsimp only; rw [e_cons]; try simp only [dZ, dG, boR, coR, bfD, bmD, bmT, wipeD, sizeLine, Nat.reduceAdd, Nat.reducePow, Nat.reduceLeDiff, reduceIte, String.reduceBEq])
  refine LcK.map (D := D) fstD (fun _ => true) ok2 (sz100 hl) (fun _ _ => by trivial) (fun x hx => ?_) fun p G3 e3 ok3 kn _ => ?_
  · obtain ⟨p, hp, rfl⟩ := mem_kinds hx
    (try simp only [dZ, dG, boR, coR, bfD, bmD, bmT, wipeD, sizeLine, Nat.reduceAdd, Nat.reducePow, Nat.reduceLeDiff, reduceIte, String.reduceBEq])
    exact fun G1 e1 ok1 K1 K2 k1 _ => k1 G1 (Ext.refl D G1) ok1 trivial
  rw [List.filter_eq_self.mpr (fun _ _ => rfl), show (kindsD K).map fstD = (K.map (·.1)).map .str from by unfold kindsD; rw [List.map_map, List.map_map]; rfl] at kn
  exact SP.use h36 (.inr (p, K.map (·.1))) ok3 ⟨rfl, kn, by rw [List.length_map]; exact sz100 O.len⟩ fun v G4 e4 ok4 hv => k _ _ (e2.trans (e3.trans e4)) ok4 (by rw [hv]; show DV.bl (ascS _) = _; rw [O.asc])
/-! ### things -/
inductive Thing (K : KL) : Nat → DV → Prop
  | leaf {n : Nat} {s : Str} : (isWord s || isName s) = true → s.length ≤ 100 → strOk s = true → Thing K n (.str s)
  | node {n : Nat} {kd : Str} {m : Int} {parts : List DV} : isWord kd = true → kd.length ≤ 100 → strOk kd = true → look K kd = some m → (parts.length : Int) = m → m ≤ 100 → (∀ p ∈ parts, Thing K n p) → Thing K (n + 1) (.tup (.str kd :: parts))
theorem Thing.up {K : KL} {n m : Nat} {x : DV} (h : Thing K n x) : n ≤ m → Thing K m x := by
  induction h generalizing m with
  | leaf a b c => exact fun _ => .leaf a b c
  | node a b c d e f g ih =>
      intro l
      obtain ⟨m, rfl⟩ : ∃ m', m = m' + 1 := ⟨m - 1, by omega⟩
      exact .node a b c d e f fun p hp => ih p hp (by omega)
theorem Thing.pd {K : KL} {n : Nat} {x : DV} {G : DH} (h : Thing K n x) : PDk G n x := by
  induction h with
  | leaf a b c => exact PDk.str c
  | node a b c d e f g ih =>
      refine PDk.tup fun y hy => ?_
      rcases List.mem_cons.mp hy with rfl | hy
      · exact PDk.str c
      · exact ih y hy
theorem Thing.noRef {K : KL} {n : Nat} {x : DV} (h : Thing K n x) : isNonD x = false := by cases h <;> rfl
abbrev S_thingBy (n : Nat) : DSp := SP (α := Addr × KL × DV) (fun D x G ds => ds = [.ref x.1, x.2.2] ∧ Cn D G x.1 x.2.1 ∧ Thing x.2.1 n x.2.2 ∧ n ≤ 50) (fun D x G v => v = .bl true)
theorem sz101 {n : Nat} (h : n ≤ 100) : n ≤ sizeLine := Nat.le_of_lt (sz100 h)
theorem sv_thingBy {C : Nat → DSp} (n : Nat) (h39 : Has C 39 S_word) (h47 : Has C 47 S_name) (h41 : ∀ m, m < n → Has C 41 (S_thingBy m)) : Serves tabs C f_is_thing_by (S_thingBy n) := SP.serves fun D x ds G EX P ok ⟨e, h1, h2, h3⟩ k => by
  obtain ⟨c, K, x⟩ := x
  dsimp only at h1 h2
  subst e
  show denSs tabs C EX _ _ [some _, some _, none] G
  rw [f_is_thing_by]
  cases h2 with
  | @leaf _ s a b d =>
    ((first | rw [e_cons] | (dsimp only; rw [e_cons])); try simp only [dZ, dG, boR, coR, bfD, bmD, bmT, wipeD, sizeLine, Nat.reduceAdd, Nat.reducePow, Nat.reduceLeDiff, reduceIte, String.reduceBEq])
    ((first | rw [e_cons] | (dsimp only; rw [e_cons])); try simp only [dZ, dG, boR, coR, bfD, bmD, bmT, wipeD, sizeLine, Nat.reduceAdd, Nat.reducePow, Nat.reduceLeDiff, reduceIte, String.reduceBEq])
    refine SP.use h39 s ok ⟨rfl, sz101 b⟩ fun v G2 e2 ok2 hv => ?_
    subst hv
    (try simp only [dZ, dG, boR, coR, bfD, bmD, bmT, wipeD, sizeLine, Nat.reduceAdd, Nat.reducePow, Nat.reduceLeDiff, reduceIte, String.reduceBEq])
    split
    · exact k _ _ e2 ok2 rfl
    · rename_i hw
      refine SP.use h47 s ok2 ⟨rfl, sz101 b⟩ fun v G3 e3 ok3 hv => k _ _ (e2.trans e3) ok3 ?_
      rw [hv]
      rw [Bool.not_eq_true] at hw
      rw [hw, Bool.false_or] at a
      rw [a]
  | @node n kd m parts a b d l pl m1 hp =>
    ((first | rw [e_cons] | (dsimp only; rw [e_cons])); try simp only [dZ, dG, boR, coR, bfD, bmD, bmT, wipeD, sizeLine, Nat.reduceAdd, Nat.reducePow, Nat.reduceLeDiff, reduceIte, String.reduceBEq])
    (rw [e_nil]; dsimp only; rw [e_cons]; try simp only [dZ, dG, boR, coR, bfD, bmD, bmT, wipeD, sizeLine, Nat.reduceAdd, Nat.reducePow, Nat.reduceLeDiff, reduceIte, String.reduceBEq])
    refine o_eqE' (fun y hy => ?_) ?_
    · rcases List.mem_cons.mp hy with rfl | hy
      · exact PDk.str d
      · exact (hp y hy).pd.up (by omega)
    rw [List.isEmpty_cons]; (try simp only [dZ, dG, boR, coR, bfD, bmD, bmT, wipeD, sizeLine, Nat.reduceAdd, Nat.reducePow, Nat.reduceLeDiff, reduceIte, String.reduceBEq])
    refine SP.use h39 kd ok ⟨rfl, sz101 b⟩ fun v G2 e2 ok2 hv => ?_
    subst hv
    rw [a]; (try simp only [dZ, dG, boR, coR, bfD, bmD, bmT, wipeD, sizeLine, Nat.reduceAdd, Nat.reducePow, Nat.reduceLeDiff, reduceIte, String.reduceBEq])
    have h1' := h1.mono e2
    refine bm_get h1'.2 rfl ?_
    rw [valD_kvK, l, Option.map_some, Option.getD_some]
    refine o_neI ?_
    rw [show (!decide (m = ((parts.length + 1 : Nat) : Int) - 1)) = false from by simp; omega]
    (try simp only [dZ, dG, boR, coR, bfD, bmD, bmT, wipeD, sizeLine, Nat.reduceAdd, Nat.reducePow, Nat.reduceLeDiff, reduceIte, String.reduceBEq])
    (rw [e_nil]; dsimp only; rw [e_cons]; try simp only [dZ, dG, boR, coR, bfD, bmD, bmT, wipeD, sizeLine, Nat.reduceAdd, Nat.reducePow, Nat.reduceLeDiff, reduceIte, String.reduceBEq])
    rw [cut_1, List.tail_cons]
    refine LcK.all (D := D) (fun _ => true) ok2 (sz100 (by omega)) (fun _ _ => by trivial) (fun x hx => ?_) fun G3 e3 ok3 => k _ _ (e2.trans e3) ok3 (by simp)
    (try simp only [dZ, dG, boR, coR, bfD, bmD, bmT, wipeD, sizeLine, Nat.reduceAdd, Nat.reducePow, Nat.reduceLeDiff, reduceIte, String.reduceBEq])
    exact fun G5 e5 ok5 K1 K2 k1 => SP.use (h41 n (by omega)) (c, K, x) ok5 ⟨rfl, h1'.mono e5, hp x hx, by omega⟩ fun v G6 e6 ok6 hv => by subst hv; exact k1 G6 e6 ok6
/-- a book with these kinds -/
def BookK (D : Dk) (G : DH) (b : Addr) (K : KL) : Prop := ∃ fs c, Kn D G b (.ins "Book" fs) ∧ fs.lookup "counts" = some (.ref c) ∧ fs.lookup "is_thing" = none ∧ Cn D G c K
theorem BookK.mono {D : Dk} {G G1 : DH} {b : Addr} {K : KL} (h : BookK D G b K) (e : Ext D G G1) : BookK D G1 b K := let ⟨fs, c, h1, h2, h3, h4⟩ := h; ⟨fs, c, h1.mono e, h2, h3, h4.mono e⟩
theorem c_counts : "Book" ∈ tabs.clsOf "counts" := by decide +kernel
abbrev TD : Nat := 4
abbrev S_isThing : DSp := SP (α := Addr × KL × DV) (fun D x G ds => ds = [.ref x.1, x.2.2] ∧ BookK D G x.1 x.2.1 ∧ Thing x.2.1 TD x.2.2) (fun D x G v => v = .bl true)
theorem sv_isThing {C : Nat → DSp} (h41 : Has C 41 (S_thingBy TD)) : Serves tabs C f_Book_is_thing S_isThing := SP.serves fun D x ds G EX P ok ⟨e, h1, h2⟩ k => by
  obtain ⟨b, K, x⟩ := x
  obtain ⟨fs, c, a1, a2, a3, a4⟩ := h1
  subst e
  show denSs tabs C EX _ _ [some _, some _] G
  rw [f_Book_is_thing]
  ((first | rw [e_cons] | (dsimp only; rw [e_cons])); try simp only [dZ, dG, boR, coR, bfD, bmD, bmT, wipeD, sizeLine, Nat.reduceAdd, Nat.reducePow, Nat.reduceLeDiff, reduceIte, String.reduceBEq])
  exact ⟨_, _, _, _, rfl, a1.2, c_counts, a2, SP.use h41 (c, K, x) ok ⟨rfl, a4, h2, by decide⟩ fun v G2 e2 ok2 hv => k _ _ e2 ok2 hv⟩
/-- is_thing called on a book -/
theorem own_thing {C : Nat → DSp} {D : Dk} {G : DH} {b : Addr} {K : KL} {x : DV} {P : DK} {EX : DXK} {G1 : DH} (h35 : Has C 35 S_isThing) (hb : BookK D G b K) (hx : Thing K TD x) (ok : okD D G) (k : ∀ G2, Ext D G G2 → okD D G2 → P (.bl true) G2) :
    ∃ a fs, DV.ref b = .ref a ∧ G a = some (.ins "Book" fs) ∧ fs.lookup "is_thing" = none ∧ C 35 [.ref b, x] G P EX := by
  obtain ⟨fs, c, a1, a2, a3, a4⟩ := hb
  exact ⟨b, fs, rfl, a1.2, a3, SP.use h35 (b, K, x) ok ⟨rfl, ⟨fs, c, a1, a2, a3, a4⟩, hx⟩ fun v G2 e2 ok2 hv => by subst hv; exact k G2 e2 ok2⟩
/-! ### circles -/
abbrev S_members : DSp := SP (α := Int × List Int) (fun D x G ds => ds = [.int x.1, .tup (x.2.map .int)] ∧ x.2 ≠ [] ∧ x.2.length ≤ 100 ∧ (∀ i ∈ x.2, 0 ≤ i ∧ i < x.1) ∧ ascI x.2 = true) (fun D x G v => v = .bl true)
theorem sv_members {C : Nat → DSp} (h30 : Has C 30 S_place) (h33 : Has C 33 S_ascI) : Serves tabs C f_are_members S_members := SP.serves fun D x ds G EX P ok ⟨e, h1, h2, h3, h4⟩ k => by
  obtain ⟨many, is⟩ := x
  dsimp only at h1 h2 h3 h4
  subst e
  show denSs tabs C EX _ _ [some _, some _, none] G
  rw [f_are_members]
  ((first | rw [e_cons] | (dsimp only; rw [e_cons])); try simp only [dZ, dG, boR, coR, bfD, bmD, bmT, wipeD, sizeLine, Nat.reduceAdd, Nat.reducePow, Nat.reduceLeDiff, reduceIte, String.reduceBEq])
  refine o_eqE' (fun y hy => ?_) ?_
  · obtain ⟨i, _, rfl⟩ := List.mem_map.mp hy
    exact PDk.int
  rw [show (is.map DV.int).isEmpty = false from by
    cases is with
    | nil => exact absurd rfl h1
    | cons p K => rfl]
  (try simp only [dZ, dG, boR, coR, bfD, bmD, bmT, wipeD, sizeLine, Nat.reduceAdd, Nat.reducePow, Nat.reduceLeDiff, reduceIte, String.reduceBEq])
  refine LcK.all (D := D) (isPlace many) ok (sz100 (by simpa using h2)) (fun _ _ => by trivial) (fun x hx => ?_) fun G2 e2 ok2 => ?_
  · obtain ⟨i, hi, rfl⟩ := List.mem_map.mp hx
    (try simp only [dZ, dG, boR, coR, bfD, bmD, bmT, wipeD, sizeLine, Nat.reduceAdd, Nat.reducePow, Nat.reduceLeDiff, reduceIte, String.reduceBEq])
    exact fun G5 e5 ok5 K1 K2 k1 => SP.use h30 (many, .int i) ok5 ⟨rfl, tyk_int⟩ fun v G6 e6 ok6 hv => by subst hv; exact k1 G6 e6 ok6
  rw [show ((is.map DV.int).all (isPlace many)) = true from List.all_eq_true.mpr fun x hx => by
    obtain ⟨i, hi, rfl⟩ := List.mem_map.mp hx
    simp [isPlace, h3 i hi]]
  (try simp only [dZ, dG, boR, coR, bfD, bmD, bmT, wipeD, sizeLine, Nat.reduceAdd, Nat.reducePow, Nat.reduceLeDiff, reduceIte, String.reduceBEq])
  (rw [e_nil]; dsimp only; rw [e_cons]; try simp only [dZ, dG, boR, coR, bfD, bmD, bmT, wipeD, sizeLine, Nat.reduceAdd, Nat.reducePow, Nat.reduceLeDiff, reduceIte, String.reduceBEq])
  exact SP.use h33 (.inl is) ok2 ⟨rfl, sz100 h2⟩ fun v G4 e4 ok4 hv => k _ _ (e2.trans e4) ok4 (by rw [hv]; show DV.bl (ascI _) = _; rw [h4])
def ShowOk (K : KL) (members : Int) (x : DV) : Prop := x = .non ∨ ∃ t is, x = .tup [t, .tup (is.map DV.int)] ∧ Thing K TD t ∧ is ≠ [] ∧ is.length ≤ 100 ∧ (∀ i ∈ is, 0 ≤ i ∧ i < members) ∧ ascI is = true
def MoveOk (K : KL) (members states : Int) (x : DV) : Prop := x = .non ∨ ∃ i s, x = .tup [.int i, s] ∧ 0 ≤ i ∧ i < states ∧ ShowOk K members s
structure DeedOk (K : KL) (members states : Int) (nm : Str) (x : DV) : Prop where
  ex : ∃ o need moves, x = .tup [.str nm, .int o, need, .tup moves] ∧ 0 ≤ o ∧ o < members ∧ (need = .non ∨ Thing K TD need) ∧ (moves.length : Int) = states ∧ moves.length ≤ 100 ∧ ∀ m ∈ moves, MoveOk K members states m
  wd : isWord nm = true
  ln : nm.length ≤ 100
  so : strOk nm = true
abbrev S_show : DSp := SP (α := Addr × KL × Int × DV) (fun D x G ds => ds = [.ref x.1, .int x.2.2.1, x.2.2.2] ∧ BookK D G x.1 x.2.1 ∧ ShowOk x.2.1 x.2.2.1 x.2.2.2) (fun D x G v => v = .bl true)
theorem sv_show {C : Nat → DSp} (h35 : Has C 35 S_isThing) (h49 : Has C 49 S_members) : Serves tabs C f_is_show S_show := SP.serves fun D x ds G EX P ok ⟨e, h1, h2⟩ k => by
  obtain ⟨b, K, many, x⟩ := x
  dsimp only at h1 h2
  subst e
  show denSs tabs C EX _ _ [some _, some _, some _] G
  rw [f_is_show]
  rcases h2 with rfl | ⟨t, is, rfl, a1, a2, a3, a4, a5⟩
  · ((first | rw [e_cons] | (dsimp only; rw [e_cons])); try simp only [dZ, dG, boR, coR, bfD, bmD, bmT, wipeD, sizeLine, Nat.reduceAdd, Nat.reducePow, Nat.reduceLeDiff, reduceIte, String.reduceBEq])
    ((first | rw [e_cons] | (dsimp only; rw [e_cons])); try simp only [dZ, dG, boR, coR, bfD, bmD, bmT, wipeD, sizeLine, Nat.reduceAdd, Nat.reducePow, Nat.reduceLeDiff, reduceIte, String.reduceBEq])
    exact k _ _ (Ext.refl D G) ok rfl
  · ((first | rw [e_cons] | (dsimp only; rw [e_cons])); try simp only [dZ, dG, boR, coR, bfD, bmD, bmT, wipeD, sizeLine, Nat.reduceAdd, Nat.reducePow, Nat.reduceLeDiff, reduceIte, String.reduceBEq])
    (rw [e_nil]; dsimp only; rw [e_cons]; try simp only [dZ, dG, boR, coR, bfD, bmD, bmT, wipeD, sizeLine, Nat.reduceAdd, Nat.reducePow, Nat.reduceLeDiff, reduceIte, String.reduceBEq])
    refine o_neI ?_
    rw [show (!decide ((((1 + 1 : Nat)) : Int) = 2)) = false from by decide]
    (try simp only [dZ, dG, boR, coR, bfD, bmD, bmT, wipeD, sizeLine, Nat.reduceAdd, Nat.reducePow, Nat.reduceLeDiff, reduceIte, String.reduceBEq])
    (rw [e_nil]; dsimp only; rw [e_cons]; try simp only [dZ, dG, boR, coR, bfD, bmD, bmT, wipeD, sizeLine, Nat.reduceAdd, Nat.reducePow, Nat.reduceLeDiff, reduceIte, String.reduceBEq])
    refine own_thing (G1 := G) h35 h1 a1 ok fun G2 e2 ok2 => ?_
    (try simp only [dZ, dG, boR, coR, bfD, bmD, bmT, wipeD, sizeLine, Nat.reduceAdd, Nat.reducePow, Nat.reduceLeDiff, reduceIte, String.reduceBEq])
    exact SP.use h49 (many, is) ok2 ⟨rfl, a2, a3, a4, a5⟩ fun v G3 e3 ok3 hv => k _ _ (e2.trans e3) ok3 hv
abbrev S_move : DSp := SP (α := Addr × KL × Int × Int × DV) (fun D x G ds => ds = [.ref x.1, .int x.2.2.1, .int x.2.2.2.1, x.2.2.2.2] ∧ BookK D G x.1 x.2.1 ∧ MoveOk x.2.1 x.2.2.1 x.2.2.2.1 x.2.2.2.2) (fun D x G v => v = .bl true)
theorem place_true {many i : Int} (h0 : 0 ≤ i) (h1 : i < many) : isPlace many (.int i) = true := by simp [isPlace, h0, h1]
theorem sv_move {C : Nat → DSp} (h30 : Has C 30 S_place) (h46 : Has C 46 S_show) : Serves tabs C f_is_move S_move := SP.serves fun D x ds G EX P ok ⟨e, h1, h2⟩ k => by
  obtain ⟨b, K, many, sts, x⟩ := x
  dsimp only at h1 h2
  subst e
  show denSs tabs C EX _ _ [some _, some _, some _, some _] G
  rw [f_is_move]
  rcases h2 with rfl | ⟨i, s, rfl, a1, a2, a3⟩
  · ((first | rw [e_cons] | (dsimp only; rw [e_cons])); try simp only [dZ, dG, boR, coR, bfD, bmD, bmT, wipeD, sizeLine, Nat.reduceAdd, Nat.reducePow, Nat.reduceLeDiff, reduceIte, String.reduceBEq])
    ((first | rw [e_cons] | (dsimp only; rw [e_cons])); try simp only [dZ, dG, boR, coR, bfD, bmD, bmT, wipeD, sizeLine, Nat.reduceAdd, Nat.reducePow, Nat.reduceLeDiff, reduceIte, String.reduceBEq])
    exact k _ _ (Ext.refl D G) ok rfl
  · ((first | rw [e_cons] | (dsimp only; rw [e_cons])); try simp only [dZ, dG, boR, coR, bfD, bmD, bmT, wipeD, sizeLine, Nat.reduceAdd, Nat.reducePow, Nat.reduceLeDiff, reduceIte, String.reduceBEq])
    (rw [e_nil]; dsimp only; rw [e_cons]; try simp only [dZ, dG, boR, coR, bfD, bmD, bmT, wipeD, sizeLine, Nat.reduceAdd, Nat.reducePow, Nat.reduceLeDiff, reduceIte, String.reduceBEq])
    refine o_neI ?_
    rw [show (!decide ((((1 + 1 : Nat)) : Int) = 2)) = false from by decide]
    (try simp only [dZ, dG, boR, coR, bfD, bmD, bmT, wipeD, sizeLine, Nat.reduceAdd, Nat.reducePow, Nat.reduceLeDiff, reduceIte, String.reduceBEq])
    (rw [e_nil]; dsimp only; rw [e_cons]; try simp only [dZ, dG, boR, coR, bfD, bmD, bmT, wipeD, sizeLine, Nat.reduceAdd, Nat.reducePow, Nat.reduceLeDiff, reduceIte, String.reduceBEq])
    refine SP.use h30 (sts, .int i) ok ⟨rfl, tyk_int⟩ fun v G2 e2 ok2 hv => ?_
    subst hv
    dsimp only
    rw [place_true a1 a2]
    (try simp only [dZ, dG, boR, coR, bfD, bmD, bmT, wipeD, sizeLine, Nat.reduceAdd, Nat.reducePow, Nat.reduceLeDiff, reduceIte, String.reduceBEq])
    exact SP.use h46 (b, K, many, s) ok2 ⟨rfl, h1.mono e2, a3⟩ fun v G3 e3 ok3 hv => k _ _ (e2.trans e3) ok3 hv
abbrev S_deed : DSp := SP (α := Addr × KL × Int × Int × Str × DV) (fun D x G ds => ds = [.ref x.1, .int x.2.2.1, .int x.2.2.2.1, x.2.2.2.2.2] ∧ BookK D G x.1 x.2.1 ∧ DeedOk x.2.1 x.2.2.1 x.2.2.2.1 x.2.2.2.2.1 x.2.2.2.2.2) (fun D x G v => v = .bl true)
theorem sv_deed {C : Nat → DSp} (h30 : Has C 30 S_place) (h35 : Has C 35 S_isThing) (h39 : Has C 39 S_word) (h40 : Has C 40 S_move) : Serves tabs C f_is_deed S_deed := SP.serves fun D x ds G EX P ok ⟨e, h1, h2⟩ k => by
  obtain ⟨b, K, many, sts, nm, x⟩ := x
  dsimp only at h1 h2
  obtain ⟨⟨o, need, moves, rfl, a1, a2, a3, a4, a5, a6⟩, b1, b2⟩ := h2
  subst e
  show denSs tabs C EX _ _ [some _, some _, some _, some _, none, none, none, none, none] G
  rw [f_is_deed]
  ((first | rw [e_cons] | (dsimp only; rw [e_cons])); try simp only [dZ, dG, boR, coR, bfD, bmD, bmT, wipeD, sizeLine, Nat.reduceAdd, Nat.reducePow, Nat.reduceLeDiff, reduceIte, String.reduceBEq])
  refine o_neI ?_
  rw [show (!decide ((((1 + 1 + 1 + 1 : Nat)) : Int) = 4)) = false from by decide]
  (try simp only [dZ, dG, boR, coR, bfD, bmD, bmT, wipeD, sizeLine, Nat.reduceAdd, Nat.reducePow, Nat.reduceLeDiff, reduceIte, String.reduceBEq])
  refine SP.use h39 nm ok ⟨rfl, sz101 b2⟩ fun v G2 e2 ok2 hv => ?_
  subst hv
  rw [b1]; (try simp only [dZ, dG, boR, coR, bfD, bmD, bmT, wipeD, sizeLine, Nat.reduceAdd, Nat.reducePow, Nat.reduceLeDiff, reduceIte, String.reduceBEq])
  (rw [e_nil]; dsimp only; rw [e_cons]; try simp only [dZ, dG, boR, coR, bfD, bmD, bmT, wipeD, sizeLine, Nat.reduceAdd, Nat.reducePow, Nat.reduceLeDiff, reduceIte, String.reduceBEq])
  ((first | rw [e_cons] | (dsimp only; rw [e_cons])); try simp only [dZ, dG, boR, coR, bfD, bmD, bmT, wipeD, sizeLine, Nat.reduceAdd, Nat.reducePow, Nat.reduceLeDiff, reduceIte, String.reduceBEq])
  refine SP.use h30 (many, .int o) ok2 ⟨rfl, tyk_int⟩ fun v G3 e3 ok3 hv => ?_
  subst hv
  dsimp only
  rw [place_true a1 a2]
  (try simp only [dZ, dG, boR, coR, bfD, bmD, bmT, wipeD, sizeLine, Nat.reduceAdd, Nat.reducePow, Nat.reduceLeDiff, reduceIte, String.reduceBEq])
  have h1' := h1.mono (e2.trans e3)
  have rest : ∀ G4, Ext D G3 G4 → okD D G4 → denSs tabs C EX [.ifs (.or [.not (.isi "tuple" (.b "tuple") (.v 7)), .cmp .ne (.bf .len [.v 7]) (.v 2)]) [
      .ret (.bl false)] [],
    .ret (.bf .all [.lc [8] (.n 8) .seq [.v 7] [] (.call "is_move" 40 4 [.v 0, .v 1, .v 2, .v 8])])] { nx := fun _ G' => P .non G', rt := P } [some (.ref b), some (.int many), some (.int sts), some (.tup [.str nm, .int o, need, .tup moves]), some (.str nm), some (.int o), some need, some (.tup moves), none] G4 := fun G4 e4 ok4 => by
    ((first | rw [e_cons] | (dsimp only; rw [e_cons])); try simp only [dZ, dG, boR, coR, bfD, bmD, bmT, wipeD, sizeLine, Nat.reduceAdd, Nat.reducePow, Nat.reduceLeDiff, reduceIte, String.reduceBEq])
    refine o_neI ?_
    rw [show (!decide ((moves.length : Int) = sts)) = false from by simp [a4]]
    (try simp only [dZ, dG, boR, coR, bfD, bmD, bmT, wipeD, sizeLine, Nat.reduceAdd, Nat.reducePow, Nat.reduceLeDiff, reduceIte, String.reduceBEq])
    (rw [e_nil]; dsimp only; rw [e_cons]; try simp only [dZ, dG, boR, coR, bfD, bmD, bmT, wipeD, sizeLine, Nat.reduceAdd, Nat.reducePow, Nat.reduceLeDiff, reduceIte, String.reduceBEq])
    refine LcK.all (D := D) (fun _ => true) ok4 (sz100 a5) (fun _ _ => by trivial) (fun x hx => ?_) fun G5 e5 ok5 => k _ _ (e2.trans (e3.trans (e4.trans e5))) ok5 (by simp)
    (try simp only [dZ, dG, boR, coR, bfD, bmD, bmT, wipeD, sizeLine, Nat.reduceAdd, Nat.reducePow, Nat.reduceLeDiff, reduceIte, String.reduceBEq])
    exact fun G5 e5 ok5 K1 K2 k1 => SP.use h40 (b, K, many, sts, x) ok5 ⟨rfl, h1'.mono (e4.trans e5), a6 x hx⟩ fun v G6 e6 ok6 hv => by subst hv; exact k1 G6 e6 ok6
  rcases a3 with rfl | a3
  · (try simp only [dZ, dG, boR, coR, bfD, bmD, bmT, wipeD, sizeLine, Nat.reduceAdd, Nat.reducePow, Nat.reduceLeDiff, reduceIte, String.reduceBEq])
    rw [e_nil]; dsimp only
    exact rest G3 (Ext.refl D G3) ok3
  · rw [a3.noRef]; (try simp only [dZ, dG, boR, coR, bfD, bmD, bmT, wipeD, sizeLine, Nat.reduceAdd, Nat.reducePow, Nat.reduceLeDiff, reduceIte, String.reduceBEq])
    refine own_thing (G1 := G) h35 h1' a3 ok3 fun G4 e4 ok4 => ?_
    (try simp only [dZ, dG, boR, coR, bfD, bmD, bmT, wipeD, sizeLine, Nat.reduceAdd, Nat.reducePow, Nat.reduceLeDiff, reduceIte, String.reduceBEq])
    rw [e_nil]; dsimp only
    exact rest G4 e4 ok4
end DL
end
section
set_option Elab.async false
set_option linter.all false
set_option maxRecDepth 100000
set_option autoImplicit false
namespace DL
open PySem PySem.Spec PyProof.Rows L2
open PySem.PyData (strOk)
abbrev S_deeds : DSp := SP (α := Addr × KL × Int × Int × List Str × List DV) (fun D x G ds => ds = [.ref x.1, .int x.2.2.1, .int x.2.2.2.1, .tup x.2.2.2.2.2] ∧ BookK D G x.1 x.2.1 ∧ x.2.2.2.2.2.length ≤ 100 ∧ ascS x.2.2.2.2.1 = true ∧ x.2.2.2.2.1.length = x.2.2.2.2.2.length ∧ ∀ p ∈ x.2.2.2.2.1.zip x.2.2.2.2.2, DeedOk x.2.1 x.2.2.1 x.2.2.2.1 p.1 p.2) (fun D x G v => v = .bl true)
theorem sv_deeds {C : Nat → DSp} (h34 : Has C 34 S_deed) (h33 : Has C 33 S_ascI) : Serves tabs C f_are_deeds S_deeds := SP.serves fun D x ds G EX P ok ⟨e, h1, h2, h3, h4, h5⟩ k => by
  obtain ⟨b, K, many, sts, nms, deeds⟩ := x
  dsimp only at h1 h2 h3 h4 h5
  subst e
  show denSs tabs C EX _ _ [some _, some _, some _, some _, none] G
  rw [f_are_deeds]
  ((first | rw [e_cons] | (dsimp only; rw [e_cons])); try simp only [dZ, dG, boR, coR, bfD, bmD, bmT, wipeD, sizeLine, Nat.reduceAdd, Nat.reducePow, Nat.reduceLeDiff, reduceIte, String.reduceBEq])
  refine LcK.all (D := D) (fun _ => true) ok (sz100 h2) (fun _ _ => by trivial) (fun x hx => ?_) fun G2 e2 ok2 => ?_
  · obtain ⟨nm, hm⟩ := zip_mem_right h4 hx
    (try simp only [dZ, dG, boR, coR, bfD, bmD, bmT, wipeD, sizeLine, Nat.reduceAdd, Nat.reducePow, Nat.reduceLeDiff, reduceIte, String.reduceBEq])
    exact fun G5 e5 ok5 K1 K2 k1 => SP.use h34 (b, K, many, sts, nm, x) ok5 ⟨rfl, h1.mono e5, h5 _ hm⟩ fun v G6 e6 ok6 hv => by subst hv; exact k1 G6 e6 ok6
  rw [show (deeds.all fun _ => true) = true from by simp]
  (try simp only [dZ, dG, boR, coR, bfD, bmD, bmT, wipeD, sizeLine, Nat.reduceAdd, Nat.reducePow, Nat.reduceLeDiff, reduceIte, String.reduceBEq])
  (rw [e_nil]; dsimp only; rw [e_cons]; try simp only [dZ, dG, boR, coR, bfD, bmD, bmT, wipeD, sizeLine, Nat.reduceAdd, Nat.reducePow, Nat.reduceLeDiff, reduceIte, String.reduceBEq])
  refine LcK.map (D := D) fstD (fun _ => true) ok2 (sz100 h2) (fun _ _ => by trivial) (fun x hx => ?_) fun p G3 e3 ok3 kn _ => ?_
  · obtain ⟨nm, hm⟩ := zip_mem_right h4 hx
    obtain ⟨⟨kd, g, needs, ex, _⟩, _⟩ := h5 _ hm
    dsimp only at ex
    subst ex
    (try simp only [dZ, dG, boR, coR, bfD, bmD, bmT, wipeD, sizeLine, Nat.reduceAdd, Nat.reducePow, Nat.reduceLeDiff, reduceIte, String.reduceBEq])
    exact fun G1 e1 ok1 K1 K2 k1 _ => k1 G1 (Ext.refl D G1) ok1 trivial
  rw [List.filter_eq_self.mpr (fun _ _ => rfl), map_zip (g := DV.str) h4 (fun p hp => by obtain ⟨⟨kd, g, needs, e, _⟩, _⟩ := h5 _ hp; rw [e]; rfl)] at kn
  exact SP.use h33 (.inr (p, nms)) ok3 ⟨rfl, kn, by rw [h4]; exact sz100 h2⟩ fun v G4 e4 ok4 hv => k _ _ (e2.trans (e3.trans e4)) ok4 (by rw [hv]; show DV.bl (ascS nms) = _; rw [h3])
def LotOk (K : KL) (x : DV) : Prop := ∃ ts, x = .tup ts ∧ ts.length ≤ 100 ∧ ∀ t ∈ ts, Thing K TD t
abbrev S_firsts : DSp := SP (α := Addr × KL × Int × List DV) (fun D x G ds => ds = [.ref x.1, .int x.2.2.1, .tup x.2.2.2] ∧ BookK D G x.1 x.2.1 ∧ x.2.2.2.length ≤ 100 ∧ (x.2.2.2.length : Int) = x.2.2.1 ∧ ∀ l ∈ x.2.2.2, LotOk x.2.1 l) (fun D x G v => v = .bl true)
theorem sv_firsts {C : Nat → DSp} (h35 : Has C 35 S_isThing) : Serves tabs C f_are_firsts S_firsts := SP.serves fun D x ds G EX P ok ⟨e, h1, h2, h3, h4⟩ k => by
  obtain ⟨b, K, many, lots⟩ := x
  dsimp only at h1 h2 h3 h4
  subst e
  show denSs tabs C EX _ _ [some _, some _, some _, none, none] G
  rw [f_are_firsts]
  ((first | rw [e_cons] | (dsimp only; rw [e_cons])); try simp only [dZ, dG, boR, coR, bfD, bmD, bmT, wipeD, sizeLine, Nat.reduceAdd, Nat.reducePow, Nat.reduceLeDiff, reduceIte, String.reduceBEq])
  refine o_neI ?_
  rw [show (!decide ((lots.length : Int) = many)) = false from by simp [h3]]
  (try simp only [dZ, dG, boR, coR, bfD, bmD, bmT, wipeD, sizeLine, Nat.reduceAdd, Nat.reducePow, Nat.reduceLeDiff, reduceIte, String.reduceBEq])
  (rw [e_nil]; dsimp only; rw [e_cons]; try simp only [dZ, dG, boR, coR, bfD, bmD, bmT, wipeD, sizeLine, Nat.reduceAdd, Nat.reducePow, Nat.reduceLeDiff, reduceIte, String.reduceBEq])
  refine LcK.all (D := D) (fun _ => true) ok (sz100 h2) (fun _ _ => by trivial) (fun x hx => ?_) fun G2 e2 ok2 => k _ _ e2 ok2 (by simp)
  obtain ⟨ts, rfl, a1, a2⟩ := h4 x hx
  (try simp only [dZ, dG, boR, coR, bfD, bmD, bmT, wipeD, sizeLine, Nat.reduceAdd, Nat.reducePow, Nat.reduceLeDiff, reduceIte, String.reduceBEq])
  refine fun G5 e5 ok5 K1 K2 k1 => LcK.all (D := D) (fun _ => true) ok5 (sz100 a1) (fun _ _ => by trivial) (fun y hy => ?_) fun G6 e6 ok6 => by rw [show (ts.all fun _ => true) = true from by simp]; exact k1 G6 e6 ok6
  (try simp only [dZ, dG, boR, coR, bfD, bmD, bmT, wipeD, sizeLine, Nat.reduceAdd, Nat.reducePow, Nat.reduceLeDiff, reduceIte, String.reduceBEq])
  exact fun G7 e7 ok7 L1 L2 l1 => own_thing (G1 := G) h35 (h1.mono (e5.trans e7)) (a2 y hy) ok7 fun G8 e8 ok8 => l1 G8 e8 ok8
/-! ### instances made -/
def SPI {α : Type} (cls : String) (pre : Dk → α → DH → List DV → Prop) (post : Dk → α → DH → Addr → Prop) : DSp := fun ds G P _ => ∃ D x G0 a r, okD D G0 ∧ G0 a = none ∧ G = updD G0 a (.ins cls []) ∧ ds = .ref a :: r ∧ pre D x G0 r ∧ ∀ G2, Ext D G0 G2 → okD D G2 → post D x G2 a → P .non G2
theorem SPI.use {α : Type} {cls : String} {pre : Dk → α → DH → List DV → Prop} {post : Dk → α → DH → Addr → Prop} {C : Nat → DSp} {f n : Nat} {D : Dk} {G : DH} {ds : List DV} {P : DK} {EX : DXK} (h : Has C f (SPI cls pre post)) (x : α) (ok : okD D G) (hn : ds.length + 1 = n) (hp : pre D x G ds)
    (k : ∀ a G2, Ext D G G2 → okD D G2 → post D x G2 a → P (.ref a) G2) : MkO C f n cls EX ds G P :=
  fun a ha => ⟨hn, h _ _ _ _ ⟨D, x, G, a, ds, ok, ha, rfl, rfl, hp, fun G2 e2 ok2 q => ⟨rfl, k a G2 e2 ok2 q⟩⟩⟩
theorem o_dictX {G : DH} {P : DK} {xs : List DV} {kvs : List (Key × DV)} (h : omap pairD xs = some kvs) : dDict [.xt xs] G P = NewO (.dK (mergeD [] kvs)) G P := by
  unfold dDict NewO
  dsimp only
  exact propext ⟨fun ⟨l, h1, h2⟩ => by rw [h] at h1; cases h1; exact h2, fun k => ⟨_, h, k⟩⟩
theorem omap_kinds (K : KL) : omap pairD (kindsD K) = some (kvK K) := by
  induction K with
  | nil => rfl
  | cons p K ih =>
    unfold kindsD kvK at *
    rw [List.map_cons, List.map_cons]
    unfold omap
    rw [ih]
    rfl
theorem putD_len {kvs : List (Key × DV)} {k : Key} {v : DV} : (putD kvs k v).length ≤ kvs.length + 1 := by
  unfold putD; split <;> simp
theorem valD_put {kvs : List (Key × DV)} {k k' : Key} {v : DV} : valD (putD kvs k v) k' = if k = k' then some v else valD kvs k' := by
  unfold putD valD
  split
  · rename_i h
    induction kvs with
    | nil => simp at h
    | cons p r ih =>
      rw [List.map_cons, List.find?_cons]
      by_cases e : p.1 = k
      · rw [if_pos e]
        by_cases e2 : k = k'
        · rw [if_pos e2]; simp [e, e2]
        · rw [if_neg e2, List.find?_cons]
          have : decide (p.1 = k') = false := by rw [e]; exact decide_eq_false e2
          simp only [this]
          clear ih h
          induction r with
          | nil => rfl
          | cons q r ih =>
            rw [List.map_cons, List.find?_cons, List.find?_cons]
            by_cases e3 : q.1 = k
            · rw [if_pos e3]
              have : decide (q.1 = k') = false := by rw [e3]; exact decide_eq_false e2
              simp only [this]
              exact ih
            · rw [if_neg e3]
              cases decide (q.1 = k') with
              | true => rfl
              | false => exact ih
      · rw [if_neg e, List.find?_cons]
        have h2 : (r.any fun kv => decide (kv.1 = k)) = true := by simpa [e] using h
        have := ih h2
        by_cases e2 : p.1 = k'
        · simp only [decide_eq_true e2]
          rw [if_neg (fun z => e (e2.trans z.symm))]
        · simp only [decide_eq_false e2]
          exact this
  · rename_i h
    rw [List.find?_append]
    by_cases e : k = k'
    · rw [if_pos e]
      have : kvs.find? (fun kv => decide (kv.1 = k')) = none := by
        rw [List.find?_eq_none]
        intro x hx hd
        apply h
        rw [List.any_eq_true]
        exact ⟨x, hx, by rw [e]; exact hd⟩
      rw [this]; simp [e]
    · rw [if_neg e]
      have : ([(k, v)] : List (Key × DV)).find? (fun kv => decide (kv.1 = k')) = none := by simp [e]
      rw [this]; simp
abbrev S_Book : DSp := SPI (α := KL × List Str × List DV) "Book" (fun D x G ds => ds = [.xt (kindsD x.1), .tup x.2.2] ∧ KOk x.1 ∧ x.2.2.length ≤ 100 ∧ ascS x.2.1 = true ∧ x.2.1.length = x.2.2.length ∧ ∀ p ∈ x.2.1.zip x.2.2, OpOk x.1 p.1 p.2) (fun D x G a => BookK D G a x.1)
theorem m_counts : ("Book" ∈ tabs.clsOf "counts") = True := eq_true (by decide +kernel)
theorem m_kinds : ("Book" ∈ tabs.clsOf "kinds") = True := eq_true (by decide +kernel)
theorem m_ops : ("Book" ∈ tabs.clsOf "openings") = True := eq_true (by decide +kernel)
theorem m_nbo : ("Book" ∈ tabs.clsOf "needs_by_opening") = True := eq_true (by decide +kernel)
theorem sv_Book {C : Nat → DSp} (h31 : Has C 31 S_kinds) (h32 : Has C 32 S_openings) : Serves tabs C f_Book___init__ S_Book := fun ds G P EX hl ⟨D, x, G0, a, r, ok0, ha, eG, e1, ⟨e2, O, h2, h3, h4, h5⟩, k⟩ => by
  obtain ⟨K, nms, ops⟩ := x
  dsimp only at O h2 h3 h4 h5
  subst eG e2 e1
  have eA : Ext D G0 (updD G0 a (.ins "Book" [])) := Ext.new ok0 ha
  have okA := eA.d ok0
  have knA : Kn D (updD G0 a (.ins "Book" [])) a (.ins "Book" []) := Kn.new ok0 ha
  revert eA okA knA
  generalize updD G0 a (.ins "Book" []) = G
  intro eA okA knA
  show denSs tabs C EX _ _ [some _, some _, some _, none] G
  rw [f_Book___init__]
  ((first | rw [e_cons] | (dsimp only; rw [e_cons])); try simp only [dZ, dG, boR, coR, bfD, bmD, bmT, wipeD, sizeLine, Nat.reduceAdd, Nat.reducePow, Nat.reduceLeDiff, reduceIte, String.reduceBEq])
  refine SP.use h31 K okA ⟨rfl, O⟩ fun v G2 e2 ok2 hv => ?_
  subst hv
  (try simp only [dZ, dG, boR, coR, bfD, bmD, bmT, wipeD, sizeLine, Nat.reduceAdd, Nat.reducePow, Nat.reduceLeDiff, reduceIte, String.reduceBEq])
  (rw [e_nil]; dsimp only; rw [e_cons]; try simp only [dZ, dG, boR, coR, bfD, bmD, bmT, wipeD, sizeLine, Nat.reduceAdd, Nat.reducePow, Nat.reduceLeDiff, reduceIte, String.reduceBEq])
  rw [o_dictX (omap_kinds K), O.mrg]
  refine NewO.run ok2 fun c G3 e3 ok3 knC fc => ?_
  have kA3 := (knA.mono e2).mono e3
  have ac : a ≠ c := (knA.mono e2).ne fc
  refine ⟨a, "Book", [], rfl, kA3.2, c_counts, by decide, ?_⟩
  rw [show putFD "counts" (.ref c) [] = [("counts", .ref c)] from rfl]
  have e4 : Ext D G0 (updD G3 a (.ins "Book" [("counts", .ref c)])) := Ext.wr ((eA.trans e2).trans e3) ok0 ha
  have ok4 := e4.d ok0
  have kA4 : Kn D (updD G3 a (.ins "Book" [("counts", .ref c)])) a (.ins "Book" [("counts", .ref c)]) := kA3.wr
  have kC4 : Kn D (updD G3 a (.ins "Book" [("counts", .ref c)])) c (.dK (kvK K)) := knC.wrN (Ne.symm ac)
  revert e4 ok4 kA4 kC4
  generalize updD G3 a (.ins "Book" [("counts", .ref c)]) = G4
  intro e4 ok4 kA4 kC4
  ((first | rw [e_cons] | (dsimp only; rw [e_cons])); try simp only [dZ, dG, boR, coR, bfD, bmD, bmT, wipeD, sizeLine, Nat.reduceAdd, Nat.reducePow, Nat.reduceLeDiff, reduceIte, String.reduceBEq])
  refine ⟨a, "Book", _, _, rfl, kA4.2, c_counts, rfl, ?_⟩
  refine SP.use h32 (c, K, nms, ops) ok4 ⟨rfl, kC4, sz100 h2, h3, h4, h5⟩ fun v G5 e5 ok5 hv => ?_
  subst hv
  (try simp only [dZ, dG, boR, coR, bfD, bmD, bmT, wipeD, sizeLine, Nat.reduceAdd, Nat.reducePow, Nat.reduceLeDiff, reduceIte, String.reduceBEq])
  (rw [e_nil]; dsimp only; rw [e_cons]; try simp only [dZ, dG, boR, coR, bfD, bmD, bmT, wipeD, sizeLine, Nat.reduceAdd, Nat.reducePow, Nat.reduceLeDiff, reduceIte, String.reduceBEq])
  have kA5 := kA4.mono e5
  have kC5 := kC4.mono e5
  refine ⟨a, "Book", _, rfl, kA5.2, by decide +kernel, by simp, ?_⟩
  rw [show putFD "kinds" (.xt (kindsD K)) [("counts", .ref c)] = [("counts", .ref c), ("kinds", .xt (kindsD K))] from rfl]
  ((first | rw [e_cons] | (dsimp only; rw [e_cons])); try simp only [dZ, dG, boR, coR, bfD, bmD, bmT, wipeD, sizeLine, Nat.reduceAdd, Nat.reducePow, Nat.reduceLeDiff, reduceIte, String.reduceBEq])
  refine ⟨a, "Book", _, rfl, updD_same, by decide +kernel, by simp, ?_⟩
  rw [show putFD "openings" (.tup ops) [("counts", .ref c), ("kinds", .xt (kindsD K))] = [("counts", .ref c), ("kinds", .xt (kindsD K)), ("openings", .tup ops)] from rfl]
  have e6 : Ext D G0 (updD (updD G5 a (.ins "Book" [("counts", .ref c), ("kinds", .xt (kindsD K))])) a (.ins "Book" [("counts", .ref c), ("kinds", .xt (kindsD K)), ("openings", .tup ops)])) := Ext.wr (Ext.wr (e4.trans e5) ok0 ha) ok0 ha
  have ok6 := e6.d ok0
  have kA6 := (kA5.wr (o' := .ins "Book" [("counts", .ref c), ("kinds", .xt (kindsD K))])).wr (o' := .ins "Book" [("counts", .ref c), ("kinds", .xt (kindsD K)), ("openings", .tup ops)])
  have kC6 := (kC5.wrN (p := a) (Ne.symm ac) (o' := .ins "Book" [("counts", .ref c), ("kinds", .xt (kindsD K))])).wrN (p := a) (Ne.symm ac) (o' := .ins "Book" [("counts", .ref c), ("kinds", .xt (kindsD K)), ("openings", .tup ops)])
  revert e6 ok6 kA6 kC6
  generalize updD (updD G5 a (.ins "Book" [("counts", .ref c), ("kinds", .xt (kindsD K))])) a (.ins "Book" [("counts", .ref c), ("kinds", .xt (kindsD K)), ("openings", .tup ops)]) = G6
  intro e6 ok6 kA6 kC6
  ((first | rw [e_cons] | (dsimp only; rw [e_cons])); try simp only [dZ, dG, boR, coR, bfD, bmD, bmT, wipeD, sizeLine, Nat.reduceAdd, Nat.reducePow, Nat.reduceLeDiff, reduceIte, String.reduceBEq])
  refine DcK.run (D := D) (fun i acc => acc.length ≤ i) ok6 (sz100 h2) (fun _ _ => by trivial) (Nat.le_refl 0) (fun _ _ h => h) (fun i acc G1 x e1 ok1 hx hA => ?_) fun nb G7 acc e7 ok7 knN fN hA => ?_
  · obtain ⟨nm, hm⟩ := zip_mem_right h4 (List.mem_of_getElem? hx)
    obtain ⟨⟨kd, g, needs, many, ex, _⟩, _⟩ := h5 _ hm
    dsimp only at ex
    subst ex
    (try simp only [dZ, dG, boR, coR, bfD, bmD, bmT, wipeD, sizeLine, Nat.reduceAdd, Nat.reducePow, Nat.reduceLeDiff, reduceIte, String.reduceBEq])
    exact fun K1 K2 k1 k2 => k1 _ _ _ G1 (Ext.refl D G1) ok1 rfl (Nat.le_trans putD_len (Nat.succ_le_succ hA))
  have kA7 := kA6.mono e7
  have kC7 := kC6.mono e7
  refine ⟨a, "Book", _, rfl, kA7.2, by decide +kernel, by simp, ?_⟩
  rw [e_nil]
  exact k _ (Ext.wr (e6.trans e7) ok0 ha) ((Ext.wr (e6.trans e7) ok0 ha).d ok0) ⟨_, c, kA7.wr, rfl, rfl, kC7.wrN (Ne.symm ac)⟩
end DL
end
section
set_option Elab.async false
set_option linter.all false
set_option maxRecDepth 100000
set_option autoImplicit false
namespace DL
open PySem PySem.Spec PyProof.Rows L2
open PySem.PyData (strOk)
theorem fset_step {D : Dk} {G0 G : DH} {a : Addr} {cls f : String} {v : DV} {fs : List (String × DV)} {N : DH → Prop} (ok0 : okD D G0) (ha : G0 a = none) (e : Ext D G0 G) (kA : Kn D G a (.ins cls fs)) (hc : cls ∈ tabs.clsOf f) (hl : fs.length < 1000)
    (k : ∀ G', Ext D G0 G' → okD D G' → Kn D G' a (.ins cls (putFD f v fs)) → (∀ b o, b ≠ a → Kn D G b o → Kn D G' b o) → N G') :
    ∃ a' c fs', DV.ref a = .ref a' ∧ G a' = some (.ins c fs') ∧ c ∈ tabs.clsOf f ∧ fs'.length < 1000 ∧ N (updD G a' (.ins c (putFD f v fs'))) :=
  ⟨a, cls, fs, rfl, kA.2, hc, hl, k _ (Ext.wr e ok0 ha) ((Ext.wr e ok0 ha).d ok0) kA.wr fun b o hb kb => kb.wrN hb⟩
def CircleK (D : Dk) (G : DH) (c : Addr) (nms : List Str) : Prop := ∃ fs q kvs, Kn D G c (.ins "Circle" fs) ∧ fs.lookup "names" = some (.tup (nms.map .str)) ∧ fs.lookup "deed_by_name" = some (.ref q) ∧ fs.lookup "deed" = none ∧ Kn D G q (.dK kvs) ∧ (∀ s ∈ nms, (valD kvs (.inr s)).isSome = true) ∧ nms.length ≤ 100
theorem CircleK.mono {D : Dk} {G G1 : DH} {c : Addr} {nms : List Str} (h : CircleK D G c nms) (e : Ext D G G1) : CircleK D G1 c nms := let ⟨fs, q, kvs, h1, h2, h3, h4, h5, h6⟩ := h; ⟨fs, q, kvs, h1.mono e, h2, h3, h4, h5.mono e, h6⟩
structure CircOk (K : KL) (members states : Int) (nms : List Str) (deeds lots : List DV) : Prop where
  m1 : 1 ≤ members
  m2 : members ≤ 4
  s1 : 1 ≤ states
  dl : deeds.length ≤ 100
  asc : ascS nms = true
  nl : nms.length = deeds.length
  dk : ∀ p ∈ nms.zip deeds, DeedOk K members states p.1 p.2
  ll : lots.length ≤ 100
  lm : (lots.length : Int) = members
  lk : ∀ l ∈ lots, LotOk K l
abbrev S_Circle : DSp := SPI (α := Addr × KL × Int × Int × List Str × List DV × List DV) "Circle" (fun D x G ds => ds = [.ref x.1, .int x.2.2.1, .int x.2.2.2.1, .tup x.2.2.2.2.2.1, .tup x.2.2.2.2.2.2] ∧ BookK D G x.1 x.2.1 ∧ CircOk x.2.1 x.2.2.1 x.2.2.2.1 x.2.2.2.2.1 x.2.2.2.2.2.1 x.2.2.2.2.2.2) (fun D x G a => CircleK D G a x.2.2.2.2.1)
theorem zip_at {α β : Type} : ∀ {l : List α} {m : List β} {i : Nat} {b : β}, l.length = m.length → m[i]? = some b → ∃ a, l[i]? = some a ∧ (a, b) ∈ l.zip m
  | [], [], i, b, _, h => by simp at h
  | a :: l, c :: m, i, b, e, h => by
    cases i with
    | zero => simp at h; subst h; exact ⟨a, by simp, List.mem_cons_self⟩
    | succ i =>
      obtain ⟨a', h1, h2⟩ := zip_at (i := i) (by simpa using e) (by simpa using h)
      exact ⟨a', by simpa using h1, List.mem_cons_of_mem _ h2⟩
theorem sv_Circle {C : Nat → DSp} (h30 : Has C 30 S_place) (h28 : Has C 28 S_deeds) (h29 : Has C 29 S_firsts) : Serves tabs C f_Circle___init__ S_Circle := fun ds G P EX hl ⟨D, x, G0, a, r, ok0, ha, eG, e1, ⟨e2, hb, O⟩, k⟩ => by
  obtain ⟨b, K, members, states, nms, deeds, lots⟩ := x
  dsimp only at O hb
  subst eG e2 e1
  have eA : Ext D G0 (updD G0 a (.ins "Circle" [])) := Ext.new ok0 ha
  have okA := eA.d ok0
  have knA : Kn D (updD G0 a (.ins "Circle" [])) a (.ins "Circle" []) := Kn.new ok0 ha
  have hbA := hb.mono eA
  revert eA okA knA hbA
  generalize updD G0 a (.ins "Circle" []) = G
  intro eA okA knA hbA
  show denSs tabs C EX _ _ [some _, some _, some _, some _, some _, some _, none] G
  rw [f_Circle___init__]
  ((first | rw [e_cons] | (dsimp only; rw [e_cons])); try simp only [dZ, dG, boR, coR, bfD, bmD, bmT, wipeD, sizeLine, Nat.reduceAdd, Nat.reducePow, Nat.reduceLeDiff, reduceIte, String.reduceBEq])
  refine SP.use h30 (4 + 1, .int members) okA ⟨rfl, tyk_int⟩ fun v G2 e2 ok2 hv => ?_
  subst hv
  dsimp only
  have m1 := O.m1
  have m2 := O.m2
  have s1 := O.s1
  rw [place_true (by omega) (by omega)]
  (try simp only [dZ, dG, boR, coR, bfD, bmD, bmT, wipeD, sizeLine, Nat.reduceAdd, Nat.reducePow, Nat.reduceLeDiff, reduceIte, String.reduceBEq])
  rw [decide_eq_false (show ¬ members < 1 by omega)]
  (try simp only [dZ, dG, boR, coR, bfD, bmD, bmT, wipeD, sizeLine, Nat.reduceAdd, Nat.reducePow, Nat.reduceLeDiff, reduceIte, String.reduceBEq])
  (rw [e_nil]; dsimp only; rw [e_cons]; try simp only [dZ, dG, boR, coR, bfD, bmD, bmT, wipeD, sizeLine, Nat.reduceAdd, Nat.reducePow, Nat.reduceLeDiff, reduceIte, String.reduceBEq])
  rw [decide_eq_false (show ¬ states < 1 by omega)]
  (try simp only [dZ, dG, boR, coR, bfD, bmD, bmT, wipeD, sizeLine, Nat.reduceAdd, Nat.reducePow, Nat.reduceLeDiff, reduceIte, String.reduceBEq])
  (rw [e_nil]; dsimp only; rw [e_cons]; try simp only [dZ, dG, boR, coR, bfD, bmD, bmT, wipeD, sizeLine, Nat.reduceAdd, Nat.reducePow, Nat.reduceLeDiff, reduceIte, String.reduceBEq])
  refine SP.use h28 (b, K, members, states, nms, deeds) ok2 ⟨rfl, hbA.mono e2, O.dl, O.asc, O.nl, O.dk⟩ fun v G3 e3 ok3 hv => ?_
  subst hv
  (try simp only [dZ, dG, boR, coR, bfD, bmD, bmT, wipeD, sizeLine, Nat.reduceAdd, Nat.reducePow, Nat.reduceLeDiff, reduceIte, String.reduceBEq])
  (rw [e_nil]; dsimp only; rw [e_cons]; try simp only [dZ, dG, boR, coR, bfD, bmD, bmT, wipeD, sizeLine, Nat.reduceAdd, Nat.reducePow, Nat.reduceLeDiff, reduceIte, String.reduceBEq])
  refine SP.use h29 (b, K, members, lots) ok3 ⟨rfl, hbA.mono (e2.trans e3), O.ll, O.lm, O.lk⟩ fun v G4 e4 ok4 hv => ?_
  subst hv
  (try simp only [dZ, dG, boR, coR, bfD, bmD, bmT, wipeD, sizeLine, Nat.reduceAdd, Nat.reducePow, Nat.reduceLeDiff, reduceIte, String.reduceBEq])
  (rw [e_nil]; dsimp only; rw [e_cons]; try simp only [dZ, dG, boR, coR, bfD, bmD, bmT, wipeD, sizeLine, Nat.reduceAdd, Nat.reducePow, Nat.reduceLeDiff, reduceIte, String.reduceBEq])
  have e14 := eA.trans (e2.trans (e3.trans e4))
  have kA := knA.mono (e2.trans (e3.trans e4))
  refine fset_step ok0 ha e14 kA (by decide +kernel) (by simp) fun G5 e5 ok5 kA _ => ?_
  rw [show putFD "book" (.ref b) [] = [("book", .ref b)] from rfl] at kA
  ((first | rw [e_cons] | (dsimp only; rw [e_cons])); try simp only [dZ, dG, boR, coR, bfD, bmD, bmT, wipeD, sizeLine, Nat.reduceAdd, Nat.reducePow, Nat.reduceLeDiff, reduceIte, String.reduceBEq])
  refine fset_step ok0 ha e5 kA (by decide +kernel) (by simp) fun G6 e6 ok6 kA _ => ?_
  rw [show putFD "members" (.int members) [("book", .ref b)] = [("book", .ref b), ("members", .int members)] from rfl] at kA
  ((first | rw [e_cons] | (dsimp only; rw [e_cons])); try simp only [dZ, dG, boR, coR, bfD, bmD, bmT, wipeD, sizeLine, Nat.reduceAdd, Nat.reducePow, Nat.reduceLeDiff, reduceIte, String.reduceBEq])
  refine fset_step ok0 ha e6 kA (by decide +kernel) (by simp) fun G7 e7 ok7 kA _ => ?_
  rw [show putFD "states" (.int states) [("book", .ref b), ("members", .int members)] = [("book", .ref b), ("members", .int members), ("states", .int states)] from rfl] at kA
  ((first | rw [e_cons] | (dsimp only; rw [e_cons])); try simp only [dZ, dG, boR, coR, bfD, bmD, bmT, wipeD, sizeLine, Nat.reduceAdd, Nat.reducePow, Nat.reduceLeDiff, reduceIte, String.reduceBEq])
  refine fset_step ok0 ha e7 kA (by decide +kernel) (by simp) fun G8 e8 ok8 kA _ => ?_
  rw [show putFD "deeds" (.tup deeds) [("book", .ref b), ("members", .int members), ("states", .int states)] = [("book", .ref b), ("members", .int members), ("states", .int states), ("deeds", .tup deeds)] from rfl] at kA
  ((first | rw [e_cons] | (dsimp only; rw [e_cons])); try simp only [dZ, dG, boR, coR, bfD, bmD, bmT, wipeD, sizeLine, Nat.reduceAdd, Nat.reducePow, Nat.reduceLeDiff, reduceIte, String.reduceBEq])
  refine fset_step ok0 ha e8 kA (by decide +kernel) (by simp) fun G9 e9 ok9 kA _ => ?_
  rw [show putFD "firsts" (.tup lots) [("book", .ref b), ("members", .int members), ("states", .int states), ("deeds", .tup deeds)] = [("book", .ref b), ("members", .int members), ("states", .int states), ("deeds", .tup deeds), ("firsts", .tup lots)] from rfl] at kA
  ((first | rw [e_cons] | (dsimp only; rw [e_cons])); try simp only [dZ, dG, boR, coR, bfD, bmD, bmT, wipeD, sizeLine, Nat.reduceAdd, Nat.reducePow, Nat.reduceLeDiff, reduceIte, String.reduceBEq])
  refine LcK.map (D := D) fstD (fun _ => true) ok9 (sz100 O.dl) (fun _ _ => by trivial) (fun x hx => ?_) fun p G10 e10 ok10 kn _ => ?_
  · obtain ⟨nm, hm⟩ := zip_mem_right O.nl hx
    obtain ⟨⟨kd, g, needs, ex, _⟩, _⟩ := O.dk _ hm
    dsimp only at ex
    subst ex
    (try simp only [dZ, dG, boR, coR, bfD, bmD, bmT, wipeD, sizeLine, Nat.reduceAdd, Nat.reducePow, Nat.reduceLeDiff, reduceIte, String.reduceBEq])
    exact fun G1 e1 ok1 K1 K2 k1 _ => k1 G1 (Ext.refl D G1) ok1 trivial
  rw [List.filter_eq_self.mpr (fun _ _ => rfl), map_zip (g := DV.str) O.nl (fun p hp => by obtain ⟨⟨kd, g, needs, e, _⟩, _⟩ := O.dk _ hp; rw [e]; rfl)] at kn
  rw [o_tupO (seq_kn kn)]
  refine fset_step ok0 ha (e9.trans e10) (kA.mono e10) (by decide +kernel) (by simp) fun G11 e11 ok11 kA _ => ?_
  rw [show putFD "names" (.tup (nms.map .str)) [("book", .ref b), ("members", .int members), ("states", .int states), ("deeds", .tup deeds), ("firsts", .tup lots)] = [("book", .ref b), ("members", .int members), ("states", .int states), ("deeds", .tup deeds), ("firsts", .tup lots), ("names", .tup (nms.map .str))] from rfl] at kA
  ((first | rw [e_cons] | (dsimp only; rw [e_cons])); try simp only [dZ, dG, boR, coR, bfD, bmD, bmT, wipeD, sizeLine, Nat.reduceAdd, Nat.reducePow, Nat.reduceLeDiff, reduceIte, String.reduceBEq])
  refine DcK.run (D := D) (fun i acc => acc.length ≤ i ∧ ∀ s ∈ nms.take i, (valD acc (.inr s)).isSome = true) ok11 (sz100 O.dl) (fun _ _ => by trivial) ⟨Nat.le_refl 0, by simp⟩ (fun _ _ h => h.1) (fun i acc G1 x e1 ok1 hx hA => ?_) fun q G12 acc e12 ok12 knQ fQ hA => ?_
  · obtain ⟨nm, hm0, hm⟩ := zip_at O.nl hx
    obtain ⟨⟨kd, g, needs, ex, _⟩, _⟩ := O.dk _ hm
    dsimp only at ex
    subst ex
    (try simp only [dZ, dG, boR, coR, bfD, bmD, bmT, wipeD, sizeLine, Nat.reduceAdd, Nat.reducePow, Nat.reduceLeDiff, reduceIte, String.reduceBEq])
    refine fun K1 K2 k1 k2 => k1 _ _ _ G1 (Ext.refl D G1) ok1 rfl ⟨Nat.le_trans putD_len (Nat.succ_le_succ hA.1), fun s hs => ?_⟩
    rw [List.take_succ, hm0] at hs
    rw [valD_put]
    split
    · rfl
    · rename_i hne
      rcases List.mem_append.mp hs with hs | hs
      · exact hA.2 s hs
      · simp at hs; exact absurd (by rw [hs]) hne
  have kA12 := kA.mono e12
  have qa : q ≠ a := Ne.symm (kA.ne fQ)
  refine fset_step ok0 ha (e11.trans e12) kA12 (by decide +kernel) (by simp) fun G13 e13 ok13 kA kk => ?_
  have knQ13 := kk _ _ qa knQ
  ((first | rw [e_cons] | (dsimp only; rw [e_cons])); try simp only [dZ, dG, boR, coR, bfD, bmD, bmT, wipeD, sizeLine, Nat.reduceAdd, Nat.reducePow, Nat.reduceLeDiff, reduceIte, String.reduceBEq])
  refine NewO.run ok13 fun z G14 e14 ok14 knZ fZ => ?_
  have kA14 := kA.mono e14
  refine fset_step ok0 ha (e13.trans e14) kA14 (by decide +kernel) (by simp [putFD]) fun G15 e15 ok15 kA kk => ?_
  rw [e_nil]
  refine k _ e15 ok15 ⟨_, q, acc, kA, rfl, rfl, rfl, kk _ _ qa (knQ13.mono e14), fun s hs => hA.2 s ?_, by rw [O.nl]; exact O.dl⟩
  rw [← O.nl, List.take_length]; exact hs
/-! the deed of a name -/
theorem c_dbn : "Circle" ∈ tabs.clsOf "deed_by_name" := by decide +kernel
theorem c_names : "Circle" ∈ tabs.clsOf "names" := by decide +kernel
abbrev S_deedOf : DSp := SP (α := Addr × List Str × Str) (fun D x G ds => ds = [.ref x.1, .str x.2.2] ∧ CircleK D G x.1 x.2.1 ∧ x.2.2 ∈ x.2.1) (fun D x G v => True)
theorem sv_deedOf {C : Nat → DSp} : Serves tabs C f_Circle_deed S_deedOf := SP.serves fun D x ds G EX P ok ⟨e, h1, h2⟩ k => by
  obtain ⟨c, nms, s⟩ := x
  obtain ⟨fs, q, kvs, a1, a2, a3, a4, a5, a6, a7⟩ := h1
  subst e
  show denSs tabs C EX _ _ [some _, some _] G
  rw [f_Circle_deed]
  ((first | rw [e_cons] | (dsimp only; rw [e_cons])); try simp only [dZ, dG, boR, coR, bfD, bmD, bmT, wipeD, sizeLine, Nat.reduceAdd, Nat.reducePow, Nat.reduceLeDiff, reduceIte, String.reduceBEq])
  refine ⟨_, _, _, _, rfl, a1.2, c_dbn, a3, ?_⟩
  rw [o_inD a5.2]
  refine ⟨_, rfl, ?_⟩
  rw [a6 s h2]
  (try simp only [dZ, dG, boR, coR, bfD, bmD, bmT, wipeD, sizeLine, Nat.reduceAdd, Nat.reducePow, Nat.reduceLeDiff, reduceIte, String.reduceBEq])
  (rw [e_nil]; dsimp only; rw [e_cons]; try simp only [dZ, dG, boR, coR, bfD, bmD, bmT, wipeD, sizeLine, Nat.reduceAdd, Nat.reducePow, Nat.reduceLeDiff, reduceIte, String.reduceBEq])
  refine ⟨_, _, _, _, rfl, a1.2, c_dbn, a3, ?_⟩
  rw [o_ixD a5.2]
  obtain ⟨v, hv⟩ := Option.isSome_iff_exists.mp (a6 s h2)
  exact ⟨_, v, rfl, hv, k _ _ (Ext.refl D G) ok trivial⟩
end DL
end
section
set_option Elab.async false
set_option linter.all false
set_option maxRecDepth 100000
set_option autoImplicit false
namespace DL
open PySem PySem.Spec PyProof.Rows L2
open PySem.PyData (strOk)
section
variable {D : Dk} {G0 G : DH} {p q : Addr} {acc zs : List DV} {v : DV} {P : DK}
theorem ty_lst (kn : Kn D G p (.lst acc)) : tyD G (.ref p) = some "list" := by unfold tyD; dsimp only; rw [kn.2]
theorem app_step (ok0 : okD D G0) (hp : G0 p = none) (e : Ext D G0 G) (kn : Kn D G p (.lst acc)) (hl : acc.length < sizeLine)
    (k : ∀ G', Ext D G0 G' → okD D G' → Kn D G' p (.lst (acc ++ [v])) → (∀ b o, b ≠ p → Kn D G b o → Kn D G' b o) → P .non G') : dAppend (.ref p) [v] G P :=
  ⟨p, acc, v, rfl, rfl, kn.2, hl, k _ (Ext.wr e ok0 hp) ((Ext.wr e ok0 hp).d ok0) kn.wr fun b o hb kb => kb.wrN hb⟩
theorem ext_step (ok0 : okD D G0) (hp : G0 p = none) (e : Ext D G0 G) (kn : Kn D G p (.lst acc)) (kq : Kn D G q (.lst zs)) (hl : acc.length + zs.length ≤ sizeLine)
    (k : ∀ G', Ext D G0 G' → okD D G' → Kn D G' p (.lst (acc ++ zs)) → (∀ b o, b ≠ p → Kn D G b o → Kn D G' b o) → P .non G') : dExtend (.ref p) [.ref q] G P :=
  ⟨p, q, acc, zs, rfl, rfl, kn.2, kq.2, hl, k _ (Ext.wr e ok0 hp) ((Ext.wr e ok0 hp).d ok0) kn.wr fun b o hb kb => kb.wrN hb⟩
end
/-! ### watchers -/
abbrev rowD (r : List Int) : DV := .tup (r.map .int)
/-- a watcher's shape: n deeds, at most L standings -/
structure WS (n L : Nat) (rows : List (List Int)) (good : List Int) : Prop where
  ne : 1 ≤ rows.length
  le : rows.length ≤ L
  r : ∀ r ∈ rows, r.length = n ∧ ∀ i ∈ r, 0 ≤ i ∧ i < rows.length
  g : good.length ≤ rows.length
abbrev watD (rows : List (List Int)) (good : List Int) : DV := .tup [.tup (rows.map rowD), .tup (good.map .int)]
def WOk (n L : Nat) (x : DV) : Prop := ∃ rows good, x = watD rows good ∧ WS n L rows good
theorem WOk.up {n L M : Nat} {x : DV} (h : WOk n L x) (l : L ≤ M) : WOk n M x := let ⟨r, g, e, w⟩ := h; ⟨r, g, e, ⟨w.ne, Nat.le_trans w.le l, w.r, w.g⟩⟩
def addM (m : Int) : DV → DV
  | .tup [.int a, .int b] => .int (a + m * b)
  | _ => .non
def pairRow (m : Int) (near far : List Int) : List Int := (near.zip far).map fun p => p.1 + m * p.2
theorem pairRow_D (m : Int) (near far : List Int) : (zipD (near.map .int) (far.map .int)).map (addM m) = (pairRow m near far).map .int := by
  unfold zipD pairRow
  rw [List.zip_map, List.map_map, List.map_map, List.map_map]; rfl
theorem zipD_le (xs ys : List DV) : (zipD xs ys).length ≤ xs.length := by unfold zipD; simp; omega
theorem pairRow_ok {n m M : Nat} {near far : List Int} (h1 : near.length = n ∧ ∀ i ∈ near, 0 ≤ i ∧ i < (m : Int)) (h2 : far.length = n ∧ ∀ i ∈ far, 0 ≤ i ∧ i < (M : Int)) : (pairRow m near far).length = n ∧ ∀ i ∈ pairRow m near far, 0 ≤ i ∧ i < ((M * m : Nat) : Int) := by
  refine ⟨by unfold pairRow; simp [h1.1, h2.1], fun i hi => ?_⟩
  unfold pairRow at hi
  obtain ⟨⟨a, b⟩, hp, rfl⟩ := List.mem_map.mp hi
  have ha := h1.2 a (List.of_mem_zip hp).1
  have hb := h2.2 b (List.of_mem_zip hp).2
  dsimp only
  have h3 : (m : Int) * b ≤ m * (M - 1) := Int.mul_le_mul_of_nonneg_left (by omega) (by omega)
  have h4 : 0 ≤ (m : Int) * b := Int.mul_nonneg (by omega) hb.1
  have h5 : (m : Int) * (M - 1) = M * m - m := by rw [Int.mul_sub, Int.mul_one, Int.mul_comm]
  rw [Int.natCast_mul]
  omega
theorem cmulL {i j : Int} (h0 : 0 ≤ i) (h1 : i ≤ 100000000) : CMul i j := .inl ⟨by omega, by omega⟩
abbrev S_lam : DSp := SP (α := Bool × Bool) (fun D x G ds => ds = [.bl x.1, .bl x.2]) (fun D x G v => v = .bl (x.1 && x.2))
theorem sv_lam {C : Nat → DSp} : ServesL tabs C lamD0 S_lam := fun ds G P EX hl ⟨D, x, ok, e, k⟩ => by
  obtain ⟨a, b⟩ := x
  subst e
  show den tabs C EX (.and [.v 0, .v 1]) [some _, some _] G P
  (try simp only [dZ, dG, boR, coR, bfD, bmD, bmT, wipeD, sizeLine, Nat.reduceAdd, Nat.reducePow, Nat.reduceLeDiff, reduceIte, String.reduceBEq])
  cases a <;> (try simp only [dZ, dG, boR, coR, bfD, bmD, bmT, wipeD, sizeLine, Nat.reduceAdd, Nat.reducePow, Nat.reduceLeDiff, reduceIte, String.reduceBEq]) <;> exact k _ _ (Ext.refl D G) ok rfl
abbrev S_pairR : DSp := SP (α := Nat × Nat × Nat × List (List Int) × List Int × List (List Int) × List Int) (fun D x G ds => ds = [watD x.2.2.2.1 x.2.2.2.2.1, watD x.2.2.2.2.2.1 x.2.2.2.2.2.2] ∧ x.1 ≤ 100 ∧ x.2.1 ≤ 1000 ∧ x.2.2.1 ≤ 1000 ∧ WS x.1 x.2.1 x.2.2.2.1 x.2.2.2.2.1 ∧ WS x.1 x.2.2.1 x.2.2.2.2.2.1 x.2.2.2.2.2.2)
  (fun D x G v => ∃ rows : List (List Int), v = .tup (rows.map rowD) ∧ rows.length = x.2.2.2.2.2.1.length * x.2.2.2.1.length ∧ ∀ r ∈ rows, r.length = x.1 ∧ ∀ i ∈ r, 0 ≤ i ∧ i < ((x.2.2.2.2.2.1.length * x.2.2.2.1.length : Nat) : Int))
theorem mul_le' {a b c d : Nat} (h1 : a ≤ b) (h2 : c ≤ d) : a * c ≤ b * d := Nat.mul_le_mul h1 h2
theorem at_map {α : Type} {f : α → DV} {l : List α} {i : Nat} {x : DV} (h : (l.map f)[i]? = some x) : ∃ a, x = f a ∧ a ∈ l ∧ l[i]? = some a := by
  rw [List.getElem?_map] at h
  obtain ⟨a, h1, h2⟩ := Option.map_eq_some_iff.mp h
  exact ⟨a, h2.symm, List.mem_of_getElem? h1, h1⟩
theorem sv_pairR {C : Nat → DSp} : Serves tabs C f_paired_rows S_pairR := SP.serves fun D x ds G EX P ok ⟨e, h0, h1, h2, w1, w2⟩ k => by
  obtain ⟨n, L, M, rows, good, rows2, good2⟩ := x
  dsimp only at h0 h1 h2 w1 w2
  subst e
  have b1 := w1.le
  have b2 := w2.le
  have bb : rows2.length * rows.length ≤ 1000 * 1000 := mul_le' (by omega) (by omega)
  show denSs tabs C EX _ _ [some _, some _, none, none, none, none, none, none] G
  rw [f_paired_rows]
  ((first | rw [e_cons] | (dsimp only; rw [e_cons])); try simp only [dZ, dG, boR, coR, bfD, bmD, bmT, wipeD, sizeLine, Nat.reduceAdd, Nat.reducePow, Nat.reduceLeDiff, reduceIte, String.reduceBEq])
  refine NewO.run ok fun p G1 e1 ok1 kn fp => ?_
  simp only [List.length_map]
  ((first | rw [e_cons] | (dsimp only; rw [e_cons])); try simp only [dZ, dG, boR, coR, bfD, bmD, bmT, wipeD, sizeLine, Nat.reduceAdd, Nat.reducePow, Nat.reduceLeDiff, reduceIte, String.reduceBEq])
  refine ForK.run (fun i τ' G' => ∃ fr nr, ∃ acc : List (List Int), τ' = [some (watD rows good), some (watD rows2 good2), fr, some (.int (rows.length : Nat)), some (.ref p), nr, none, none] ∧ Ext D G G' ∧ okD D G' ∧ Kn D G' p (.lst (acc.map rowD)) ∧ acc.length = i * rows.length ∧ i ≤ rows2.length ∧ ∀ r ∈ acc, r.length = n ∧ ∀ i ∈ r, 0 ≤ i ∧ i < ((rows2.length * rows.length : Nat) : Int)) ⟨none, none, [], rfl, e1, ok1, kn, by simp, Nat.zero_le _, by simp⟩ (fun _ _ _ _ => by trivial) (fun i τ' G' x hx ⟨fr, nr, acc, eτ, e', ok', kn', ha, hi, hr⟩ => ?_) fun τ' G' ⟨fr, nr, acc, eτ, e', ok', kn', ha, hi, hr⟩ => ?_
  · obtain ⟨far, rfl, hf, _⟩ := at_map hx
    have hi2 : i < rows2.length := by have := (List.getElem?_eq_some_iff.mp hx).1; simpa using this
    subst eτ
    (try simp only [dZ, dG, boR, coR, bfD, bmD, bmT, wipeD, sizeLine, Nat.reduceAdd, Nat.reducePow, Nat.reduceLeDiff, reduceIte, String.reduceBEq])
    ((first | rw [e_cons] | (dsimp only; rw [e_cons])); try simp only [dZ, dG, boR, coR, bfD, bmD, bmT, wipeD, sizeLine, Nat.reduceAdd, Nat.reducePow, Nat.reduceLeDiff, reduceIte, String.reduceBEq])
    refine ForK.run (fun j τ' G' => ∃ nr, ∃ acc : List (List Int), τ' = [some (watD rows good), some (watD rows2 good2), some (rowD far), some (.int (rows.length : Nat)), some (.ref p), nr, none, none] ∧ Ext D G G' ∧ okD D G' ∧ Kn D G' p (.lst (acc.map rowD)) ∧ acc.length = i * rows.length + j ∧ j ≤ rows.length ∧ ∀ r ∈ acc, r.length = n ∧ ∀ i ∈ r, 0 ≤ i ∧ i < ((rows2.length * rows.length : Nat) : Int)) ⟨_, acc, rfl, e', ok', kn', by simp [ha], Nat.zero_le _, hr⟩ (fun _ _ _ _ => by trivial) (fun j τ' G' x hx ⟨nr, acc, eτ, e', ok', kn', ha, hj, hr⟩ => ?_) fun τ' G' ⟨nr, acc, eτ, e', ok', kn', ha, hj, hr⟩ => ?_
    · obtain ⟨near, rfl, hn, _⟩ := at_map hx
      have hj2 : j < rows.length := by have := (List.getElem?_eq_some_iff.mp hx).1; simpa using this
      subst eτ
      have w := pairRow_ok (w1.r near hn) (w2.r far hf)
      (try simp only [dZ, dG, boR, coR, bfD, bmD, bmT, wipeD, sizeLine, Nat.reduceAdd, Nat.reducePow, Nat.reduceLeDiff, reduceIte, String.reduceBEq])
      ((first | rw [e_cons] | (dsimp only; rw [e_cons])); try simp only [dZ, dG, boR, coR, bfD, bmD, bmT, wipeD, sizeLine, Nat.reduceAdd, Nat.reducePow, Nat.reduceLeDiff, reduceIte, String.reduceBEq])
      refine ⟨ty_lst kn', ?_⟩
      unfold dZip
      (try simp only [dZ, dG, boR, coR, bfD, bmD, bmT, wipeD, sizeLine, Nat.reduceAdd, Nat.reducePow, Nat.reduceLeDiff, reduceIte, String.reduceBEq])
      refine ⟨_, _, ⟨rfl, rfl⟩, .inl ⟨_, _, rfl, rfl, ?_⟩⟩
      refine LcK.map (D := D) (addM rows.length) (fun _ => true) ok' (sz100 (Nat.le_trans (zipD_le _ _) (by rw [List.length_map, (w1.r near hn).1]; exact h0))) (fun _ _ => by trivial) (fun x hx => ?_) fun q G3 e3 ok3 kq _ => ?_
      · obtain ⟨a, b, rfl⟩ := mem_zip_map hx
        (try simp only [dZ, dG, boR, coR, bfD, bmD, bmT, wipeD, sizeLine, Nat.reduceAdd, Nat.reducePow, Nat.reduceLeDiff, reduceIte, String.reduceBEq])
        exact fun G1 e1 ok1 K1 K2 k1 _ => ⟨cmulL (by omega) (by omega), k1 G1 (Ext.refl D G1) ok1 trivial⟩
      rw [List.filter_eq_self.mpr (fun _ _ => rfl), pairRow_D] at kq
      rw [o_tupO (seq_kn kq)]
      have hle : i * rows.length + j < 1000 * 1000 := by
        have : (i + 1) * rows.length ≤ rows2.length * rows.length := Nat.mul_le_mul_right _ hi2
        rw [Nat.succ_mul] at this
        omega
      refine app_step ok fp (e'.trans e3) (kn'.mono e3) (by rw [List.length_map, ha]; have : sizeLine = 16777216 := rfl; omega) fun G4 e4 ok4 kn4 _ => ?_
      (first | (rw [e_nil]; try dsimp only) | (dsimp only; rw [e_nil]; try dsimp only))
      refine ⟨_, acc ++ [pairRow rows.length near far], rfl, e4, ok4, by rw [List.map_append]; exact kn4, by rw [List.length_append, ha, List.length_singleton]; omega, hj2, fun r hr' => ?_⟩
      rcases List.mem_append.mp hr' with h | h
      · exact hr r h
      · rw [List.mem_singleton.mp h]; exact w
    · subst eτ
      (first | (rw [e_nil]; try dsimp only) | (dsimp only; rw [e_nil]; try dsimp only))
      rw [List.length_map] at ha
      exact ⟨_, _, acc, rfl, e', ok', kn', by rw [ha, Nat.succ_mul], hi2, hr⟩
  · subst eτ
    rw [List.length_map] at ha
    ((first | rw [e_cons] | (dsimp only; rw [e_cons])); try simp only [dZ, dG, boR, coR, bfD, bmD, bmT, wipeD, sizeLine, Nat.reduceAdd, Nat.reducePow, Nat.reduceLeDiff, reduceIte, String.reduceBEq])
    rw [o_tupO (seq_kn kn')]
    exact k _ _ e' ok' ⟨acc, rfl, ha, hr⟩
end DL
end
section
set_option Elab.async false
set_option linter.all false
set_option maxRecDepth 100000
set_option autoImplicit false
namespace DL
open PySem PySem.Spec PyProof.Rows L2
open PySem.PyData (strOk)
theorem flats_ints (is : List Int) : flats (is.map DV.int) = true := by unfold flats; rw [List.all_map]; exact List.all_eq_true.mpr fun _ _ => rfl
theorem mem_rng {lo : Int} {n : Nat} {x : DV} (h : x ∈ rngD lo n) : ∃ i : Nat, i < n ∧ x = .int (lo + i) := by
  unfold rngD at h
  obtain ⟨i, hi, rfl⟩ := List.mem_map.mp h
  exact ⟨i, List.mem_range.mp hi, rfl⟩
theorem rng_at {lo : Int} {n i : Nat} {x : DV} (h : (rngD lo n)[i]? = some x) : x = .int (lo + i) ∧ i < n := by
  unfold rngD at h
  rw [List.getElem?_map] at h
  obtain ⟨a, h1, h2⟩ := Option.map_eq_some_iff.mp h
  have := List.getElem?_eq_some_iff.mp h1
  obtain ⟨hl, e⟩ := this
  simp at hl e
  subst e
  exact ⟨h2.symm, hl⟩
abbrev S_pairS : DSp := SP (α := Nat × Nat × Nat × List (List Int) × List Int × List (List Int) × List Int) (fun D x G ds => ds = [watD x.2.2.2.1 x.2.2.2.2.1, watD x.2.2.2.2.2.1 x.2.2.2.2.2.2, .fv lamL0] ∧ x.1 ≤ 100 ∧ x.2.1 ≤ 1000 ∧ x.2.2.1 ≤ 1000 ∧ WS x.1 x.2.1 x.2.2.2.1 x.2.2.2.2.1 ∧ WS x.1 x.2.2.1 x.2.2.2.2.2.1 x.2.2.2.2.2.2)
  (fun D x G v => ∃ good : List Int, v = .tup (good.map .int) ∧ good.length ≤ x.2.2.2.2.2.1.length * x.2.2.2.1.length)
theorem lam_mem : (lamL0, 50, 2) ∈ tabs.lams := List.mem_singleton.mpr rfl
theorem sv_pairS {C : Nat → DSp} (h50 : Has C 50 S_lam) : Serves tabs C f_paired_standings S_pairS := SP.serves fun D x ds G EX P ok ⟨e, h0, h1, h2, w1, w2⟩ k => by
  obtain ⟨n, L, M, rows, good, rows2, good2⟩ := x
  dsimp only at h0 h1 h2 w1 w2
  subst e
  have b1 := w1.le
  have b2 := w2.le
  have bb : rows2.length * rows.length ≤ 1000 * 1000 := mul_le' (by omega) (by omega)
  show denSs tabs C EX _ _ [some _, some _, some _, none, none, none] G
  rw [f_paired_standings]
  ((first | rw [e_cons] | (dsimp only; rw [e_cons])); try simp only [dZ, dG, boR, coR, bfD, bmD, bmT, wipeD, sizeLine, Nat.reduceAdd, Nat.reducePow, Nat.reduceLeDiff, reduceIte, String.reduceBEq])
  refine NewO.run ok fun p G1 e1 ok1 kn fp => ?_
  ((first | rw [e_cons] | (dsimp only; rw [e_cons])); try simp only [dZ, dG, boR, coR, bfD, bmD, bmT, wipeD, sizeLine, Nat.reduceAdd, Nat.reducePow, Nat.reduceLeDiff, reduceIte, String.reduceBEq])
  simp only [List.length_map]
  refine ⟨by omega, by omega, ?_⟩
  refine ForK.run (fun i τ' G' => ∃ lr, ∃ acc : List Int, τ' = [some (watD rows good), some (watD rows2 good2), some (.fv lamL0), some (.ref p), lr, none] ∧ Ext D G G' ∧ okD D G' ∧ Kn D G' p (.lst (acc.map .int)) ∧ acc.length ≤ i * rows.length) ⟨none, [], rfl, e1, ok1, kn, by simp⟩ (fun _ _ _ _ => by trivial) (fun i τ' G' x hx ⟨lr, acc, eτ, e', ok', kn', ha⟩ => ?_) fun τ' G' ⟨lr, acc, eτ, e', ok', kn', ha⟩ => ?_
  · obtain ⟨rfl, hi⟩ := rng_at hx
    have hi2 : i < rows2.length := by omega
    subst eτ
    (try simp only [dZ, dG, boR, coR, bfD, bmD, bmT, wipeD, sizeLine, Nat.reduceAdd, Nat.reducePow, Nat.reduceLeDiff, reduceIte, String.reduceBEq])
    ((first | rw [e_cons] | (dsimp only; rw [e_cons])); try simp only [dZ, dG, boR, coR, bfD, bmD, bmT, wipeD, sizeLine, Nat.reduceAdd, Nat.reducePow, Nat.reduceLeDiff, reduceIte, String.reduceBEq])
    refine ⟨ty_lst kn', ?_⟩
    simp only [List.length_map]
    refine ⟨by omega, by omega, ?_⟩
    refine LcK.run (D := D) (fun j l => ∃ is : List Int, l = is.map .int) ok' (by rw [rngD_len]; have : sizeLine = 16777216 := rfl; omega) (fun _ _ => by trivial) ⟨[], rfl⟩ (fun j l G2 x e2 ok2 hx ⟨is, el⟩ => ?_) fun q G3 l e3 ok3 kq hl _ ⟨is, el⟩ => ?_
    · obtain ⟨rfl, hj⟩ := rng_at hx
      (try simp only [dZ, dG, boR, coR, bfD, bmD, bmT, wipeD, sizeLine, Nat.reduceAdd, Nat.reducePow, Nat.reduceLeDiff, reduceIte, String.reduceBEq])
      refine fun K1 K2 k1 k2 => ⟨_, _, _, rfl, lam_mem, ?_⟩
      simp only [o_inT]
      refine ⟨rfl, flats_ints _, rfl, flats_ints _, by trivial, ?_⟩
      simp only [Bool.false_xor]
      refine SP.use h50 (_, _) ok2 rfl fun v G4 e4 ok4 hv => ⟨_, hv, ?_⟩
      split
      · refine ⟨cmulL (by simp) (by simp only [List.length_map]; omega), k1 _ G4 e4 ok4 ⟨is ++ [_], by rw [List.map_append, ← el]; rfl⟩⟩
      · exact k2 G4 e4 ok4 ⟨is, el⟩
    subst el
    rw [rngD_len, List.length_map] at hl
    have hle : i * rows.length + rows.length ≤ 1000 * 1000 := by
      have : (i + 1) * rows.length ≤ rows2.length * rows.length := Nat.mul_le_mul_right _ hi2
      rw [Nat.succ_mul] at this
      omega
    refine ext_step ok fp (e'.trans e3) (kn'.mono e3) kq (by rw [List.length_map, List.length_map]; have : sizeLine = 16777216 := rfl; omega) fun G4 e4 ok4 kn4 _ => ?_
    (first | (rw [e_nil]; try dsimp only) | (dsimp only; rw [e_nil]; try dsimp only))
    exact ⟨_, acc ++ is, rfl, e4, ok4, by rw [List.map_append]; exact kn4, by rw [List.length_append, Nat.succ_mul]; omega⟩
  · subst eτ
    rw [rngD_len] at ha
    ((first | rw [e_cons] | (dsimp only; rw [e_cons])); try simp only [dZ, dG, boR, coR, bfD, bmD, bmT, wipeD, sizeLine, Nat.reduceAdd, Nat.reducePow, Nat.reduceLeDiff, reduceIte, String.reduceBEq])
    rw [o_tupO (seq_kn kn')]
    exact k _ _ e' ok' ⟨acc, rfl, by simpa using ha⟩
abbrev S_both : DSp := SP (α := Nat × Nat × Nat × Addr × DV × DV) (fun D x G ds => ds = [.ref x.2.2.2.1, x.2.2.2.2.1, x.2.2.2.2.2] ∧ x.1 ≤ 100 ∧ x.2.1 ≤ 1000 ∧ x.2.2.1 ≤ 1000 ∧ WOk x.1 x.2.1 x.2.2.2.2.1 ∧ WOk x.1 x.2.2.1 x.2.2.2.2.2) (fun D x G v => WOk x.1 (x.2.2.1 * x.2.1) v)
theorem lam_den {C : Nat → DSp} {E : DXK} {τ : DSt} {G : DH} {P : DK} : den tabs C E (.lam 0) τ G P = P (.fv lamL0) G := by rw [d_lam]; rfl
theorem sv_both {C : Nat → DSp} (h26 : Has C 26 S_pairR) (h27 : Has C 27 S_pairS) : Serves tabs C f_both S_both := SP.serves fun D x ds G EX P ok ⟨e, h0, h1, h2, w1, w2⟩ k => by
  obtain ⟨n, L, M, c, x, y⟩ := x
  dsimp only at h0 h1 h2 w1 w2
  obtain ⟨rows, good, rfl, w1⟩ := w1
  obtain ⟨rows2, good2, rfl, w2⟩ := w2
  subst e
  show denSs tabs C EX _ _ [some _, some _, some _] G
  rw [f_both]
  ((first | rw [e_cons] | (dsimp only; rw [e_cons])); try simp only [dZ, dG, boR, coR, bfD, bmD, bmT, wipeD, sizeLine, Nat.reduceAdd, Nat.reducePow, Nat.reduceLeDiff, reduceIte, String.reduceBEq])
  refine SP.use h26 (n, L, M, rows, good, rows2, good2) ok ⟨rfl, h0, h1, h2, w1, w2⟩ fun v G2 e2 ok2 ⟨rr, hv, hl, hr⟩ => ?_
  subst hv
  rw [lam_den]
  refine SP.use h27 (n, L, M, rows, good, rows2, good2) ok2 ⟨rfl, h0, h1, h2, w1, w2⟩ fun v G3 e3 ok3 ⟨gg, hv, hg⟩ => ?_
  subst hv
  dsimp only at hl hr hg
  have := w1.ne
  have := w2.ne
  exact k _ _ (e2.trans e3) ok3 ⟨rr, gg, rfl, ⟨by rw [hl]; exact Nat.mul_pos (by omega) (by omega), by rw [hl]; exact Nat.mul_le_mul w2.le w1.le, fun r hr' => by rw [hl]; exact hr r hr', by rw [hl]; exact hg⟩⟩
abbrev S_opp : DSp := SP (α := Nat × Nat × Addr × DV) (fun D x G ds => ds = [.ref x.2.2.1, x.2.2.2] ∧ x.2.1 ≤ 1000 ∧ WOk x.1 x.2.1 x.2.2.2) (fun D x G v => WOk x.1 x.2.1 v)
theorem sv_opp {C : Nat → DSp} : Serves tabs C f_opposite S_opp := SP.serves fun D x ds G EX P ok ⟨e, h1, w1⟩ k => by
  obtain ⟨n, L, c, x⟩ := x
  dsimp only at h1 w1
  obtain ⟨rows, good, rfl, w1⟩ := w1
  subst e
  have b1 := w1.le
  show denSs tabs C EX _ _ [some _, some _, none] G
  rw [f_opposite]
  ((first | rw [e_cons] | (dsimp only; rw [e_cons])); try simp only [dZ, dG, boR, coR, bfD, bmD, bmT, wipeD, sizeLine, Nat.reduceAdd, Nat.reducePow, Nat.reduceLeDiff, reduceIte, String.reduceBEq])
  simp only [List.length_map]
  refine ⟨by omega, by omega, ?_⟩
  refine LcK.run (D := D) (fun j l => ∃ is : List Int, l = is.map .int) ok (by rw [rngD_len]; have : sizeLine = 16777216 := rfl; omega) (fun _ _ => by trivial) ⟨[], rfl⟩ (fun j l G2 x e2 ok2 hx ⟨is, el⟩ => ?_) fun q G3 l e3 ok3 kq hl _ ⟨is, el⟩ => ?_
  · obtain ⟨rfl, hj⟩ := rng_at hx
    (try simp only [dZ, dG, boR, coR, bfD, bmD, bmT, wipeD, sizeLine, Nat.reduceAdd, Nat.reducePow, Nat.reduceLeDiff, reduceIte, String.reduceBEq])
    simp only [o_inT]
    refine fun K1 K2 k1 k2 => ⟨rfl, flats_ints _, _, rfl, ?_⟩
    split
    · exact k1 _ G2 (Ext.refl D G2) ok2 ⟨is ++ [_], by rw [List.map_append, ← el]; rfl⟩
    · exact k2 G2 (Ext.refl D G2) ok2 ⟨is, el⟩
  subst el
  rw [o_tupO (seq_kn kq)]
  rw [rngD_len, List.length_map] at hl
  exact k _ _ e3 ok3 ⟨rows, is, rfl, ⟨w1.ne, w1.le, w1.r, by simpa using hl⟩⟩
/-! done -/
def doneD (nms : List Str) (s : Str) : DV := watD [nms.map fun o => if o = s then 1 else 0, List.replicate nms.length 1] [1]
theorem done_ok (nms : List Str) (s : Str) : WOk nms.length 2 (doneD nms s) := ⟨_, _, rfl, ⟨by simp, by simp, fun r hr => by
  simp at hr
  rcases hr with rfl | rfl
  · refine ⟨by simp, fun i hi => ?_⟩
    obtain ⟨o, _, rfl⟩ := List.mem_map.mp hi
    simp only [List.length_cons, List.length_nil]
    split <;> decide
  · refine ⟨by simp, fun i hi => ?_⟩
    rw [(List.mem_replicate.mp hi).2]
    simp, by simp⟩⟩
theorem rep_one (n : Nat) : (List.replicate n [DV.int 1]).flatten = (List.replicate n (1 : Int)).map .int := by
  induction n with
  | zero => rfl
  | succ n ih => rw [List.replicate_succ, List.flatten_cons, ih, List.replicate_succ]; rfl
def eqStr (s : Str) : DV → DV
  | .str o => .int (if o = s then 1 else 0)
  | _ => .non
abbrev S_done : DSp := SP (α := Addr × List Str × Str) (fun D x G ds => ds = [.ref x.1, .str x.2.2] ∧ CircleK D G x.1 x.2.1 ∧ x.2.2 ∈ x.2.1) (fun D x G v => v = doneD x.2.1 x.2.2)
theorem sv_done {C : Nat → DSp} (h23 : Has C 23 S_deedOf) : Serves tabs C f_done S_done := SP.serves fun D x ds G EX P ok ⟨e, h1, h2⟩ k => by
  obtain ⟨c, nms, s⟩ := x
  dsimp only at h1 h2
  have h1' := h1
  obtain ⟨fs, q, kvs, a1, a2, a3, a4, a5, a6, a7⟩ := h1'
  subst e
  show denSs tabs C EX _ _ [some _, some _, none] G
  rw [f_done]
  ((first | rw [e_cons] | (dsimp only; rw [e_cons])); try simp only [dZ, dG, boR, coR, bfD, bmD, bmT, wipeD, sizeLine, Nat.reduceAdd, Nat.reducePow, Nat.reduceLeDiff, reduceIte, String.reduceBEq])
  refine ⟨c, fs, rfl, a1.2, a4, ?_⟩
  refine SP.use h23 (c, nms, s) ok ⟨rfl, h1, h2⟩ fun v G2 e2 ok2 _ => ?_
  have a1 := a1.mono e2
  ((first | rw [e_cons] | (dsimp only; rw [e_cons])); try simp only [dZ, dG, boR, coR, bfD, bmD, bmT, wipeD, sizeLine, Nat.reduceAdd, Nat.reducePow, Nat.reduceLeDiff, reduceIte, String.reduceBEq])
  refine ⟨_, _, _, _, rfl, a1.2, c_names, a2, _, rfl, ?_⟩
  refine LcK.map (D := D) (eqStr s) (fun _ => true) ok2 (sz100 (by simpa using a7)) (fun _ _ => by trivial) (fun x hx => ?_) fun p G3 e3 ok3 kp _ => ?_
  · obtain ⟨o, _, rfl⟩ := List.mem_map.mp hx
    (try simp only [dZ, dG, boR, coR, bfD, bmD, bmT, wipeD, sizeLine, Nat.reduceAdd, Nat.reducePow, Nat.reduceLeDiff, reduceIte, String.reduceBEq])
    refine fun G1 e1 ok1 K1 K2 k1 _ => o_eqS ?_
    (try simp only [dZ, dG, boR, coR, bfD, bmD, bmT, wipeD, sizeLine, Nat.reduceAdd, Nat.reducePow, Nat.reduceLeDiff, reduceIte, String.reduceBEq])
    have := k1 G1 (Ext.refl D G1) ok1 trivial
    unfold eqStr at this
    simpa using this
  rw [List.filter_eq_self.mpr (fun _ _ => rfl), List.map_map] at kp
  rw [o_tupO (seq_kn kp)]
  have a1 := a1.mono e3
  refine ⟨_, _, _, _, rfl, a1.2, c_names, a2, ?_⟩
  (try simp only [dZ, dG, boR, coR, bfD, bmD, bmT, wipeD, sizeLine, Nat.reduceAdd, Nat.reducePow, Nat.reduceLeDiff, reduceIte, String.reduceBEq])
  rw [List.length_map]
  refine ⟨by omega, by omega, ?_⟩
  refine k _ _ (e2.trans e3) ok3 ?_
  unfold doneD watD rowD
  rw [Int.toNat_natCast, rep_one]
  simp only [List.map_cons, List.map_nil, List.map_map]
  rfl
end DL
end
section
set_option Elab.async false
set_option linter.all false
set_option maxRecDepth 100000
set_option autoImplicit false
namespace DL
open PySem PySem.Spec PyProof.Rows L2
open PySem.PyData (strOk)
theorem eqv_emptyL (ps : List PyData) : PyData.eqv (.list ps) (.list []) = ps.isEmpty := by cases ps <;> simp [PyData.eqv, PyData.eqvAll]
theorem omap_empty {f : DV → Option PyData} {xs : List DV} {ps : List PyData} (h : omap f xs = some ps) : ps.isEmpty = xs.isEmpty := by
  cases xs with
  | nil => cases h; rfl
  | cons x xs =>
    unfold omap at h
    split at h
    · cases h; rfl
    · cases h
theorem toPD_nil {G : DH} {b : Addr} (hb : G b = some (.lst [])) : toPD G 60 (.ref b) = some (.list []) := by
  unfold toPD; rw [hb]; rfl
theorem toPD_lst {G : DH} {b : Addr} {xs : List DV} {ps : List PyData} (hb : G b = some (.lst xs)) (h : omap (toPD G 59) xs = some ps) : toPD G 60 (.ref b) = some (.list ps) := by
  unfold toPD; rw [hb]; dsimp only; rw [h]; rfl
section
variable {G : DH} {P : DK} {a b : Addr} {xs : List DV}
theorem o_eqLE (ha : G a = some (.lst xs)) (hb : G b = some (.lst [])) (h : ∀ x ∈ xs, PDk G 59 x) (k : P (.bl xs.isEmpty) G) : dEq (.ref a) (.ref b) G P := by
  obtain ⟨ps, h1, h2⟩ := omap_pd h
  exact .inr ⟨_, _, toPD_lst ha h1, toPD_nil hb, by simpa [PyData.canLay0] using h2, by simp [PyData.canLay0, PyData.canLayAll0], by rw [eqv_emptyL, omap_empty h1]; exact k⟩
theorem o_neLE (ha : G a = some (.lst xs)) (hb : G b = some (.lst [])) (h : ∀ x ∈ xs, PDk G 59 x) (k : P (.bl (!xs.isEmpty)) G) : dNe (.ref a) (.ref b) G P := by
  obtain ⟨ps, h1, h2⟩ := omap_pd h
  exact .inr ⟨_, _, toPD_lst ha h1, toPD_nil hb, by simpa [PyData.canLay0] using h2, by simp [PyData.canLay0, PyData.canLayAll0], by rw [eqv_emptyL, omap_empty h1]; exact k⟩
end
/-! ### any value -/
inductive Dat (D : Dk) (G : DH) : Nat → DV → Prop
  | int {n : Nat} {i : Int} : Dat D G n (.int i)
  | bl {n : Nat} {i : Bool} : Dat D G n (.bl i)
  | non {n : Nat} : Dat D G n .non
  | str {n : Nat} {s : Str} : strOk s = true → Dat D G n (.str s)
  | tup {n : Nat} {xs : List DV} : xs.length < sizeLine → (∀ x ∈ xs, Dat D G n x) → Dat D G (n + 1) (.tup xs)
  | lst {n : Nat} {a : Addr} {xs : List DV} : Kn D G a (.lst xs) → (∀ x ∈ xs, Dat D G n x) → Dat D G (n + 1) (.ref a)
section
variable {D : Dk} {G G1 : DH} {n m : Nat} {x : DV}
theorem Dat.mono (h : Dat D G n x) (e : Ext D G G1) : Dat D G1 n x := by
  induction h with
  | int => exact .int
  | bl => exact .bl
  | non => exact .non
  | str h => exact .str h
  | tup h _ ih => exact .tup h ih
  | lst k _ ih => exact .lst (k.mono e) ih
theorem Dat.up (h : Dat D G n x) : ∀ {m}, n ≤ m → Dat D G m x := by
  induction h with
  | int => exact fun _ => .int
  | bl => exact fun _ => .bl
  | non => exact fun _ => .non
  | str h => exact fun _ => .str h
  | tup h _ ih => intro m l; obtain ⟨m, rfl⟩ : ∃ k, m = k + 1 := ⟨m - 1, by omega⟩; exact .tup h fun y hy => ih y hy (by omega)
  | lst k _ ih => intro m l; obtain ⟨m, rfl⟩ : ∃ k, m = k + 1 := ⟨m - 1, by omega⟩; exact .lst k fun y hy => ih y hy (by omega)
theorem Dat.pd (h : Dat D G n x) : PDk G n x := by
  induction h with
  | int => exact PDk.int
  | bl => exact PDk.bl
  | non => exact PDk.non
  | str h => exact PDk.str h
  | tup h _ ih => exact PDk.tup ih
  | lst k _ ih => exact PDk.ref k.2 ih
theorem Dat.ty (h : Dat D G n x) : TyK D G x := by
  cases h with
  | lst k _ => exact ⟨⟨_, y_ref k.2, by rw [m_lst]; trivial⟩, fun a e => by cases e; exact k.1⟩
  | tup _ _ => exact ⟨⟨_, rfl, by rw [m_tup]; trivial⟩, fun a e => by cases e⟩
  | int => exact tyk_int
  | bl => exact ⟨⟨_, rfl, by rw [m_bl]; trivial⟩, fun a e => by cases e⟩
  | non => exact ⟨⟨_, rfl, by rw [m_non]; trivial⟩, fun a e => by cases e⟩
  | str _ => exact ⟨⟨_, rfl, by rw [m_str]; trivial⟩, fun a e => by cases e⟩
end
theorem TyK.mono {D : Dk} {G G1 : DH} {x : DV} (h : TyK D G x) (e : Ext D G G1) : TyK D G1 x := ⟨h.1.mono e h.2, h.2⟩
def isRowB (n : Nat) (m : Int) : DV → Bool
  | .tup is => decide (is.length = n) && is.all (isPlace m)
  | _ => false
def toI : DV → Int
  | .int i => i
  | _ => 0
def isStB (m : Int) : DV → Bool
  | .tup is => is.all (isPlace m) && ascI (is.map toI)
  | _ => false
def isW (n : Nat) : DV → Bool
  | .tup [.tup rows, gd] => !rows.isEmpty && (rows.all (isRowB n rows.length) && isStB rows.length gd)
  | _ => false
theorem places_int {m : Int} {is : List DV} (h : is.all (isPlace m) = true) : is = (is.map toI).map .int := by
  rw [List.map_map]
  conv => lhs; rw [← List.map_id is]
  refine List.map_congr_left fun x hx => ?_
  have := List.all_eq_true.mp h x hx
  cases x <;> first | rfl | cases this
/-- a value that is no tuple is none -/
theorem isi_no {D : Dk} {G : DH} {x : DV} {K : Bool → Prop} (h : TyK D G x) (hx : ∀ ys, x ≠ .tup ys) (hx2 : ∀ ys, x ≠ .xt ys) (k : K false) : ∃ t, tyN G x = some t ∧ t ∈ tabs.tys ∧ K (isa tabs.sub t (.b "tuple")) := by
  obtain ⟨⟨t, h1, h2⟩, _⟩ := h
  refine ⟨t, h1, h2, ?_⟩
  have : isa tabs.sub t (.b "tuple") = false := by
    cases x with
    | ref a => obtain ⟨t', h3, _, h4⟩ := ty_ref ⟨t, h1, h2⟩; rw [h1] at h3; cases h3; exact h4 _ (by decide)
    | tup ys => exact absurd rfl (hx ys)
    | xt ys => exact absurd rfl (hx2 ys)
    | ty n => cases h1
    | fv n => cases h1
    | _ => cases h1; rfl
  rw [this]; exact k
theorem Dat.cases {D : Dk} {G : DH} {n : Nat} {x : DV} (h : Dat D G n x) : (∃ ys m, x = .tup ys ∧ n = m + 1 ∧ ys.length < sizeLine ∧ ∀ y ∈ ys, Dat D G m y) ∨ ((∀ ys, x ≠ .tup ys) ∧ ∀ ys, x ≠ .xt ys) := by
  cases h with
  | tup h1 h2 => exact .inl ⟨_, _, rfl, rfl, h1, h2⟩
  | _ => exact .inr ⟨fun _ e => by (cases e), fun _ e => by (cases e)⟩
abbrev S_isRow : DSp := SP (α := Int × Nat × Nat × DV) (fun D x G ds => ds = [.int x.1, .int x.2.1, x.2.2.2] ∧ Dat D G x.2.2.1 x.2.2.2) (fun D x G v => v = .bl (isRowB x.2.1 x.1 x.2.2.2))
theorem isRowB_tup {n : Nat} {m : Int} {is : List DV} : isRowB n m (.tup is) = (decide (is.length = n) && is.all (isPlace m)) := rfl
theorem isStB_tup {m : Int} {is : List DV} : isStB m (.tup is) = (is.all (isPlace m) && ascI (is.map toI)) := rfl
theorem isRow_no {n : Nat} {m : Int} {x : DV} (h : ∀ ys, x ≠ .tup ys) : isRowB n m x = false := by cases x <;> first | rfl | exact absurd rfl (h _)
theorem isSt_no {m : Int} {x : DV} (h : ∀ ys, x ≠ .tup ys) : isStB m x = false := by cases x <;> first | rfl | exact absurd rfl (h _)
theorem dec_nat {a b : Nat} : decide ((a : Int) = (b : Int)) = decide (a = b) := decide_eq_decide.mpr ⟨fun h => by omega, fun h => by omega⟩
theorem sv_isRow {C : Nat → DSp} (h30 : Has C 30 S_place) : Serves tabs C f_is_row S_isRow := SP.serves fun D x ds G EX P ok ⟨e, h1⟩ k => by
  obtain ⟨m, n, q, x⟩ := x
  dsimp only at h1 k
  subst e
  show denSs tabs C EX _ _ [some _, some _, some _, none] G
  rw [f_is_row]
  rcases h1.cases with ⟨ys, q', rfl, rfl, hl, hy⟩ | ⟨n1, n2⟩
  · ((first | rw [e_cons] | (dsimp only; rw [e_cons])); try simp only [dZ, dG, boR, coR, bfD, bmD, bmT, wipeD, sizeLine, Nat.reduceAdd, Nat.reducePow, Nat.reduceLeDiff, reduceIte, String.reduceBEq])
    refine o_eqI ?_
    rw [dec_nat]
    refine ⟨_, rfl, ?_⟩
    cases hd : decide (ys.length = n) with
    | false => (try simp only [dZ, dG, boR, coR, bfD, bmD, bmT, wipeD, sizeLine, Nat.reduceAdd, Nat.reducePow, Nat.reduceLeDiff, reduceIte, String.reduceBEq]); exact k _ _ (Ext.refl D G) ok (by rw [isRowB_tup, hd]; rfl)
    | true =>
      (try simp only [dZ, dG, boR, coR, bfD, bmD, bmT, wipeD, sizeLine, Nat.reduceAdd, Nat.reducePow, Nat.reduceLeDiff, reduceIte, String.reduceBEq])
      refine LcK.all (D := D) (isPlace m) ok hl (fun _ _ => by trivial) (fun x hx => ?_) fun G2 e2 ok2 => k _ _ e2 ok2 (by rw [isRowB_tup, hd]; rfl)
      (try simp only [dZ, dG, boR, coR, bfD, bmD, bmT, wipeD, sizeLine, Nat.reduceAdd, Nat.reducePow, Nat.reduceLeDiff, reduceIte, String.reduceBEq])
      exact fun G5 e5 ok5 K1 K2 k1 => SP.use h30 (m, x) ok5 ⟨rfl, (hy x hx).ty.mono e5⟩ fun v G6 e6 ok6 hv => by subst hv; exact k1 G6 e6 ok6
  · ((first | rw [e_cons] | (dsimp only; rw [e_cons])); try simp only [dZ, dG, boR, coR, bfD, bmD, bmT, wipeD, sizeLine, Nat.reduceAdd, Nat.reducePow, Nat.reduceLeDiff, reduceIte, String.reduceBEq])
    refine isi_no (K := fun c => if c = true then _ else _) h1.ty n1 n2 ?_
    (try simp only [dZ, dG, boR, coR, bfD, bmD, bmT, wipeD, sizeLine, Nat.reduceAdd, Nat.reducePow, Nat.reduceLeDiff, reduceIte, String.reduceBEq])
    exact k _ _ (Ext.refl D G) ok (by rw [isRow_no n1])
abbrev S_stand : DSp := SP (α := Int × Nat × DV) (fun D x G ds => ds = [.int x.1, x.2.2] ∧ Dat D G x.2.1 x.2.2) (fun D x G v => v = .bl (isStB x.1 x.2.2))
theorem sv_stand {C : Nat → DSp} (h30 : Has C 30 S_place) (h33 : Has C 33 S_ascI) : Serves tabs C f_are_standings S_stand := SP.serves fun D x ds G EX P ok ⟨e, h1⟩ k => by
  obtain ⟨m, q, x⟩ := x
  dsimp only at h1 k
  subst e
  show denSs tabs C EX _ _ [some _, some _, none] G
  rw [f_are_standings]
  rcases h1.cases with ⟨ys, q', rfl, rfl, hl, hy⟩ | ⟨n1, n2⟩
  · ((first | rw [e_cons] | (dsimp only; rw [e_cons])); try simp only [dZ, dG, boR, coR, bfD, bmD, bmT, wipeD, sizeLine, Nat.reduceAdd, Nat.reducePow, Nat.reduceLeDiff, reduceIte, String.reduceBEq])
    refine LcK.all (D := D) (isPlace m) ok hl (fun _ _ => by trivial) (fun x hx => ?_) fun G2 e2 ok2 => ?_
    · (try simp only [dZ, dG, boR, coR, bfD, bmD, bmT, wipeD, sizeLine, Nat.reduceAdd, Nat.reducePow, Nat.reduceLeDiff, reduceIte, String.reduceBEq])
      exact fun G5 e5 ok5 K1 K2 k1 => SP.use h30 (m, x) ok5 ⟨rfl, (hy x hx).ty.mono e5⟩ fun v G6 e6 ok6 hv => by subst hv; exact k1 G6 e6 ok6
    refine ⟨_, rfl, ?_⟩
    cases hd : ys.all (isPlace m) with
    | false =>
      (try simp only [dZ, dG, boR, coR, bfD, bmD, bmT, wipeD, sizeLine, Nat.reduceAdd, Nat.reducePow, Nat.reduceLeDiff, reduceIte, String.reduceBEq])
      ((first | rw [e_cons] | (dsimp only; rw [e_cons])); try simp only [dZ, dG, boR, coR, bfD, bmD, bmT, wipeD, sizeLine, Nat.reduceAdd, Nat.reducePow, Nat.reduceLeDiff, reduceIte, String.reduceBEq])
      exact k _ _ e2 ok2 (by rw [isStB_tup, hd]; rfl)
    | true =>
      (try simp only [dZ, dG, boR, coR, bfD, bmD, bmT, wipeD, sizeLine, Nat.reduceAdd, Nat.reducePow, Nat.reduceLeDiff, reduceIte, String.reduceBEq])
      (rw [e_nil]; dsimp only; rw [e_cons]; try simp only [dZ, dG, boR, coR, bfD, bmD, bmT, wipeD, sizeLine, Nat.reduceAdd, Nat.reducePow, Nat.reduceLeDiff, reduceIte, String.reduceBEq])
      refine SP.use h33 (.inl (ys.map toI)) ok2 ⟨by rw [← places_int hd], by rw [List.length_map]; exact hl⟩ fun v G4 e4 ok4 hv => k _ _ (e2.trans e4) ok4 (by rw [hv]; rw [isStB_tup, hd]; rfl)
  · ((first | rw [e_cons] | (dsimp only; rw [e_cons])); try simp only [dZ, dG, boR, coR, bfD, bmD, bmT, wipeD, sizeLine, Nat.reduceAdd, Nat.reducePow, Nat.reduceLeDiff, reduceIte, String.reduceBEq])
    refine isi_no (K := fun c => if (!c) = true then _ else _) h1.ty n1 n2 ?_
    (try simp only [dZ, dG, boR, coR, bfD, bmD, bmT, wipeD, sizeLine, Nat.reduceAdd, Nat.reducePow, Nat.reduceLeDiff, reduceIte, String.reduceBEq])
    ((first | rw [e_cons] | (dsimp only; rw [e_cons])); try simp only [dZ, dG, boR, coR, bfD, bmD, bmT, wipeD, sizeLine, Nat.reduceAdd, Nat.reducePow, Nat.reduceLeDiff, reduceIte, String.reduceBEq])
    exact k _ _ (Ext.refl D G) ok (by rw [isSt_no n1])
def WX (D : Dk) (G : DH) (x : DV) : Prop := Dat D G 20 x ∨ (∃ a, x = .ref a) ∧ TyK D G x
theorem WX.mono {D : Dk} {G G1 : DH} {x : DV} (h : WX D G x) (e : Ext D G G1) : WX D G1 x := h.imp (fun h => h.mono e) fun h => ⟨h.1, h.2.mono e⟩
theorem WX.cases {D : Dk} {G : DH} {x : DV} (h : WX D G x) : (∃ ys, x = .tup ys ∧ ys.length < sizeLine ∧ ∀ y ∈ ys, Dat D G 19 y) ∨ (TyK D G x ∧ (∀ ys, x ≠ .tup ys) ∧ ∀ ys, x ≠ .xt ys) := by
  rcases h with h | ⟨⟨a, rfl⟩, h⟩
  · rcases h.cases with ⟨ys, m, rfl, e, h1, h2⟩ | ⟨h1, h2⟩
    · cases e; exact .inl ⟨ys, rfl, h1, h2⟩
    · exact .inr ⟨h.ty, h1, h2⟩
  · exact .inr ⟨h, fun _ e => by (cases e), fun _ e => by (cases e)⟩
theorem isW_no {n : Nat} {x : DV} (h : ∀ ys, x ≠ .tup ys) : isW n x = false := by cases x <;> first | rfl | exact absurd rfl (h _)
theorem isW_no1 {n : Nat} {a b : DV} (h : ∀ ys, a ≠ .tup ys) : isW n (.tup [a, b]) = false := by cases a <;> first | rfl | exact absurd rfl (h _)
theorem isW_len {n : Nat} {xs : List DV} (h : xs.length ≠ 2) : isW n (.tup xs) = false := by
  rcases xs with _ | ⟨a, _ | ⟨b, _ | ⟨c, r⟩⟩⟩
  · rfl
  · cases a <;> rfl
  · simp at h
  · cases a <;> rfl
theorem two_of {xs : List DV} (h : xs.length = 2) : ∃ a b, xs = [a, b] := by
  rcases xs with _ | ⟨a, _ | ⟨b, _ | ⟨c, r⟩⟩⟩
  · simp at h
  · simp at h
  · exact ⟨a, b, rfl⟩
  · simp at h
end DL
end
section
set_option Elab.async false
set_option linter.all false
set_option maxRecDepth 100000
set_option autoImplicit false
namespace DL
open PySem PySem.Spec PyProof.Rows L2
open PySem.PyData (strOk)
abbrev S_isW : DSp := SP (α := Addr × List Str × DV) (fun D x G ds => ds = [.ref x.1, x.2.2] ∧ CircleK D G x.1 x.2.1 ∧ WX D G x.2.2) (fun D x G v => v = .bl (isW x.2.1.length x.2.2))
theorem neq2 {xs : List DV} : (!decide ((xs.length : Int) = 2)) = !decide (xs.length = 2) := by
  rw [show decide ((xs.length : Int) = 2) = decide (xs.length = 2) from decide_eq_decide.mpr ⟨fun h => by omega, fun h => by omega⟩]
theorem sv_isW {C : Nat → DSp} (h25 : Has C 25 S_isRow) (h24 : Has C 24 S_stand) : Serves tabs C f_is_watcher S_isW := SP.serves fun D x ds G EX P ok ⟨e, h1, h2⟩ k => by
  obtain ⟨c, nms, x⟩ := x
  dsimp only at h1 h2 k
  obtain ⟨fs, q, kvs, a1, a2, a3, a4, a5, a6, a7⟩ := h1
  subst e
  show denSs tabs C EX _ _ [some _, some _, none, none, none] G
  rw [f_is_watcher]
  rcases h2.cases with ⟨ys, rfl, hl, hy⟩ | ⟨ht, n1, n2⟩
  · ((first | rw [e_cons] | (dsimp only; rw [e_cons])); try simp only [dZ, dG, boR, coR, bfD, bmD, bmT, wipeD, sizeLine, Nat.reduceAdd, Nat.reducePow, Nat.reduceLeDiff, reduceIte, String.reduceBEq])
    refine o_neI ?_
    rw [neq2]
    refine ⟨_, rfl, ?_⟩
    cases hd : decide (ys.length = 2) with
    | false =>
      (try simp only [dZ, dG, boR, coR, bfD, bmD, bmT, wipeD, sizeLine, Nat.reduceAdd, Nat.reducePow, Nat.reduceLeDiff, reduceIte, String.reduceBEq])
      ((first | rw [e_cons] | (dsimp only; rw [e_cons])); try simp only [dZ, dG, boR, coR, bfD, bmD, bmT, wipeD, sizeLine, Nat.reduceAdd, Nat.reducePow, Nat.reduceLeDiff, reduceIte, String.reduceBEq])
      exact k _ _ (Ext.refl D G) ok (by rw [isW_len (of_decide_eq_false hd)])
    | true =>
      obtain ⟨a, b, rfl⟩ := two_of (of_decide_eq_true hd)
      have ha := hy a List.mem_cons_self
      have hb := hy b (List.mem_cons_of_mem _ List.mem_cons_self)
      (try simp only [dZ, dG, boR, coR, bfD, bmD, bmT, wipeD, sizeLine, Nat.reduceAdd, Nat.reducePow, Nat.reduceLeDiff, reduceIte, String.reduceBEq])
      (rw [e_nil]; dsimp only; rw [e_cons]; try simp only [dZ, dG, boR, coR, bfD, bmD, bmT, wipeD, sizeLine, Nat.reduceAdd, Nat.reducePow, Nat.reduceLeDiff, reduceIte, String.reduceBEq])
      rcases ha.cases with ⟨rows, m, rfl, em, hl2, hr⟩ | ⟨n1, n2⟩
      · cases em
        ((first | rw [e_cons] | (dsimp only; rw [e_cons])); try simp only [dZ, dG, boR, coR, bfD, bmD, bmT, wipeD, sizeLine, Nat.reduceAdd, Nat.reducePow, Nat.reduceLeDiff, reduceIte, String.reduceBEq])
        refine o_eqE' (fun y hy => (hr y hy).pd.up (by decide)) ?_
        refine ⟨_, rfl, ?_⟩
        cases he : rows.isEmpty with
        | true =>
          (try simp only [dZ, dG, boR, coR, bfD, bmD, bmT, wipeD, sizeLine, Nat.reduceAdd, Nat.reducePow, Nat.reduceLeDiff, reduceIte, String.reduceBEq])
          ((first | rw [e_cons] | (dsimp only; rw [e_cons])); try simp only [dZ, dG, boR, coR, bfD, bmD, bmT, wipeD, sizeLine, Nat.reduceAdd, Nat.reducePow, Nat.reduceLeDiff, reduceIte, String.reduceBEq])
          exact k _ _ (Ext.refl D G) ok (by show _ = DV.bl (!rows.isEmpty && _); rw [he]; rfl)
        | false =>
          (try simp only [dZ, dG, boR, coR, bfD, bmD, bmT, wipeD, sizeLine, Nat.reduceAdd, Nat.reducePow, Nat.reduceLeDiff, reduceIte, String.reduceBEq])
          (rw [e_nil]; dsimp only; rw [e_cons]; try simp only [dZ, dG, boR, coR, bfD, bmD, bmT, wipeD, sizeLine, Nat.reduceAdd, Nat.reducePow, Nat.reduceLeDiff, reduceIte, String.reduceBEq])
          refine LcK.all (D := D) (isRowB nms.length rows.length) ok hl2 (fun _ _ => by trivial) (fun x hx => ?_) fun G2 e2 ok2 => ?_
          · (try simp only [dZ, dG, boR, coR, bfD, bmD, bmT, wipeD, sizeLine, Nat.reduceAdd, Nat.reducePow, Nat.reduceLeDiff, reduceIte, String.reduceBEq])
            intro G5 e5 ok5 K1 K2 k1
            refine ⟨_, _, _, _, rfl, (a1.mono e5).2, c_names, a2, ?_⟩
            (try simp only [dZ, dG, boR, coR, bfD, bmD, bmT, wipeD, sizeLine, Nat.reduceAdd, Nat.reducePow, Nat.reduceLeDiff, reduceIte, String.reduceBEq])
            rw [List.length_map]
            exact SP.use h25 (rows.length, nms.length, 18, x) ok5 ⟨rfl, (hr x hx).mono e5⟩ fun v G6 e6 ok6 hv => by subst hv; exact k1 G6 e6 ok6
          have hW : isW nms.length (.tup [.tup rows, b]) = (rows.all (isRowB nms.length rows.length) && isStB rows.length b) := by show (!rows.isEmpty && _) = _; rw [he]; rfl
          refine ⟨_, rfl, ?_⟩
          cases ha : rows.all (isRowB nms.length rows.length) with
          | false =>
            (try simp only [dZ, dG, boR, coR, bfD, bmD, bmT, wipeD, sizeLine, Nat.reduceAdd, Nat.reducePow, Nat.reduceLeDiff, reduceIte, String.reduceBEq])
            ((first | rw [e_cons] | (dsimp only; rw [e_cons])); try simp only [dZ, dG, boR, coR, bfD, bmD, bmT, wipeD, sizeLine, Nat.reduceAdd, Nat.reducePow, Nat.reduceLeDiff, reduceIte, String.reduceBEq])
            exact k _ _ e2 ok2 (by rw [hW, ha]; rfl)
          | true =>
            (try simp only [dZ, dG, boR, coR, bfD, bmD, bmT, wipeD, sizeLine, Nat.reduceAdd, Nat.reducePow, Nat.reduceLeDiff, reduceIte, String.reduceBEq])
            (rw [e_nil]; dsimp only; rw [e_cons]; try simp only [dZ, dG, boR, coR, bfD, bmD, bmT, wipeD, sizeLine, Nat.reduceAdd, Nat.reducePow, Nat.reduceLeDiff, reduceIte, String.reduceBEq])
            exact SP.use h24 (rows.length, 19, b) ok2 ⟨rfl, hb.mono e2⟩ fun v G3 e3 ok3 hv => k _ _ (e2.trans e3) ok3 (by rw [hW, ha, hv]; rfl)
      · ((first | rw [e_cons] | (dsimp only; rw [e_cons])); try simp only [dZ, dG, boR, coR, bfD, bmD, bmT, wipeD, sizeLine, Nat.reduceAdd, Nat.reducePow, Nat.reduceLeDiff, reduceIte, String.reduceBEq])
        refine isi_no (K := fun c => if (!c) = true then _ else _) ha.ty n1 n2 ?_
        (try simp only [dZ, dG, boR, coR, bfD, bmD, bmT, wipeD, sizeLine, Nat.reduceAdd, Nat.reducePow, Nat.reduceLeDiff, reduceIte, String.reduceBEq])
        ((first | rw [e_cons] | (dsimp only; rw [e_cons])); try simp only [dZ, dG, boR, coR, bfD, bmD, bmT, wipeD, sizeLine, Nat.reduceAdd, Nat.reducePow, Nat.reduceLeDiff, reduceIte, String.reduceBEq])
        exact k _ _ (Ext.refl D G) ok (by rw [isW_no1 n1])
  · ((first | rw [e_cons] | (dsimp only; rw [e_cons])); try simp only [dZ, dG, boR, coR, bfD, bmD, bmT, wipeD, sizeLine, Nat.reduceAdd, Nat.reducePow, Nat.reduceLeDiff, reduceIte, String.reduceBEq])
    refine isi_no (K := fun c => if (!c) = true then _ else _) ht n1 n2 ?_
    (try simp only [dZ, dG, boR, coR, bfD, bmD, bmT, wipeD, sizeLine, Nat.reduceAdd, Nat.reducePow, Nat.reduceLeDiff, reduceIte, String.reduceBEq])
    ((first | rw [e_cons] | (dsimp only; rw [e_cons])); try simp only [dZ, dG, boR, coR, bfD, bmD, bmT, wipeD, sizeLine, Nat.reduceAdd, Nat.reducePow, Nat.reduceLeDiff, reduceIte, String.reduceBEq])
    exact k _ _ (Ext.refl D G) ok (by rw [isW_no n1])
/-! the law's own look -/
abbrev S_lstand : DSp := SP (α := Int × DV) (fun D x G ds => ds = [x.2, .int x.1] ∧ TyK D G x.2) (fun D x G v => v = .bl (isPlace x.1 x.2))
theorem sv_lstand {C : Nat → DSp} : Serves tabs C f_law_is_standing S_lstand := SP.serves fun D x ds G EX P ok ⟨e, ⟨ht, hd⟩⟩ k => by
  obtain ⟨many, x⟩ := x
  subst e
  show denSs tabs C EX _ _ [some _, some _] G
  rw [f_law_is_standing, e_cons]
  cases x with
  | int i => (try simp only [dZ, dG, boR, coR, bfD, bmD, bmT, wipeD, sizeLine, Nat.reduceAdd, Nat.reducePow, Nat.reduceLeDiff, reduceIte, String.reduceBEq]); split <;> rename_i h <;> exact k _ _ (Ext.refl D G) ok (by simp [isPlace, h])
  | ref a =>
    obtain ⟨t, h1, h2, h3⟩ := ty_ref ht
    (try simp only [dZ, dG, boR, coR, bfD, bmD, bmT, wipeD, sizeLine, Nat.reduceAdd, Nat.reducePow, Nat.reduceLeDiff, reduceIte, String.reduceBEq])
    exact ⟨t, h1, h2, by rw [h3 _ (by decide)]; (try simp only [dZ, dG, boR, coR, bfD, bmD, bmT, wipeD, sizeLine, Nat.reduceAdd, Nat.reducePow, Nat.reduceLeDiff, reduceIte, String.reduceBEq]); exact k _ _ (Ext.refl D G) ok rfl⟩
  | ty n => obtain ⟨t, h, _⟩ := ht; cases h
  | fv n => obtain ⟨t, h, _⟩ := ht; cases h
  | _ => (try simp only [dZ, dG, boR, coR, bfD, bmD, bmT, wipeD, sizeLine, Nat.reduceAdd, Nat.reducePow, Nat.reduceLeDiff, reduceIte, String.reduceBEq]); exact k _ _ (Ext.refl D G) ok rfl
def WDeeds (D : Dk) (G : DH) (w : Addr) (deeds : List DV) : Prop := ∃ kvs, Kn D G w (.dK kvs) ∧ valD kvs (kS "deeds") = some (.tup deeds)
theorem WDeeds.mono {D : Dk} {G G1 : DH} {w : Addr} {ds : List DV} (h : WDeeds D G w ds) (e : Ext D G G1) : WDeeds D G1 w ds := let ⟨k, h1, h2⟩ := h; ⟨k, h1.mono e, h2⟩
theorem ix_deeds {D : Dk} {G : DH} {w : Addr} {ds : List DV} {P : DK} (h : WDeeds D G w ds) (k : P (.tup ds) G) : dIx (.ref w) (.str (Str.ofString "deeds")) G P := by
  obtain ⟨kvs, h1, h2⟩ := h
  rw [o_ixD h1.2]
  exact ⟨_, _, rfl, h2, k⟩
abbrev S_lisW : DSp := SP (α := Addr × List DV × DV) (fun D x G ds => ds = [.ref x.1, x.2.2] ∧ WDeeds D G x.1 x.2.1 ∧ WX D G x.2.2) (fun D x G v => v = .bl (isW x.2.1.length x.2.2))
def geD : DV → Bool
  | .tup [.int a, .int b] => decide (b ≤ a)
  | _ => false
theorem filt_empty {xs : List DV} {p : DV → Bool} {f : DV → DV} : ((xs.filter p).map f).isEmpty = xs.all fun x => !p x := by
  induction xs with
  | nil => rfl
  | cons x xs ih =>
    rw [List.filter_cons, List.all_cons]
    cases p x with
    | true => rfl
    | false => rw [if_neg (by decide)]; simpa using ih
theorem asc_ge (is : List Int) : ((zipD (is.map DV.int) (is.map DV.int).tail).all fun x => !geD x) = ascI is := by
  unfold zipD ascI
  rw [← List.map_tail, List.zip_map, List.map_map, List.all_map]
  congr; funext p
  show (!decide (p.2 ≤ p.1)) = decide (p.1 < p.2)
  rw [← decide_not]
  exact decide_eq_decide.mpr ⟨fun h => by omega, fun h => by omega⟩
theorem sv_lisW {C : Nat → DSp} (h22 : Has C 22 S_lstand) : Serves tabs C f_law_is_watcher S_lisW := SP.serves fun D x ds G EX P ok ⟨e, h1, h2⟩ k => by
  obtain ⟨w, deeds, x⟩ := x
  dsimp only at h1 h2 k
  subst e
  show denSs tabs C EX _ _ [some _, some _, none, none, none, none, none] G
  rw [f_law_is_watcher]
  rcases h2.cases with ⟨ys, rfl, hl, hy⟩ | ⟨ht, n1, n2⟩
  · ((first | rw [e_cons] | (dsimp only; rw [e_cons])); try simp only [dZ, dG, boR, coR, bfD, bmD, bmT, wipeD, sizeLine, Nat.reduceAdd, Nat.reducePow, Nat.reduceLeDiff, reduceIte, String.reduceBEq])
    refine o_neI ?_
    rw [neq2]
    refine ⟨_, rfl, ?_⟩
    cases hd : decide (ys.length = 2) with
    | false =>
      (try simp only [dZ, dG, boR, coR, bfD, bmD, bmT, wipeD, sizeLine, Nat.reduceAdd, Nat.reducePow, Nat.reduceLeDiff, reduceIte, String.reduceBEq])
      ((first | rw [e_cons] | (dsimp only; rw [e_cons])); try simp only [dZ, dG, boR, coR, bfD, bmD, bmT, wipeD, sizeLine, Nat.reduceAdd, Nat.reducePow, Nat.reduceLeDiff, reduceIte, String.reduceBEq])
      exact k _ _ (Ext.refl D G) ok (by rw [isW_len (of_decide_eq_false hd)])
    | true =>
      obtain ⟨a, b, rfl⟩ := two_of (of_decide_eq_true hd)
      have ha := hy a List.mem_cons_self
      have hb := hy b (List.mem_cons_of_mem _ List.mem_cons_self)
      (try simp only [dZ, dG, boR, coR, bfD, bmD, bmT, wipeD, sizeLine, Nat.reduceAdd, Nat.reducePow, Nat.reduceLeDiff, reduceIte, String.reduceBEq])
      rcases ha.cases with ⟨rows, m, rfl, em, hl2, hr⟩ | ⟨n1, n2⟩
      · cases em
        (try simp only [dZ, dG, boR, coR, bfD, bmD, bmT, wipeD, sizeLine, Nat.reduceAdd, Nat.reducePow, Nat.reduceLeDiff, reduceIte, String.reduceBEq])
        refine o_eqE' (fun y hy => (hr y hy).pd.up (by decide)) ?_
        refine ⟨_, rfl, ?_⟩
        cases he : rows.isEmpty with
        | true =>
          (try simp only [dZ, dG, boR, coR, bfD, bmD, bmT, wipeD, sizeLine, Nat.reduceAdd, Nat.reducePow, Nat.reduceLeDiff, reduceIte, String.reduceBEq])
          ((first | rw [e_cons] | (dsimp only; rw [e_cons])); try simp only [dZ, dG, boR, coR, bfD, bmD, bmT, wipeD, sizeLine, Nat.reduceAdd, Nat.reducePow, Nat.reduceLeDiff, reduceIte, String.reduceBEq])
          exact k _ _ (Ext.refl D G) ok (by show _ = DV.bl (!rows.isEmpty && _); rw [he]; rfl)
        | false =>
          have hW : isW deeds.length (.tup [.tup rows, b]) = (rows.all (isRowB deeds.length rows.length) && isStB rows.length b) := by show (!rows.isEmpty && _) = _; rw [he]; rfl
          (try simp only [dZ, dG, boR, coR, bfD, bmD, bmT, wipeD, sizeLine, Nat.reduceAdd, Nat.reducePow, Nat.reduceLeDiff, reduceIte, String.reduceBEq])
          (rw [e_nil]; dsimp only; rw [e_cons]; try simp only [dZ, dG, boR, coR, bfD, bmD, bmT, wipeD, sizeLine, Nat.reduceAdd, Nat.reducePow, Nat.reduceLeDiff, reduceIte, String.reduceBEq])
          ((first | rw [e_cons] | (dsimp only; rw [e_cons])); try simp only [dZ, dG, boR, coR, bfD, bmD, bmT, wipeD, sizeLine, Nat.reduceAdd, Nat.reducePow, Nat.reduceLeDiff, reduceIte, String.reduceBEq])
          refine ForK.run (fun i τ' G' => ∃ rr, τ' = [some (.ref w), some (.tup [.tup rows, b]), some (.int (rows.length : Nat)), rr, none, none, none] ∧ Ext D G G' ∧ okD D G' ∧ (rows.take i).all (isRowB deeds.length rows.length) = true) ⟨none, rfl, Ext.refl D G, ok, by simp⟩ (fun _ _ _ _ => by trivial) (fun i τ' G' x hx ⟨rr, eτ, e', ok', hi⟩ => ?_) fun τ' G' ⟨rr, eτ, e', ok', hi⟩ => ?_
          · subst eτ
            have hxm := List.mem_of_getElem? hx
            have hxd := (hr x hxm).mono e'
            have bad : isRowB deeds.length rows.length x = false → rows.all (isRowB deeds.length rows.length) = false := fun hb => by
              rw [List.all_eq_false]
              exact ⟨x, hxm, by rw [hb]; decide⟩
            have nxt : isRowB deeds.length rows.length x = true → (rows.take (i + 1)).all (isRowB deeds.length rows.length) = true := fun hb => by
              rw [List.take_succ, hx, List.all_append, hi]; simpa using hb
            (try simp only [dZ, dG, boR, coR, bfD, bmD, bmT, wipeD, sizeLine, Nat.reduceAdd, Nat.reducePow, Nat.reduceLeDiff, reduceIte, String.reduceBEq])
            rcases hxd.cases with ⟨is, m, rfl, em, hl3, hs⟩ | ⟨n1, n2⟩
            · cases em
              ((first | rw [e_cons] | (dsimp only; rw [e_cons])); try simp only [dZ, dG, boR, coR, bfD, bmD, bmT, wipeD, sizeLine, Nat.reduceAdd, Nat.reducePow, Nat.reduceLeDiff, reduceIte, String.reduceBEq])
              refine ix_deeds (h1.mono e') ?_
              (try simp only [dZ, dG, boR, coR, bfD, bmD, bmT, wipeD, sizeLine, Nat.reduceAdd, Nat.reducePow, Nat.reduceLeDiff, reduceIte, String.reduceBEq])
              refine o_neI ?_
              rw [dec_nat]
              refine ⟨_, rfl, ?_⟩
              cases hn : decide (is.length = deeds.length) with
              | false =>
                (try simp only [dZ, dG, boR, coR, bfD, bmD, bmT, wipeD, sizeLine, Nat.reduceAdd, Nat.reducePow, Nat.reduceLeDiff, reduceIte, String.reduceBEq])
                ((first | rw [e_cons] | (dsimp only; rw [e_cons])); try simp only [dZ, dG, boR, coR, bfD, bmD, bmT, wipeD, sizeLine, Nat.reduceAdd, Nat.reducePow, Nat.reduceLeDiff, reduceIte, String.reduceBEq])
                exact k _ _ e' ok' (by rw [hW, bad (by rw [isRowB_tup, hn]; rfl)]; rfl)
              | true =>
                (try simp only [dZ, dG, boR, coR, bfD, bmD, bmT, wipeD, sizeLine, Nat.reduceAdd, Nat.reducePow, Nat.reduceLeDiff, reduceIte, String.reduceBEq])
                (rw [e_nil]; dsimp only; rw [e_cons]; try simp only [dZ, dG, boR, coR, bfD, bmD, bmT, wipeD, sizeLine, Nat.reduceAdd, Nat.reducePow, Nat.reduceLeDiff, reduceIte, String.reduceBEq])
                refine LcK.map (D := D) (fun _ => .int 1) (fun x => !isPlace rows.length x) ok' hl3 (fun _ _ => by trivial) (fun y hy => ?_) fun p G2 e2 ok2 kp _ => ?_
                · (try simp only [dZ, dG, boR, coR, bfD, bmD, bmT, wipeD, sizeLine, Nat.reduceAdd, Nat.reducePow, Nat.reduceLeDiff, reduceIte, String.reduceBEq])
                  exact fun G5 e5 ok5 K1 K2 k1 k2 => SP.use h22 (rows.length, y) ok5 ⟨rfl, (hs y hy).ty.mono e5⟩ fun v G6 e6 ok6 hv => by
                    subst hv
                    dsimp only
                    refine ⟨_, rfl, ?_⟩
                    cases hp : isPlace rows.length y with
                    | true => (try simp only [dZ, dG, boR, coR, bfD, bmD, bmT, wipeD, sizeLine, Nat.reduceAdd, Nat.reducePow, Nat.reduceLeDiff, reduceIte, String.reduceBEq]); exact k2 G6 e6 ok6 (by rw [hp]; rfl)
                    | false => (try simp only [dZ, dG, boR, coR, bfD, bmD, bmT, wipeD, sizeLine, Nat.reduceAdd, Nat.reducePow, Nat.reduceLeDiff, reduceIte, String.reduceBEq]); exact k1 G6 e6 ok6 (by rw [hp]; rfl)
                refine NewO.run ok2 fun q G3 e3 ok3 kq _ => ?_
                refine o_neLE (kp.mono e3).2 kq.2 (fun z hz => ?_) ?_
                · obtain ⟨_, _, rfl⟩ := List.mem_map.mp hz
                  exact PDk.int
                rw [filt_empty]
                simp only [Bool.not_not]
                refine ⟨_, rfl, ?_⟩
                cases ha : is.all (fun x => isPlace rows.length x) with
                | false =>
                  (try simp only [dZ, dG, boR, coR, bfD, bmD, bmT, wipeD, sizeLine, Nat.reduceAdd, Nat.reducePow, Nat.reduceLeDiff, reduceIte, String.reduceBEq])
                  ((first | rw [e_cons] | (dsimp only; rw [e_cons])); try simp only [dZ, dG, boR, coR, bfD, bmD, bmT, wipeD, sizeLine, Nat.reduceAdd, Nat.reducePow, Nat.reduceLeDiff, reduceIte, String.reduceBEq])
                  exact k _ _ (e'.trans (e2.trans e3)) ok3 (by rw [hW, bad (by rw [isRowB_tup, hn]; exact ha)]; rfl)
                | true =>
                  (try simp only [dZ, dG, boR, coR, bfD, bmD, bmT, wipeD, sizeLine, Nat.reduceAdd, Nat.reducePow, Nat.reduceLeDiff, reduceIte, String.reduceBEq])
                  (first | (rw [e_nil]; try dsimp only) | (dsimp only; rw [e_nil]; try dsimp only))
                  (first | (rw [e_nil]; try dsimp only) | (dsimp only; rw [e_nil]; try dsimp only))
                  exact ⟨_, rfl, e'.trans (e2.trans e3), ok3, nxt (by rw [isRowB_tup, hn]; exact ha)⟩
            · ((first | rw [e_cons] | (dsimp only; rw [e_cons])); try simp only [dZ, dG, boR, coR, bfD, bmD, bmT, wipeD, sizeLine, Nat.reduceAdd, Nat.reducePow, Nat.reduceLeDiff, reduceIte, String.reduceBEq])
              refine isi_no (K := fun c => if (!c) = true then _ else _) hxd.ty n1 n2 ?_
              (try simp only [dZ, dG, boR, coR, bfD, bmD, bmT, wipeD, sizeLine, Nat.reduceAdd, Nat.reducePow, Nat.reduceLeDiff, reduceIte, String.reduceBEq])
              ((first | rw [e_cons] | (dsimp only; rw [e_cons])); try simp only [dZ, dG, boR, coR, bfD, bmD, bmT, wipeD, sizeLine, Nat.reduceAdd, Nat.reducePow, Nat.reduceLeDiff, reduceIte, String.reduceBEq])
              exact k _ _ e' ok' (by rw [hW, bad (isRow_no n1)]; rfl)
          · subst eτ
            rw [List.take_length] at hi
            rw [hi] at hW
            have hb' := hb.mono e'
            rcases hb'.cases with ⟨is, m, rfl, em, hl3, hs⟩ | ⟨n1, n2⟩
            · cases em
              ((first | rw [e_cons] | (dsimp only; rw [e_cons])); try simp only [dZ, dG, boR, coR, bfD, bmD, bmT, wipeD, sizeLine, Nat.reduceAdd, Nat.reducePow, Nat.reduceLeDiff, reduceIte, String.reduceBEq])
              refine LcK.map (D := D) (fun _ => .int 1) (fun x => !isPlace rows.length x) ok' hl3 (fun _ _ => by trivial) (fun y hy => ?_) fun p G2 e2 ok2 kp _ => ?_
              · (try simp only [dZ, dG, boR, coR, bfD, bmD, bmT, wipeD, sizeLine, Nat.reduceAdd, Nat.reducePow, Nat.reduceLeDiff, reduceIte, String.reduceBEq])
                exact fun G5 e5 ok5 K1 K2 k1 k2 => SP.use h22 (rows.length, y) ok5 ⟨rfl, (hs y hy).ty.mono e5⟩ fun v G6 e6 ok6 hv => by
                  subst hv
                  dsimp only
                  refine ⟨_, rfl, ?_⟩
                  cases hp : isPlace rows.length y with
                  | true => (try simp only [dZ, dG, boR, coR, bfD, bmD, bmT, wipeD, sizeLine, Nat.reduceAdd, Nat.reducePow, Nat.reduceLeDiff, reduceIte, String.reduceBEq]); exact k2 G6 e6 ok6 (by rw [hp]; rfl)
                  | false => (try simp only [dZ, dG, boR, coR, bfD, bmD, bmT, wipeD, sizeLine, Nat.reduceAdd, Nat.reducePow, Nat.reduceLeDiff, reduceIte, String.reduceBEq]); exact k1 G6 e6 ok6 (by rw [hp]; rfl)
              refine NewO.run ok2 fun q G3 e3 ok3 kq _ => ?_
              refine o_neLE (kp.mono e3).2 kq.2 (fun z hz => ?_) ?_
              · obtain ⟨_, _, rfl⟩ := List.mem_map.mp hz
                exact PDk.int
              rw [filt_empty]
              simp only [Bool.not_not]
              refine ⟨_, rfl, ?_⟩
              cases ha : is.all (fun x => isPlace rows.length x) with
              | false =>
                (try simp only [dZ, dG, boR, coR, bfD, bmD, bmT, wipeD, sizeLine, Nat.reduceAdd, Nat.reducePow, Nat.reduceLeDiff, reduceIte, String.reduceBEq])
                ((first | rw [e_cons] | (dsimp only; rw [e_cons])); try simp only [dZ, dG, boR, coR, bfD, bmD, bmT, wipeD, sizeLine, Nat.reduceAdd, Nat.reducePow, Nat.reduceLeDiff, reduceIte, String.reduceBEq])
                exact k _ _ (e'.trans (e2.trans e3)) ok3 (by rw [hW, isStB_tup, show is.all (isPlace rows.length) = false from ha]; rfl)
              | true =>
                (try simp only [dZ, dG, boR, coR, bfD, bmD, bmT, wipeD, sizeLine, Nat.reduceAdd, Nat.reducePow, Nat.reduceLeDiff, reduceIte, String.reduceBEq])
                (rw [e_nil]; dsimp only; rw [e_cons]; try simp only [dZ, dG, boR, coR, bfD, bmD, bmT, wipeD, sizeLine, Nat.reduceAdd, Nat.reducePow, Nat.reduceLeDiff, reduceIte, String.reduceBEq])
                unfold dZip
                (try simp only [dZ, dG, boR, coR, bfD, bmD, bmT, wipeD, sizeLine, Nat.reduceAdd, Nat.reducePow, Nat.reduceLeDiff, reduceIte, String.reduceBEq])
                refine ⟨_, _, ⟨rfl, rfl⟩, .inl ⟨_, _, rfl, rfl, ?_⟩⟩
                rw [cut_1]
                have hpl := places_int (show is.all (isPlace rows.length) = true from ha)
                refine LcK.map (D := D) (fun _ => .int 1) geD ok3 (Nat.lt_of_le_of_lt (zip_len _) hl3) (fun _ _ => by trivial) (fun y hy => ?_) fun p G4 e4 ok4 kp _ => ?_
                · rw [hpl, ← List.map_tail] at hy
                  obtain ⟨a, b, rfl⟩ := mem_zip_map hy
                  (try simp only [dZ, dG, boR, coR, bfD, bmD, bmT, wipeD, sizeLine, Nat.reduceAdd, Nat.reducePow, Nat.reduceLeDiff, reduceIte, String.reduceBEq])
                  refine fun G5 e5 ok5 K1 K2 k1 k2 => ?_
                  cases hg : decide (b ≤ a) with
                  | true => (try simp only [dZ, dG, boR, coR, bfD, bmD, bmT, wipeD, sizeLine, Nat.reduceAdd, Nat.reducePow, Nat.reduceLeDiff, reduceIte, String.reduceBEq]); exact k1 G5 (Ext.refl D G5) ok5 hg
                  | false => (try simp only [dZ, dG, boR, coR, bfD, bmD, bmT, wipeD, sizeLine, Nat.reduceAdd, Nat.reducePow, Nat.reduceLeDiff, reduceIte, String.reduceBEq]); exact k2 G5 (Ext.refl D G5) ok5 hg
                refine NewO.run ok4 fun q G5 e5 ok5 kq _ => ?_
                refine o_eqLE (kp.mono e5).2 kq.2 (fun z hz => ?_) ?_
                · obtain ⟨_, _, rfl⟩ := List.mem_map.mp hz
                  exact PDk.int
                rw [filt_empty]
                refine k _ _ (e'.trans (e2.trans (e3.trans (e4.trans e5)))) ok5 ?_
                rw [hW, isStB_tup, show is.all (isPlace rows.length) = true from ha, ← asc_ge, ← hpl]
                rfl
            · ((first | rw [e_cons] | (dsimp only; rw [e_cons])); try simp only [dZ, dG, boR, coR, bfD, bmD, bmT, wipeD, sizeLine, Nat.reduceAdd, Nat.reducePow, Nat.reduceLeDiff, reduceIte, String.reduceBEq])
              refine isi_no (K := fun c => if (!c) = true then _ else _) hb'.ty n1 n2 ?_
              (try simp only [dZ, dG, boR, coR, bfD, bmD, bmT, wipeD, sizeLine, Nat.reduceAdd, Nat.reducePow, Nat.reduceLeDiff, reduceIte, String.reduceBEq])
              ((first | rw [e_cons] | (dsimp only; rw [e_cons])); try simp only [dZ, dG, boR, coR, bfD, bmD, bmT, wipeD, sizeLine, Nat.reduceAdd, Nat.reducePow, Nat.reduceLeDiff, reduceIte, String.reduceBEq])
              exact k _ _ e' ok' (by rw [hW, isSt_no n1]; rfl)
      · refine isi_no (K := fun c => if (!c) = true then _ else _) ha.ty n1 n2 ?_
        (try simp only [dZ, dG, boR, coR, bfD, bmD, bmT, wipeD, sizeLine, Nat.reduceAdd, Nat.reducePow, Nat.reduceLeDiff, reduceIte, String.reduceBEq])
        ((first | rw [e_cons] | (dsimp only; rw [e_cons])); try simp only [dZ, dG, boR, coR, bfD, bmD, bmT, wipeD, sizeLine, Nat.reduceAdd, Nat.reducePow, Nat.reduceLeDiff, reduceIte, String.reduceBEq])
        exact k _ _ (Ext.refl D G) ok (by rw [isW_no1 n1])
  · ((first | rw [e_cons] | (dsimp only; rw [e_cons])); try simp only [dZ, dG, boR, coR, bfD, bmD, bmT, wipeD, sizeLine, Nat.reduceAdd, Nat.reducePow, Nat.reduceLeDiff, reduceIte, String.reduceBEq])
    refine isi_no (K := fun c => if (!c) = true then _ else _) ht n1 n2 ?_
    (try simp only [dZ, dG, boR, coR, bfD, bmD, bmT, wipeD, sizeLine, Nat.reduceAdd, Nat.reducePow, Nat.reduceLeDiff, reduceIte, String.reduceBEq])
    ((first | rw [e_cons] | (dsimp only; rw [e_cons])); try simp only [dZ, dG, boR, coR, bfD, bmD, bmT, wipeD, sizeLine, Nat.reduceAdd, Nat.reducePow, Nat.reduceLeDiff, reduceIte, String.reduceBEq])
    exact k _ _ (Ext.refl D G) ok (by rw [isW_no n1])
end DL
end
section
set_option Elab.async false
set_option linter.all false
set_option maxRecDepth 100000
set_option autoImplicit false
namespace DL
open PySem PySem.Spec PyProof.Rows L2
open PySem.PyData (strOk)
def WhlK (c : DTT) (tb : DTS) : DTS := fun E τ G => ∃ Pv : Nat → DSt → DH → Prop, (∃ m, Pv m τ G) ∧ ∀ m τ G, Pv m τ G → c τ G fun b G1 =>
  if b = true then tb { E with nx := fun τ' G' => ∃ m', m' < m ∧ Pv m' τ' G', ct := fun τ' G' => ∃ m', m' < m ∧ Pv m' τ' G', bk := E.nx } τ G1 else E.nx τ G1
theorem s_whl {T : GT} {C : Nat → DSp} {E : DXK} {Dn : DEnds} {τ : DSt} {G : DH} {c : DX} {body : List DY} : denS T C E (.whl c body) Dn τ G = WhlK (denT T C E c) (denSs T C E body) Dn τ G := by simp only [denS]; rfl
/-! the same values -/
mutual
inductive SameT (D : Dk) (G : DH) : Nat → Nat → DV → DV → Prop
  | int {n : Nat} {i : Int} : SameT D G n 1 (.int i) (.int i)
  | bl {n : Nat} {i : Bool} : SameT D G n 1 (.bl i) (.bl i)
  | tup {n s : Nat} {xs ys : List DV} : SameL D G n s xs ys → xs.length ≤ 1000 → SameT D G (n + 1) (s + 1) (.tup xs) (.tup ys)
  | lst {n s : Nat} {a b : Addr} {xs ys : List DV} : Kn D G a (.lst xs) → Kn D G b (.lst ys) → SameL D G n s xs ys → xs.length ≤ 1000 → SameT D G (n + 1) (s + 1) (.ref a) (.ref b)
inductive SameL (D : Dk) (G : DH) : Nat → Nat → List DV → List DV → Prop
  | nil {n : Nat} : SameL D G n 0 [] []
  | cons {n s r : Nat} {x y : DV} {xs ys : List DV} : SameT D G n s x y → SameL D G n r xs ys → SameL D G n (s + r) (x :: xs) (y :: ys)
end
section
variable {D : Dk} {G G1 : DH}
mutual
theorem SameT.dat : ∀ {n s : Nat} {x y : DV}, SameT D G n s x y → Dat D G n x ∧ Dat D G n y
  | _, _, _, _, .int => ⟨.int, .int⟩
  | _, _, _, _, .bl => ⟨.bl, .bl⟩
  | _, _, _, _, .tup h l => ⟨.tup (by have : sizeLine = 16777216 := rfl; omega) (SameL.dat h).1, .tup (by rw [← (SameL.dat h).2.2]; have : sizeLine = 16777216 := rfl; omega) (SameL.dat h).2.1⟩
  | _, _, _, _, .lst k1 k2 h l => ⟨.lst k1 (SameL.dat h).1, .lst k2 (SameL.dat h).2.1⟩
theorem SameL.dat : ∀ {n s : Nat} {xs ys : List DV}, SameL D G n s xs ys → (∀ x ∈ xs, Dat D G n x) ∧ (∀ y ∈ ys, Dat D G n y) ∧ xs.length = ys.length
  | _, _, _, _, .nil => ⟨fun _ h => (nomatch h), fun _ h => (nomatch h), rfl⟩
  | _, _, _, _, .cons h t => by
    have a := SameT.dat h
    have b := SameL.dat t
    refine ⟨fun x hx => ?_, fun y hy => ?_, by rw [List.length_cons, List.length_cons, b.2.2]⟩
    · rcases List.mem_cons.mp hx with rfl | hx
      · exact a.1
      · exact b.1 x hx
    · rcases List.mem_cons.mp hy with rfl | hy
      · exact a.2
      · exact b.2.1 y hy
end
mutual
theorem SameT.up : ∀ {n s : Nat} {x y : DV}, SameT D G n s x y → ∀ m, n ≤ m → SameT D G m s x y
  | _, _, _, _, .int, _, _ => .int
  | _, _, _, _, .bl, _, _ => .bl
  | _, _, _, _, .tup h l, m + 1, e => .tup (SameL.up h m (Nat.le_of_succ_le_succ e)) l
  | _, _, _, _, .lst k1 k2 h l, m + 1, e => .lst k1 k2 (SameL.up h m (Nat.le_of_succ_le_succ e)) l
theorem SameL.up : ∀ {n s : Nat} {xs ys : List DV}, SameL D G n s xs ys → ∀ m, n ≤ m → SameL D G m s xs ys
  | _, _, _, _, .nil, _, _ => .nil
  | _, _, _, _, .cons h t, m, e => .cons (SameT.up h m e) (SameL.up t m e)
end
mutual
theorem SameT.mono (e : Ext D G G1) : ∀ {n s : Nat} {x y : DV}, SameT D G n s x y → SameT D G1 n s x y
  | _, _, _, _, .int => .int
  | _, _, _, _, .bl => .bl
  | _, _, _, _, .tup h l => .tup (SameL.mono e h) l
  | _, _, _, _, .lst k1 k2 h l => .lst (k1.mono e) (k2.mono e) (SameL.mono e h) l
theorem SameL.mono (e : Ext D G G1) : ∀ {n s : Nat} {xs ys : List DV}, SameL D G n s xs ys → SameL D G1 n s xs ys
  | _, _, _, _, .nil => .nil
  | _, _, _, _, .cons h t => .cons (SameT.mono e h) (SameL.mono e t)
end
/-- what is still to be looked at -/
inductive Todo (D : Dk) (G : DH) : Nat → List DV → Prop
  | nil : Todo D G 0 []
  | snoc {m s : Nat} {ps : List DV} {x y : DV} : Todo D G m ps → SameT D G 50 s x y → Todo D G (m + s) (ps ++ [.tup [x, y]])
theorem Todo.zip : ∀ {n s : Nat} {xs ys : List DV}, SameL D G n s xs ys → n ≤ 50 → ∀ {m : Nat} {ps : List DV}, Todo D G m ps → Todo D G (m + s) (ps ++ zipD xs ys)
  | _, _, _, _, .nil, _, _, _, t => by simpa [zipD] using t
  | _, _, _, _, .cons (s := s) (r := r) h t, hn, m, ps, td => by
    have := Todo.zip t hn (Todo.snoc td (h.up 50 hn))
    rw [List.append_assoc, Nat.add_assoc] at this
    exact this
theorem Todo.last {m : Nat} {ps : List DV} (h : Todo D G m ps) : ps = [] ∨ ∃ m' s r x y, m = m' + s ∧ ps = r ++ [.tup [x, y]] ∧ Todo D G m' r ∧ SameT D G 50 s x y := by
  cases h with
  | nil => exact .inl rfl
  | snoc t s => exact .inr ⟨_, _, _, _, _, rfl, rfl, t, s⟩
theorem Todo.pd {m : Nat} {ps : List DV} (h : Todo D G m ps) : ∀ p ∈ ps, PDk G 59 p := by
  induction h with
  | nil => exact fun _ h => nomatch h
  | snoc t s ih => intro p hp; rcases List.mem_append.mp hp with h | h
                   · exact ih p h
                   · rw [List.mem_singleton.mp h]
                     refine PDk.up (n := 51) (PDk.tup fun z hz => ?_) (by decide)
                     rcases List.mem_cons.mp hz with rfl | hz
                     · exact s.dat.1.pd
                     · rw [List.mem_singleton.mp hz]; exact s.dat.2.pd
theorem Todo.mono {m : Nat} {ps : List DV} (h : Todo D G m ps) (e : Ext D G G1) : Todo D G1 m ps := by
  induction h with
  | nil => exact .nil
  | snoc t s ih => exact .snoc ih (s.mono e)
theorem SameT.pos {n s : Nat} {x y : DV} (h : SameT D G n s x y) : 1 ≤ s := by cases h <;> omega
end
theorem Todo.len {D : Dk} {G : DH} {m : Nat} {ps : List DV} (h : Todo D G m ps) : ps.length ≤ m := by
  induction h with
  | nil => exact Nat.le_refl 0
  | snoc t s ih => rw [List.length_append, List.length_singleton]; have := s.pos; omega
theorem pop_step {D : Dk} {G0 G : DH} {p : Addr} {r : List DV} {v : DV} {P : DK} (ok0 : okD D G0) (hp : G0 p = none) (e : Ext D G0 G) (kn : Kn D G p (.lst (r ++ [v])))
    (k : ∀ G', Ext D G0 G' → okD D G' → Kn D G' p (.lst r) → P v G') : dPop (.ref p) [] G P :=
  ⟨p, _, v, rfl, rfl, kn.2, by simp, by rw [List.dropLast_concat]; exact k _ (Ext.wr e ok0 hp) ((Ext.wr e ok0 hp).d ok0) kn.wr⟩
abbrev S_same : DSp := SP (α := Nat × DV × DV) (fun D x G ds => ds = [x.2.1, x.2.2] ∧ SameT D G 50 x.1 x.2.1 x.2.2 ∧ x.1 ≤ 1000000) (fun D x G v => v = .bl true)
theorem sv_same {C : Nat → DSp} : Serves tabs C f_law_same S_same := SP.serves fun D x ds G EX P ok ⟨e, h1, h2⟩ k => by
  obtain ⟨s, a, b⟩ := x
  dsimp only at h1 h2
  subst e
  show denSs tabs C EX _ _ [some _, some _, none, none, none] G
  rw [f_law_same]
  ((first | rw [e_cons] | (dsimp only; rw [e_cons])); try simp only [dZ, dG, boR, coR, bfD, bmD, bmT, wipeD, sizeLine, Nat.reduceAdd, Nat.reducePow, Nat.reduceLeDiff, reduceIte, String.reduceBEq])
  refine NewO.run ok fun p G1 e1 ok1 kn fp => ?_
  rw [e_cons, s_whl]
  refine ⟨fun m τ' G' => ∃ ps o t, τ' = [some a, some b, some (.ref p), o, t] ∧ Ext D G G' ∧ okD D G' ∧ Kn D G' p (.lst ps) ∧ Todo D G m ps ∧ m ≤ 1000000, ⟨_, _, none, none, rfl, e1, ok1, kn, by simpa using Todo.snoc Todo.nil h1, by omega⟩, fun m τ' G' ⟨ps, o, t, eτ, e', ok', kn', td, hm⟩ => ?_⟩
  subst eτ
  (try simp only [dZ, dG, boR, coR, bfD, bmD, bmT, wipeD, sizeLine, Nat.reduceAdd, Nat.reducePow, Nat.reduceLeDiff, reduceIte, String.reduceBEq])
  refine NewO.run ok' fun q G2 e2 ok2 kq _ => ?_
  have e02 := e'.trans e2
  refine o_neLE (kn'.mono e2).2 kq.2 (td.mono e02).pd ?_
  refine ⟨_, rfl, ?_⟩
  rcases td.last with rfl | ⟨m', s', r, x, y, rfl, rfl, td', st⟩
  · rw [List.isEmpty_nil]
    (try simp only [dZ, dG, boR, coR, bfD, bmD, bmT, wipeD, sizeLine, Nat.reduceAdd, Nat.reducePow, Nat.reduceLeDiff, reduceIte, String.reduceBEq])
    ((first | rw [e_cons] | (dsimp only; rw [e_cons])); try simp only [dZ, dG, boR, coR, bfD, bmD, bmT, wipeD, sizeLine, Nat.reduceAdd, Nat.reducePow, Nat.reduceLeDiff, reduceIte, String.reduceBEq])
    exact k _ _ e02 ok2 rfl
  · rw [show (r ++ [DV.tup [x, y]]).isEmpty = false from by cases r <;> rfl]
    (try simp only [dZ, dG, boR, coR, bfD, bmD, bmT, wipeD, sizeLine, Nat.reduceAdd, Nat.reducePow, Nat.reduceLeDiff, reduceIte, String.reduceBEq])
    have kn2 := kn'.mono e2
    ((first | rw [e_cons] | (dsimp only; rw [e_cons])); try simp only [dZ, dG, boR, coR, bfD, bmD, bmT, wipeD, sizeLine, Nat.reduceAdd, Nat.reducePow, Nat.reduceLeDiff, reduceIte, String.reduceBEq])
    refine ⟨ty_lst kn2, ?_⟩
    refine pop_step ok fp e02 kn2 fun G3 e3 ok3 kn3 => ?_
    have hs := st.pos
    have td3 := td'
    have fin : ∀ G4, Ext D G3 G4 → okD D G4 → ∃ m'_1, m'_1 < m' + s' ∧ ∃ ps o t, [some a, some b, some (DV.ref p), some x, some y] = [some a, some b, some (.ref p), o, t] ∧ Ext D G G4 ∧ okD D G4 ∧ Kn D G4 p (.lst ps) ∧ Todo D G m'_1 ps ∧ m'_1 ≤ 1000000 := fun G4 e4 ok4 =>
      ⟨m', by omega, r, _, _, rfl, e3.trans e4, ok4, kn3.mono e4, td3, by omega⟩
    (try simp only [dZ, dG, boR, coR, bfD, bmD, bmT, wipeD, sizeLine, Nat.reduceAdd, Nat.reducePow, Nat.reduceLeDiff, reduceIte, String.reduceBEq])
    cases st with
    | int =>
      ((first | rw [e_cons] | (dsimp only; rw [e_cons])); try simp only [dZ, dG, boR, coR, bfD, bmD, bmT, wipeD, sizeLine, Nat.reduceAdd, Nat.reducePow, Nat.reduceLeDiff, reduceIte, String.reduceBEq])
      ((first | rw [e_cons] | (dsimp only; rw [e_cons])); try simp only [dZ, dG, boR, coR, bfD, bmD, bmT, wipeD, sizeLine, Nat.reduceAdd, Nat.reducePow, Nat.reduceLeDiff, reduceIte, String.reduceBEq])
      ((first | rw [e_cons] | (dsimp only; rw [e_cons])); try simp only [dZ, dG, boR, coR, bfD, bmD, bmT, wipeD, sizeLine, Nat.reduceAdd, Nat.reducePow, Nat.reduceLeDiff, reduceIte, String.reduceBEq])
      ((first | rw [e_cons] | (dsimp only; rw [e_cons])); try simp only [dZ, dG, boR, coR, bfD, bmD, bmT, wipeD, sizeLine, Nat.reduceAdd, Nat.reducePow, Nat.reduceLeDiff, reduceIte, String.reduceBEq])
      ((first | rw [e_cons] | (dsimp only; rw [e_cons])); try simp only [dZ, dG, boR, coR, bfD, bmD, bmT, wipeD, sizeLine, Nat.reduceAdd, Nat.reducePow, Nat.reduceLeDiff, reduceIte, String.reduceBEq])
      refine o_neI ?_
      (try simp only [dZ, dG, boR, coR, bfD, bmD, bmT, wipeD, sizeLine, Nat.reduceAdd, Nat.reducePow, Nat.reduceLeDiff, reduceIte, String.reduceBEq])
      repeat (first | (rw [e_nil]; try dsimp only) | (dsimp only; rw [e_nil]; try dsimp only))
      exact fin G3 (Ext.refl D G3) ok3
    | @bl _ i =>
      ((first | rw [e_cons] | (dsimp only; rw [e_cons])); try simp only [dZ, dG, boR, coR, bfD, bmD, bmT, wipeD, sizeLine, Nat.reduceAdd, Nat.reducePow, Nat.reduceLeDiff, reduceIte, String.reduceBEq])
      ((first | rw [e_cons] | (dsimp only; rw [e_cons])); try simp only [dZ, dG, boR, coR, bfD, bmD, bmT, wipeD, sizeLine, Nat.reduceAdd, Nat.reducePow, Nat.reduceLeDiff, reduceIte, String.reduceBEq])
      ((first | rw [e_cons] | (dsimp only; rw [e_cons])); try simp only [dZ, dG, boR, coR, bfD, bmD, bmT, wipeD, sizeLine, Nat.reduceAdd, Nat.reducePow, Nat.reduceLeDiff, reduceIte, String.reduceBEq])
      ((first | rw [e_cons] | (dsimp only; rw [e_cons])); try simp only [dZ, dG, boR, coR, bfD, bmD, bmT, wipeD, sizeLine, Nat.reduceAdd, Nat.reducePow, Nat.reduceLeDiff, reduceIte, String.reduceBEq])
      refine o_neF rfl rfl rfl ?_
      rw [decide_eq_true rfl]
      (try simp only [dZ, dG, boR, coR, bfD, bmD, bmT, wipeD, sizeLine, Nat.reduceAdd, Nat.reducePow, Nat.reduceLeDiff, reduceIte, String.reduceBEq])
      repeat (first | (rw [e_nil]; try dsimp only) | (dsimp only; rw [e_nil]; try dsimp only))
      exact fin G3 (Ext.refl D G3) ok3
    | @tup n s xs ys sl l =>
      ((first | rw [e_cons] | (dsimp only; rw [e_cons])); try simp only [dZ, dG, boR, coR, bfD, bmD, bmT, wipeD, sizeLine, Nat.reduceAdd, Nat.reducePow, Nat.reduceLeDiff, reduceIte, String.reduceBEq])
      ((first | rw [e_cons] | (dsimp only; rw [e_cons])); try simp only [dZ, dG, boR, coR, bfD, bmD, bmT, wipeD, sizeLine, Nat.reduceAdd, Nat.reducePow, Nat.reduceLeDiff, reduceIte, String.reduceBEq])
      refine o_neF rfl rfl rfl ?_
      rw [decide_eq_true rfl]
      (try simp only [dZ, dG, boR, coR, bfD, bmD, bmT, wipeD, sizeLine, Nat.reduceAdd, Nat.reducePow, Nat.reduceLeDiff, reduceIte, String.reduceBEq])
      refine o_neF rfl rfl rfl ?_
      rw [decide_eq_true rfl]
      (try simp only [dZ, dG, boR, coR, bfD, bmD, bmT, wipeD, sizeLine, Nat.reduceAdd, Nat.reducePow, Nat.reduceLeDiff, reduceIte, String.reduceBEq])
      (rw [e_nil]; dsimp only; rw [e_cons]; try simp only [dZ, dG, boR, coR, bfD, bmD, bmT, wipeD, sizeLine, Nat.reduceAdd, Nat.reducePow, Nat.reduceLeDiff, reduceIte, String.reduceBEq])
      rw [sl.dat.2.2]
      refine o_neI ?_
      (try simp only [dZ, dG, boR, coR, bfD, bmD, bmT, wipeD, sizeLine, Nat.reduceAdd, Nat.reducePow, Nat.reduceLeDiff, reduceIte, String.reduceBEq])
      (rw [e_nil]; dsimp only; rw [e_cons]; try simp only [dZ, dG, boR, coR, bfD, bmD, bmT, wipeD, sizeLine, Nat.reduceAdd, Nat.reducePow, Nat.reduceLeDiff, reduceIte, String.reduceBEq])
      refine ⟨ty_lst kn3, _, _, xs, ys, ⟨rfl, rfl⟩, .inl ⟨rfl, rfl⟩, ?_⟩
      refine NewO.run ok3 fun z G4 e4 ok4 kz _ => ?_
      refine ext_step ok fp (e3.trans e4) (kn3.mono e4) kz ?_ fun G5 e5 ok5 kn5 _ => ?_
      · have := td'.len
        have := zipD_le xs ys
        have : sizeLine = 16777216 := rfl
        omega
      repeat (first | (rw [e_nil]; try dsimp only) | (dsimp only; rw [e_nil]; try dsimp only))
      exact ⟨m' + s, by omega, _, _, _, rfl, e5, ok5, kn5, Todo.zip sl (by omega) td3, by omega⟩
    | @lst n s a' b' xs ys k1 k2 sl l =>
      have k1' := k1.mono e3
      have k2' := k2.mono e3
      ((first | rw [e_cons] | (dsimp only; rw [e_cons])); try simp only [dZ, dG, boR, coR, bfD, bmD, bmT, wipeD, sizeLine, Nat.reduceAdd, Nat.reducePow, Nat.reduceLeDiff, reduceIte, String.reduceBEq])
      refine ⟨_, y_ref k2'.2, by rw [m_lst]; trivial, ?_⟩
      (try simp only [dZ, dG, boR, coR, bfD, bmD, bmT, wipeD, sizeLine, Nat.reduceAdd, Nat.reducePow, Nat.reduceLeDiff, reduceIte, String.reduceBEq])
      refine ⟨_, y_ref k2'.2, by rw [m_lst]; trivial, ?_⟩
      (try simp only [dZ, dG, boR, coR, bfD, bmD, bmT, wipeD, sizeLine, Nat.reduceAdd, Nat.reducePow, Nat.reduceLeDiff, reduceIte, String.reduceBEq])
      ((first | rw [e_cons] | (dsimp only; rw [e_cons])); try simp only [dZ, dG, boR, coR, bfD, bmD, bmT, wipeD, sizeLine, Nat.reduceAdd, Nat.reducePow, Nat.reduceLeDiff, reduceIte, String.reduceBEq])
      refine ⟨_, y_ref k1'.2, by rw [m_lst]; trivial, ?_⟩
      refine ⟨_, y_ref k2'.2, by rw [m_lst]; trivial, ?_⟩
      refine o_neF rfl rfl rfl ?_
      rw [decide_eq_true rfl]
      (try simp only [dZ, dG, boR, coR, bfD, bmD, bmT, wipeD, sizeLine, Nat.reduceAdd, Nat.reducePow, Nat.reduceLeDiff, reduceIte, String.reduceBEq])
      refine ⟨_, y_ref k1'.2, by rw [m_lst]; trivial, ?_⟩
      refine ⟨_, y_ref k2'.2, by rw [m_lst]; trivial, ?_⟩
      refine o_neF rfl rfl rfl ?_
      rw [decide_eq_true rfl]
      (try simp only [dZ, dG, boR, coR, bfD, bmD, bmT, wipeD, sizeLine, Nat.reduceAdd, Nat.reducePow, Nat.reduceLeDiff, reduceIte, String.reduceBEq])
      (rw [e_nil]; dsimp only; rw [e_cons]; try simp only [dZ, dG, boR, coR, bfD, bmD, bmT, wipeD, sizeLine, Nat.reduceAdd, Nat.reducePow, Nat.reduceLeDiff, reduceIte, String.reduceBEq])
      rw [o_lenL k1'.2, o_lenL k2'.2]
      rw [sl.dat.2.2]
      refine o_neI ?_
      (try simp only [dZ, dG, boR, coR, bfD, bmD, bmT, wipeD, sizeLine, Nat.reduceAdd, Nat.reducePow, Nat.reduceLeDiff, reduceIte, String.reduceBEq])
      (rw [e_nil]; dsimp only; rw [e_cons]; try simp only [dZ, dG, boR, coR, bfD, bmD, bmT, wipeD, sizeLine, Nat.reduceAdd, Nat.reducePow, Nat.reduceLeDiff, reduceIte, String.reduceBEq])
      refine ⟨ty_lst kn3, _, _, xs, ys, ⟨rfl, rfl⟩, .inr ⟨by simp, by simp, seq_kn k1', seq_kn k2'⟩, ?_⟩
      refine NewO.run ok3 fun z G4 e4 ok4 kz _ => ?_
      refine ext_step ok fp (e3.trans e4) (kn3.mono e4) kz ?_ fun G5 e5 ok5 kn5 _ => ?_
      · have := td'.len
        have := zipD_le xs ys
        have : sizeLine = 16777216 := rfl
        omega
      repeat (first | (rw [e_nil]; try dsimp only) | (dsimp only; rw [e_nil]; try dsimp only))
      exact ⟨m' + s, by omega, _, _, _, rfl, e5, ok5, kn5, Todo.zip sl (by omega) td3, by omega⟩
end DL
end
section
set_option Elab.async false
set_option linter.all false
set_option maxRecDepth 100000
set_option autoImplicit false
namespace DL
open PySem PySem.Spec PyProof.Rows L2
open PySem.PyData (strOk)
/-! ### the deck -/
theorem ext_deck {d l : Addr} {G G' : DH} (h : ∀ a o, a ≠ d → a ≠ l → G a = some o → G' a = some o) (ok : okD (some (d, l)) G') : Ext (some (d, l)) G G' :=
  ⟨fun a o n q => h a o (fun e => n (.inl e)) (fun e => n (.inr e)) q, fun _ => ok⟩
theorem put_draws (l : Addr) (m k : Int) : putD [(kS "left", .ref l), (kS "mixed", .int m), (kS "draws", .int k)] (kS "draws") (.int (k + 1)) = [(kS "left", .ref l), (kS "mixed", .int m), (kS "draws", .int (k + 1))] := rfl
theorem val_draws (l : Addr) (m k : Int) : valD [(kS "left", DV.ref l), (kS "mixed", .int m), (kS "draws", .int k)] (kS "draws") = some (.int k) := rfl
theorem val_mixed (l : Addr) (m k : Int) : valD [(kS "left", DV.ref l), (kS "mixed", .int m), (kS "draws", .int k)] (kS "mixed") = some (.int m) := rfl
theorem val_left (l : Addr) (m k : Int) : valD [(kS "left", DV.ref l), (kS "mixed", .int m), (kS "draws", .int k)] (kS "left") = some (.ref l) := rfl
theorem ix_deck {d l : Addr} {m k : Int} {G : DH} {P : DK} {s : String} {v : DV} (h : G d = some (deckO l m k)) (hv : valD [(kS "left", DV.ref l), (kS "mixed", .int m), (kS "draws", .int k)] (kS s) = some v) (p : P v G) : dIx (.ref d) (.str (Str.ofString s)) G P := by
  rw [o_ixD h]
  exact ⟨_, _, rfl, hv, p⟩
abbrev S_draw : DSp := SP (α := (Addr × Addr) × Int) (fun D x G ds => D = some x.1 ∧ ds = [.ref x.1.1, .int x.2] ∧ 0 < x.2 ∧ x.2 < 1073741824) (fun D x G v => ∃ i, v = .int i ∧ 0 ≤ i ∧ i < x.2)
theorem sv_draw {C : Nat → DSp} : Serves tabs C f_law_draw S_draw := SP.serves fun D x ds G EX P ok ⟨eD, e, h1, h2⟩ k => by
  obtain ⟨⟨d, l⟩, many⟩ := x
  dsimp only at eD e h1 h2 k
  subst eD e
  obtain ⟨dl, zs, m, dr, hz, hd, hL⟩ := ok
  dsimp only at dl hd hL
  show denSs tabs C EX _ _ [some _, some _, none, none] G
  rw [f_law_draw]
  ((first | rw [e_cons] | (dsimp only; rw [e_cons])); try simp only [dZ, dG, boR, coR, bfD, bmD, bmT, wipeD, sizeLine, Nat.reduceAdd, Nat.reducePow, Nat.reduceLeDiff, reduceIte, String.reduceBEq])
  refine ix_deck hd (val_draws l m dr) ?_
  (try simp only [dZ, dG, boR, coR, bfD, bmD, bmT, wipeD, sizeLine, Nat.reduceAdd, Nat.reducePow, Nat.reduceLeDiff, reduceIte, String.reduceBEq])
  unfold dSet
  dsimp only
  rw [hd]
  refine ⟨_, rfl, by show 3 < sizeLine; decide, ?_⟩
  rw [put_draws]
  have hd1 : updD G d (deckO l m (dr + 1)) d = some (deckO l m (dr + 1)) := updD_same
  have hL1 : updD G d (deckO l m (dr + 1)) l = some (.lst (zs.map .int)) := by rw [updD_ne (Ne.symm dl)]; exact hL
  have e1 : Ext (some (d, l)) G (updD G d (deckO l m (dr + 1))) := ext_deck (fun a o n _ q => by rw [updD_ne n]; exact q) ⟨dl, zs, m, dr + 1, hz, hd1, hL1⟩
  have ok1 : okD (some (d, l)) (updD G d (deckO l m (dr + 1))) := ⟨dl, zs, m, dr + 1, hz, hd1, hL1⟩
  change denSs tabs C EX _ _ _ (updD G d (deckO l m (dr + 1)))
  revert hd1 hL1 e1 ok1
  generalize updD G d (deckO l m (dr + 1)) = G1
  intro hd1 hL1 e1 ok1
  generalize dr + 1 = dr1 at hd1
  ((first | rw [e_cons] | (dsimp only; rw [e_cons])); try simp only [dZ, dG, boR, coR, bfD, bmD, bmT, wipeD, sizeLine, Nat.reduceAdd, Nat.reducePow, Nat.reduceLeDiff, reduceIte, String.reduceBEq])
  refine ix_deck hd1 (val_mixed l m dr1) ?_
  refine ix_deck hd1 (val_draws l m dr1) ?_
  (try simp only [dZ, dG, boR, coR, bfD, bmD, bmT, wipeD, sizeLine, Nat.reduceAdd, Nat.reducePow, Nat.reduceLeDiff, reduceIte, String.reduceBEq])
  refine ⟨cmulL (by omega) (by omega), ?_⟩
  -- the rest, from a figure on
  have rest : ∀ (fg : Int) (c : Option DV) (dr2 : Int) (G2 : DH), Ext (some (d, l)) G G2 → okD (some (d, l)) G2 → denSs tabs C EX [
    .asg (.n 2) (.bin .mod (.bf .int [.bin .add (.bin .mul (.v 2) (.int 48271)) (.int 83)]) (.int 2147483563)),
    .asg (.n 2) (.bin .mod (.bf .int [.bin .add (.bin .add (.bin .mul (.v 2) (.v 2)) (.bin .mul (.int 52774) (.ix (.v 0) (.str "draws")))) (.int 31)]) (.int 2147483399)),
    .asg (.n 2) (.bin .mod (.bf .int [.bin .mul (.v 2) (.int 40692)]) (.int 2147483647)),
    .ret (.bin .mod (.bf .int [.bin .fdiv (.v 2) (.int 64)]) (.v 1))] { nx := fun _ G' => P .non G', rt := P } [some (.ref d), some (.int many), some (.int fg), c] G2 := fun fg c dr2 G2 e2 ok2 => by
    have ok2' := ok2
    obtain ⟨_, zs2, m2, dr2, hz2, hd2, hL2⟩ := ok2'
    ((first | rw [e_cons] | (dsimp only; rw [e_cons])); try simp only [dZ, dG, boR, coR, bfD, bmD, bmT, wipeD, sizeLine, Nat.reduceAdd, Nat.reducePow, Nat.reduceLeDiff, reduceIte, String.reduceBEq])
    refine ⟨.inr ⟨by decide, by decide⟩, by decide, ?_⟩
    ((first | rw [e_cons] | (dsimp only; rw [e_cons])); try simp only [dZ, dG, boR, coR, bfD, bmD, bmT, wipeD, sizeLine, Nat.reduceAdd, Nat.reducePow, Nat.reduceLeDiff, reduceIte, String.reduceBEq])
    have b1 : 0 ≤ (fg * 48271 + 83) % 2147483563 := Int.emod_nonneg _ (by decide)
    have b2 : (fg * 48271 + 83) % 2147483563 < 2147483563 := Int.emod_lt_of_pos _ (by decide)
    refine ⟨.inl ⟨by omega, by omega⟩, ?_⟩
    refine ix_deck hd2 (val_draws l m2 dr2) ?_
    (try simp only [dZ, dG, boR, coR, bfD, bmD, bmT, wipeD, sizeLine, Nat.reduceAdd, Nat.reducePow, Nat.reduceLeDiff, reduceIte, String.reduceBEq])
    refine ⟨cmulL (by omega) (by omega), by decide, ?_⟩
    ((first | rw [e_cons] | (dsimp only; rw [e_cons])); try simp only [dZ, dG, boR, coR, bfD, bmD, bmT, wipeD, sizeLine, Nat.reduceAdd, Nat.reducePow, Nat.reduceLeDiff, reduceIte, String.reduceBEq])
    refine ⟨.inr ⟨by decide, by decide⟩, by decide, ?_⟩
    ((first | rw [e_cons] | (dsimp only; rw [e_cons])); try simp only [dZ, dG, boR, coR, bfD, bmD, bmT, wipeD, sizeLine, Nat.reduceAdd, Nat.reducePow, Nat.reduceLeDiff, reduceIte, String.reduceBEq])
    refine ⟨⟨by decide, by decide⟩, h1, ?_⟩
    exact k _ _ e2 ok2 ⟨_, rfl, Int.emod_nonneg _ (by omega), Int.emod_lt_of_pos _ h1⟩
  ((first | rw [e_cons] | (dsimp only; rw [e_cons])); try simp only [dZ, dG, boR, coR, bfD, bmD, bmT, wipeD, sizeLine, Nat.reduceAdd, Nat.reducePow, Nat.reduceLeDiff, reduceIte, String.reduceBEq])
  refine ix_deck hd1 (val_left l m dr1) ?_
  refine NewO.run ok1 fun q G2 e2 ok2 kq fq => ?_
  have ql : l ≠ q := fun z => by rw [z] at hL1; rw [hL1] at fq; cases fq
  have qd : d ≠ q := fun z => by rw [z] at hd1; rw [hd1] at fq; cases fq
  -- the list of the deck after a new object is still there
  have ok2' := ok2
  obtain ⟨_, zs2, m2, dr2, hz2, hd2, hL2⟩ := ok2'
  dsimp only at hd2 hL2
  refine o_neLE hL2 kq.2 (fun z hz => ?_) ?_
  · obtain ⟨i, _, rfl⟩ := List.mem_map.mp hz
    exact PDk.int
  refine ⟨_, rfl, ?_⟩
  rcases List.eq_nil_or_concat zs2 with rfl | ⟨r, c, hrc⟩
  · rw [List.map_nil, List.isEmpty_nil]
    (try simp only [dZ, dG, boR, coR, bfD, bmD, bmT, wipeD, sizeLine, Nat.reduceAdd, Nat.reducePow, Nat.reduceLeDiff, reduceIte, String.reduceBEq])
    rw [e_nil]
    exact rest _ _ dr1 G2 (e1.trans e2) ok2
  · rw [List.concat_eq_append] at hrc
    subst hrc
    rw [show ((r ++ [c]).map DV.int).isEmpty = false from by cases r <;> rfl]
    (try simp only [dZ, dG, boR, coR, bfD, bmD, bmT, wipeD, sizeLine, Nat.reduceAdd, Nat.reducePow, Nat.reduceLeDiff, reduceIte, String.reduceBEq])
    ((first | rw [e_cons] | (dsimp only; rw [e_cons])); try simp only [dZ, dG, boR, coR, bfD, bmD, bmT, wipeD, sizeLine, Nat.reduceAdd, Nat.reducePow, Nat.reduceLeDiff, reduceIte, String.reduceBEq])
    refine ix_deck hd2 (val_left l m2 dr2) ?_
    refine ⟨by unfold tyD; dsimp only; rw [hL2], ?_⟩
    refine ⟨l, _, .int c, rfl, rfl, hL2, by simp, ?_⟩
    rw [List.map_append, List.map_cons, List.map_nil, List.dropLast_concat]
    have hr : r.length + 1 ≤ 63 := by simpa using hz2
    have hd3 : updD G2 l (.lst (r.map .int)) d = some (deckO l m2 dr2) := by rw [updD_ne dl]; exact hd2
    have hL3 : updD G2 l (.lst (r.map .int)) l = some (.lst (r.map .int)) := updD_same
    have ok3 : okD (some (d, l)) (updD G2 l (.lst (r.map .int))) := ⟨dl, r, m2, dr2, by omega, hd3, hL3⟩
    have e3 : Ext (some (d, l)) G (updD G2 l (.lst (r.map .int))) := (e1.trans e2).trans (ext_deck (fun a o _ n q => by rw [updD_ne n]; exact q) ok3)
    revert hd3 hL3 e3 ok3
    generalize updD G2 l (.lst (r.map .int)) = G3
    intro hd3 hL3 ok3 e3
    (try simp only [dZ, dG, boR, coR, bfD, bmD, bmT, wipeD, sizeLine, Nat.reduceAdd, Nat.reducePow, Nat.reduceLeDiff, reduceIte, String.reduceBEq])
    ((first | rw [e_cons] | (dsimp only; rw [e_cons])); try simp only [dZ, dG, boR, coR, bfD, bmD, bmT, wipeD, sizeLine, Nat.reduceAdd, Nat.reducePow, Nat.reduceLeDiff, reduceIte, String.reduceBEq])
    refine ⟨⟨by decide, by decide, by decide⟩, ?_⟩
    cases hc : decide ((10 : Int) ^ (Int.toNat 18) ≤ c) with
    | true =>
      (try simp only [dZ, dG, boR, coR, bfD, bmD, bmT, wipeD, sizeLine, Nat.reduceAdd, Nat.reducePow, Nat.reduceLeDiff, reduceIte, String.reduceBEq])
      ((first | rw [e_cons] | (dsimp only; rw [e_cons])); try simp only [dZ, dG, boR, coR, bfD, bmD, bmT, wipeD, sizeLine, Nat.reduceAdd, Nat.reducePow, Nat.reduceLeDiff, reduceIte, String.reduceBEq])
      refine ix_deck hd3 (val_left l m2 dr2) ?_
      refine ⟨by unfold tyD; dsimp only; rw [hL3], ?_⟩
      refine ⟨⟨by split <;> omega, by split <;> omega⟩, ?_⟩
      refine o_app hL3 (by rw [List.length_map]; have : sizeLine = 16777216 := rfl; omega) ?_
      rw [show r.map DV.int ++ [DV.int (c.fdiv (if many > 2 then many else 2))] = (r ++ [c.fdiv (if many > 2 then many else 2)]).map .int from by rw [List.map_append]; rfl]
      have ok4 : okD (some (d, l)) (updD G3 l (.lst ((r ++ [c.fdiv (if many > 2 then many else 2)]).map .int))) := ⟨dl, r ++ [c.fdiv (if many > 2 then many else 2)], m2, dr2, by rw [List.length_append, List.length_singleton]; exact hr, by rw [updD_ne dl]; exact hd3, updD_same⟩
      have e4 := e3.trans (ext_deck (fun a o _ n q => by rw [updD_ne n]; exact q) ok4)
      ((first | rw [e_cons] | (dsimp only; rw [e_cons])); try simp only [dZ, dG, boR, coR, bfD, bmD, bmT, wipeD, sizeLine, Nat.reduceAdd, Nat.reducePow, Nat.reduceLeDiff, reduceIte, String.reduceBEq])
      refine ⟨h1, k _ _ e4 ok4 ⟨_, rfl, Int.emod_nonneg _ (by omega), Int.emod_lt_of_pos _ h1⟩⟩
    | false =>
      (try simp only [dZ, dG, boR, coR, bfD, bmD, bmT, wipeD, sizeLine, Nat.reduceAdd, Nat.reducePow, Nat.reduceLeDiff, reduceIte, String.reduceBEq])
      (first | (rw [e_nil]; try dsimp only) | (dsimp only; rw [e_nil]; try dsimp only))
      ((first | rw [e_cons] | (dsimp only; rw [e_cons])); try simp only [dZ, dG, boR, coR, bfD, bmD, bmT, wipeD, sizeLine, Nat.reduceAdd, Nat.reducePow, Nat.reduceLeDiff, reduceIte, String.reduceBEq])
      refine ⟨by decide, ?_⟩
      repeat (first | (rw [e_nil]; try dsimp only) | (dsimp only; rw [e_nil]; try dsimp only))
      exact rest _ _ dr2 G3 e3 ok3
theorem draw_use {C : Nat → DSp} (h5 : Has C 5 S_draw) {d l : Addr} {m : Int} {G : DH} {P : DK} {EX : DXK} (h1 : 0 < m) (h2 : m < 1073741824) (ok : okD (some (d, l)) G) (k : ∀ i G2, Ext (some (d, l)) G G2 → okD (some (d, l)) G2 → 0 ≤ i → i < m → P (.int i) G2) : C 5 [.ref d, .int m] G P EX :=
  SP.use h5 ((d, l), m) ok ⟨rfl, rfl, h1, h2⟩ fun v G2 e2 ok2 ⟨i, hv, i0, i1⟩ => by subst hv; exact k i G2 e2 ok2 i0 i1
end DL
end
section
set_option Elab.async false
set_option linter.all false
set_option maxRecDepth 100000
set_option autoImplicit false
namespace DL
open PySem PySem.Spec PyProof.Rows L2
open PySem.PyData (strOk)
abbrev S_pick : DSp := SP (α := (Addr × Addr) × DV × List DV) (fun D x G ds => D = some x.1 ∧ ds = [.ref x.1.1, x.2.1] ∧ (x.2.1 = .tup x.2.2 ∨ ∃ a, x.2.1 = .ref a ∧ Kn D G a (.lst x.2.2)) ∧ x.2.2 ≠ [] ∧ x.2.2.length ≤ 100000) (fun D x G v => v ∈ x.2.2)
theorem sv_pick {C : Nat → DSp} (h5 : Has C 5 S_draw) : Serves tabs C f_law_pick S_pick := SP.serves fun D x ds G EX P ok ⟨eD, e, h1, h2, h3⟩ k => by
  obtain ⟨⟨d, l⟩, s, xs⟩ := x
  dsimp only at eD e h1 h2 h3 k
  subst eD e
  have hx : 0 < xs.length := by cases xs with
    | nil => exact absurd rfl h2
    | cons _ _ => simp
  show denSs tabs C EX _ _ [some _, some _] G
  rw [f_law_pick]
  rcases h1 with rfl | ⟨a, rfl, kn⟩
  · ((first | rw [e_cons] | (dsimp only; rw [e_cons])); try simp only [dZ, dG, boR, coR, bfD, bmD, bmT, wipeD, sizeLine, Nat.reduceAdd, Nat.reducePow, Nat.reduceLeDiff, reduceIte, String.reduceBEq])
    refine SP.use h5 ((d, l), (xs.length : Int)) ok ⟨rfl, rfl, by simp only []; omega, by simp only []; omega⟩ fun v G2 e2 ok2 ⟨i, hv, i0, i1⟩ => ?_
    subst hv
    rw [o_ixT]
    obtain ⟨y, h1, h2, _⟩ := atN i0 i1
    exact ⟨y, h1, k _ _ e2 ok2 h2⟩
  · ((first | rw [e_cons] | (dsimp only; rw [e_cons])); try simp only [dZ, dG, boR, coR, bfD, bmD, bmT, wipeD, sizeLine, Nat.reduceAdd, Nat.reducePow, Nat.reduceLeDiff, reduceIte, String.reduceBEq])
    rw [o_lenL kn.2]
    refine SP.use h5 ((d, l), (xs.length : Int)) ok ⟨rfl, rfl, by simp only []; omega, by simp only []; omega⟩ fun v G2 e2 ok2 ⟨i, hv, i0, i1⟩ => ?_
    subst hv
    rw [o_ixL (kn.mono e2).2]
    obtain ⟨y, h1, h2, _⟩ := atN i0 i1
    exact ⟨y, h1, k _ _ e2 ok2 h2⟩
theorem pick_use {C : Nat → DSp} (h7 : Has C 7 S_pick) {d l : Addr} {s : DV} {xs : List DV} {G : DH} {P : DK} {EX : DXK} (hs : s = .tup xs ∨ ∃ a, s = .ref a ∧ Kn (some (d, l)) G a (.lst xs)) (h1 : xs ≠ []) (h2 : xs.length ≤ 100000) (ok : okD (some (d, l)) G) (k : ∀ v G2, Ext (some (d, l)) G G2 → okD (some (d, l)) G2 → v ∈ xs → P v G2) : C 7 [.ref d, s] G P EX :=
  SP.use h7 ((d, l), s, xs) ok ⟨rfl, rfl, hs, h1, h2⟩ k
/-! the deck is made -/
def toDeck : DV → DV
  | .int i => .int i
  | _ => .non
theorem mrg_deck (a b c : DV) : mergeD [] [(kS "left", a), (kS "mixed", b), (kS "draws", c)] = [(kS "left", a), (kS "mixed", b), (kS "draws", c)] := rfl
abbrev S_deck : DSp := SP (α := DV × List Int) (fun D x G ds => D = none ∧ ds = [x.1, .int 20135100] ∧ (x.1 = .lk (x.2.map .int) ∨ ∃ a, x.1 = .ref a ∧ G a = some (.lst (x.2.map .int))) ∧ x.2.length ≤ 63) (fun D x G v => ∃ d l, v = .ref d ∧ okD (some (d, l)) G)
theorem cut_ints (ns : List Int) (lo hi : Option Int) : ∃ ms : List Int, cutD (ns.map DV.int) lo hi = ms.map .int ∧ ms.length ≤ ns.length := by
  unfold cutD
  rw [← List.map_drop, ← List.map_take]
  exact ⟨_, rfl, by simp; omega⟩
theorem sl_lk {G : DH} {P : DK} {xs : List DV} {lo hi : Option Int} : dSlR (.lk xs) lo hi G P = NewO (.lst (cutD xs lo hi)) G P := rfl
theorem sv_deck {C : Nat → DSp} : Serves tabs C f_law_deck S_deck := SP.serves fun D x ds G EX P ok ⟨eD, e, h1, h2⟩ k => by
  obtain ⟨s, ns⟩ := x
  dsimp only at eD e h1 h2 k
  subst eD e
  show denSs tabs C EX _ _ [some _, some _, none] G
  rw [f_law_deck]
  have sl : ∀ (G' : DH) (P : DK), Ext none G G' → NewO (.lst (cutD (ns.map DV.int) none (some 63))) G' P → dSlR s none (some 63) G' P := fun G' P e' k => by
    rcases h1 with rfl | ⟨a, rfl, hg⟩
    · rw [sl_lk]; exact k
    · rw [o_slL (e'.k a _ id hg)]; exact k
  obtain ⟨ms, em, hm⟩ := cut_ints ns none (some 63)
  have hl : (ms.map DV.int).length < sizeLine := by rw [List.length_map]; have : sizeLine = 16777216 := rfl; omega
  ((first | rw [e_cons] | (dsimp only; rw [e_cons])); try simp only [dZ, dG, boR, coR, bfD, bmD, bmT, wipeD, sizeLine, Nat.reduceAdd, Nat.reducePow, Nat.reduceLeDiff, reduceIte, String.reduceBEq])
  refine sl G _ (Ext.refl none G) ?_
  rw [em]
  refine NewO.run (D := none) trivial fun p G1 e1 ok1 kn _ => ⟨_, it_kn kn G1 (Ext.refl _ _), ?_⟩
  refine ForK.run (fun i τ' G' => ∃ sd : Int, ∃ c, τ' = [some s, some (.int sd), c] ∧ Ext none G1 G') ⟨_, _, rfl, Ext.refl _ _⟩ (fun _ _ G' ⟨_, _, _, e'⟩ => it_kn kn G' e') (fun i τ' G' x hx ⟨sd, c, eτ, e'⟩ => ?_) fun τ' G' ⟨sd, c, eτ, e'⟩ => ?_
  · obtain ⟨z, rfl, _⟩ := at_map hx
    subst eτ
    (try simp only [dZ, dG, boR, coR, bfD, bmD, bmT, wipeD, sizeLine, Nat.reduceAdd, Nat.reducePow, Nat.reduceLeDiff, reduceIte, String.reduceBEq])
    ((first | rw [e_cons] | (dsimp only; rw [e_cons])); try simp only [dZ, dG, boR, coR, bfD, bmD, bmT, wipeD, sizeLine, Nat.reduceAdd, Nat.reducePow, Nat.reduceLeDiff, reduceIte, String.reduceBEq])
    refine ⟨.inr ⟨by decide, by decide⟩, by decide, by decide, ?_⟩
    (first | (rw [e_nil]; try dsimp only) | (dsimp only; rw [e_nil]; try dsimp only))
    exact ⟨_, _, rfl, e'⟩
  · subst eτ
    ((first | rw [e_cons] | (dsimp only; rw [e_cons])); try simp only [dZ, dG, boR, coR, bfD, bmD, bmT, wipeD, sizeLine, Nat.reduceAdd, Nat.reducePow, Nat.reduceLeDiff, reduceIte, String.reduceBEq])
    have e0 := e1.trans e'
    simp only [d_dct, denL, List.zip_cons_cons, List.zip_nil_left, dDisp, dPairs]
    (try simp only [dZ, dG, boR, coR, bfD, bmD, bmT, wipeD, sizeLine, Nat.reduceAdd, Nat.reducePow, Nat.reduceLeDiff, reduceIte, String.reduceBEq])
    intro d hd
    have e2 : Ext none G' (updD G' d (.dK [])) := Ext.new trivial hd
    have kd : Kn none (updD G' d (.dK [])) d (.dK []) := Kn.new trivial hd
    have fd := (e0.fresh trivial hd)
    revert e2 kd
    generalize updD G' d (.dK []) = G2
    intro e2 kd
    refine sl G2 _ (e0.trans e2) ?_
    rw [em]
    refine NewO.run (D := none) trivial fun q G3 e3 ok3 kq fq => ⟨_, it_kn kq G3 (Ext.refl _ _), ?_⟩
    refine LcK.map (D := none) toDeck (fun _ => true) ok3 hl (it_kn kq) (fun x hx => ?_) fun l0 G4 e4 ok4 kl0 _ => ?_
    · obtain ⟨z, _, rfl⟩ := List.mem_map.mp hx
      (try simp only [dZ, dG, boR, coR, bfD, bmD, bmT, wipeD, sizeLine, Nat.reduceAdd, Nat.reducePow, Nat.reduceLeDiff, reduceIte, String.reduceBEq])
      exact fun G5 e5 ok5 K1 K2 k1 _ => k1 G5 (Ext.refl _ _) ok5 trivial
    rw [List.filter_eq_self.mpr (fun _ _ => rfl), List.map_map, show toDeck ∘ DV.int = DV.int from rfl] at kl0
    refine ⟨_, by simp, seq_kn kl0, ?_⟩
    rw [← List.map_reverse]
    refine NewO.run (D := none) ok4 fun l G5 e5 ok5 kl fl => ?_
    have kd5 := kd.mono (e3.trans (e4.trans e5))
    have dl : d ≠ l := (kd.mono (e3.trans e4)).ne fl
    refine ⟨kd5.2, _, rfl, by show 3 ≤ 15; decide, ?_⟩
    rw [mrg_deck]
    have e6 : Ext none G G5 := e0.trans (e2.trans (e3.trans (e4.trans e5)))
    refine k _ _ (e6.wr trivial fd) trivial ⟨d, l, rfl, dl, ms.reverse, _, _, by rw [List.length_reverse]; omega, updD_same, ?_⟩
    rw [updD_ne (Ne.symm dl)]
    exact kl.2
/-! names of deeds -/
def DeedsN (nms : List Str) (deeds : List DV) : Prop := nms.length = deeds.length ∧ ∀ p ∈ nms.zip deeds, ∃ r, p.2 = .tup (.str p.1 :: r)
abbrev S_names : DSp := SP (α := Addr × List DV × List Str) (fun D x G ds => ds = [.ref x.1] ∧ WDeeds D G x.1 x.2.1 ∧ DeedsN x.2.2 x.2.1 ∧ x.2.1.length ≤ 100) (fun D x G v => ∃ p, v = .ref p ∧ Kn D G p (.lst (x.2.2.map .str)))
theorem sv_names {C : Nat → DSp} : Serves tabs C f_law_names S_names := SP.serves fun D x ds G EX P ok ⟨e, h1, ⟨h2, h3⟩, h4⟩ k => by
  obtain ⟨w, deeds, nms⟩ := x
  dsimp only at e h1 h2 h3 h4 k
  subst e
  show denSs tabs C EX _ _ [some _, none] G
  rw [f_law_names]
  ((first | rw [e_cons] | (dsimp only; rw [e_cons])); try simp only [dZ, dG, boR, coR, bfD, bmD, bmT, wipeD, sizeLine, Nat.reduceAdd, Nat.reducePow, Nat.reduceLeDiff, reduceIte, String.reduceBEq])
  refine ix_deeds h1 ?_
  (try simp only [dZ, dG, boR, coR, bfD, bmD, bmT, wipeD, sizeLine, Nat.reduceAdd, Nat.reducePow, Nat.reduceLeDiff, reduceIte, String.reduceBEq])
  refine LcK.map (D := D) fstD (fun _ => true) ok (sz100 h4) (fun _ _ => by trivial) (fun x hx => ?_) fun p G3 e3 ok3 kn _ => ?_
  · obtain ⟨nm, hm⟩ := zip_mem_right h2 hx
    obtain ⟨r, ex⟩ := h3 _ hm
    dsimp only at ex
    subst ex
    (try simp only [dZ, dG, boR, coR, bfD, bmD, bmT, wipeD, sizeLine, Nat.reduceAdd, Nat.reducePow, Nat.reduceLeDiff, reduceIte, String.reduceBEq])
    exact fun G1 e1 ok1 K1 K2 k1 _ => k1 G1 (Ext.refl D G1) ok1 trivial
  rw [List.filter_eq_self.mpr (fun _ _ => rfl), map_zip (g := DV.str) h2 (fun p hp => by obtain ⟨r, e⟩ := h3 _ hp; rw [e]; rfl)] at kn
  exact k _ _ e3 ok3 ⟨p, rfl, kn⟩
/-! drawn watchers -/
abbrev S_drawnW : DSp := SP (α := (Addr × Addr) × Addr × List DV) (fun D x G ds => D = some x.1 ∧ ds = [.ref x.1.1, .ref x.2.1] ∧ WDeeds D G x.2.1 x.2.2 ∧ x.2.2.length ≤ 100) (fun D x G v => WOk x.2.2.length 4 v)
theorem sv_drawnW {C : Nat → DSp} (h5 : Has C 5 S_draw) : Serves tabs C f_law_watcher S_drawnW := SP.serves fun D x ds G EX P ok ⟨eD, e, h1, h2⟩ k => by
  obtain ⟨⟨d, l⟩, w, deeds⟩ := x
  dsimp only at eD e h1 h2 k
  subst eD e
  show denSs tabs C EX _ _ [some _, some _, none, none, none, none] G
  rw [f_law_watcher]
  ((first | rw [e_cons] | (dsimp only; rw [e_cons])); try simp only [dZ, dG, boR, coR, bfD, bmD, bmT, wipeD, sizeLine, Nat.reduceAdd, Nat.reducePow, Nat.reduceLeDiff, reduceIte, String.reduceBEq])
  refine draw_use h5 (by decide) (by decide) ok fun i G1 e1 ok1 i0 i1 => ?_
  (try simp only [dZ, dG, boR, coR, bfD, bmD, bmT, wipeD, sizeLine, Nat.reduceAdd, Nat.reducePow, Nat.reduceLeDiff, reduceIte, String.reduceBEq])
  refine NewO.run ok1 fun p G2 e2 ok2 kn fp => ?_
  obtain ⟨m, hm⟩ : ∃ m : Nat, 1 + i = (m : Int) := ⟨(1 + i).toNat, by omega⟩
  have m1 : 1 ≤ m := by omega
  have m4 : m ≤ 4 := by omega
  rw [hm]
  have fp0 := (e1.fresh ok1 fp)
  have e12 := e1.trans e2
  ((first | rw [e_cons] | (dsimp only; rw [e_cons])); try simp only [dZ, dG, boR, coR, bfD, bmD, bmT, wipeD, sizeLine, Nat.reduceAdd, Nat.reducePow, Nat.reduceLeDiff, reduceIte, String.reduceBEq])
  refine ⟨by omega, by omega, ?_⟩
  refine ForK.run (fun j τ' G' => ∃ kk, ∃ acc : List (List Int), τ' = [some (.ref d), some (.ref w), kk, some (.int (m : Int)), some (.ref p), none] ∧ Ext (some (d, l)) G G' ∧ okD (some (d, l)) G' ∧ Kn (some (d, l)) G' p (.lst (acc.map rowD)) ∧ acc.length = j ∧ j ≤ m ∧ ∀ r ∈ acc, r.length = deeds.length ∧ ∀ i ∈ r, 0 ≤ i ∧ i < (m : Int)) ⟨_, [], rfl, e12, ok2, kn, rfl, by omega, by simp⟩ (fun _ _ _ _ => by trivial) (fun j τ' G' x hx ⟨kk, acc, eτ, e', ok', kn', ha, hj, hr⟩ => ?_) fun τ' G' ⟨kk, acc, eτ, e', ok', kn', ha, hj, hr⟩ => ?_
  · obtain ⟨rfl, hj2⟩ := rng_at hx
    subst eτ
    (try simp only [dZ, dG, boR, coR, bfD, bmD, bmT, wipeD, sizeLine, Nat.reduceAdd, Nat.reducePow, Nat.reduceLeDiff, reduceIte, String.reduceBEq])
    ((first | rw [e_cons] | (dsimp only; rw [e_cons])); try simp only [dZ, dG, boR, coR, bfD, bmD, bmT, wipeD, sizeLine, Nat.reduceAdd, Nat.reducePow, Nat.reduceLeDiff, reduceIte, String.reduceBEq])
    refine ⟨ty_lst kn', ?_⟩
    refine ix_deeds (h1.mono e') ?_
    (try simp only [dZ, dG, boR, coR, bfD, bmD, bmT, wipeD, sizeLine, Nat.reduceAdd, Nat.reducePow, Nat.reduceLeDiff, reduceIte, String.reduceBEq])
    refine LcK.run (D := some (d, l)) (fun j l => ∃ is : List Int, l = is.map .int ∧ is.length = j ∧ ∀ i ∈ is, 0 ≤ i ∧ i < (m : Int)) ok' (sz100 h2) (fun _ _ => by trivial) ⟨[], rfl, rfl, by simp⟩ (fun j' l' G3 x e3 ok3 hx ⟨is, el, hl, hi⟩ => ?_) fun q G3 l' e3 ok3 kq hl _ ⟨is, el, hl2, hi⟩ => ?_
    · (try simp only [dZ, dG, boR, coR, bfD, bmD, bmT, wipeD, sizeLine, Nat.reduceAdd, Nat.reducePow, Nat.reduceLeDiff, reduceIte, String.reduceBEq])
      refine fun K1 K2 k1 k2 => SP.use h5 ((d, l), (m : Int)) ok3 ⟨rfl, rfl, by simp only []; omega, by simp only []; omega⟩ fun v G4 e4 ok4 ⟨i, hv, i0, i1⟩ => ?_
      subst hv
      refine k1 _ G4 e4 ok4 ⟨is ++ [i], by rw [el, List.map_append]; rfl, by rw [List.length_append, hl]; rfl, fun z hz => ?_⟩
      rcases List.mem_append.mp hz with h | h
      · exact hi z h
      · rw [List.mem_singleton.mp h]; exact ⟨i0, i1⟩
    subst el
    rw [o_tupO (seq_kn kq)]
    refine app_step ok fp0 (e'.trans e3) (kn'.mono e3) (by rw [List.length_map, ha]; have : sizeLine = 16777216 := rfl; omega) fun G4 e4 ok4 kn4 _ => ?_
    (first | (rw [e_nil]; try dsimp only) | (dsimp only; rw [e_nil]; try dsimp only))
    refine ⟨_, acc ++ [is], rfl, e4, ok4, by rw [List.map_append]; exact kn4, by rw [List.length_append, ha]; rfl, by simp at hj2; omega, fun r hr' => ?_⟩
    rcases List.mem_append.mp hr' with h | h
    · exact hr r h
    · rw [List.mem_singleton.mp h]; exact ⟨hl2, hi⟩
  · subst eτ
    ((first | rw [e_cons] | (dsimp only; rw [e_cons])); try simp only [dZ, dG, boR, coR, bfD, bmD, bmT, wipeD, sizeLine, Nat.reduceAdd, Nat.reducePow, Nat.reduceLeDiff, reduceIte, String.reduceBEq])
    rw [o_tupO (seq_kn kn')]
    refine ⟨by omega, by omega, ?_⟩
    refine LcK.run (D := some (d, l)) (fun j l => ∃ is : List Int, l = is.map .int ∧ is.length ≤ j) ok' (by rw [rngD_len]; have : sizeLine = 16777216 := rfl; omega) (fun _ _ => by trivial) ⟨[], rfl, Nat.le_refl 0⟩ (fun j' l' G3 x e3 ok3 hx ⟨is, el, hl⟩ => ?_) fun q G3 l' e3 ok3 kq hl _ ⟨is, el, hl2⟩ => ?_
    · obtain ⟨rfl, hj2⟩ := rng_at hx
      (try simp only [dZ, dG, boR, coR, bfD, bmD, bmT, wipeD, sizeLine, Nat.reduceAdd, Nat.reducePow, Nat.reduceLeDiff, reduceIte, String.reduceBEq])
      refine fun K1 K2 k1 k2 => draw_use h5 (by decide) (by decide) ok3 fun i G4 e4 ok4 i0 i1 => ?_
      refine o_eqI ?_
      (try simp only [dZ, dG, boR, coR, bfD, bmD, bmT, wipeD, sizeLine, Nat.reduceAdd, Nat.reducePow, Nat.reduceLeDiff, reduceIte, String.reduceBEq])
      split
      · exact k1 _ G4 e4 ok4 ⟨is ++ [_], by rw [el, List.map_append]; rfl, by rw [List.length_append, List.length_singleton]; omega⟩
      · exact k2 G4 e4 ok4 ⟨is, el, by omega⟩
    subst el
    rw [o_tupO (seq_kn kq)]
    rw [rngD_len] at ha hl2
    refine k _ _ (e'.trans e3) ok3 ⟨acc, is, rfl, ⟨by omega, by omega, fun r h => ?_, by omega⟩⟩
    have := hr r h
    rw [show acc.length = m by omega]
    exact this
end DL
end
section
set_option Elab.async false
set_option linter.all false
set_option maxRecDepth 100000
set_option autoImplicit false
namespace DL
open PySem PySem.Spec PyProof.Rows L2
open PySem.PyData (strOk)
theorem sEqF {a b : String} (h : a ≠ b) : decide (Str.ofString a = Str.ofString b) = false := decide_eq_false fun e => h (ofString_inj.mp e)
theorem sEqT {a : String} : decide (Str.ofString a = Str.ofString a) = true := decide_eq_true rfl
abbrev sD (s : String) : DV := .str (Str.ofString s)
inductive Rec (nms : List Str) : Nat → DV → Prop
  | done {d : Nat} {s : Str} : s ∈ nms → Rec nms d (.tup [sD "done", .str s])
  | inord {d : Nat} {ss : List Str} : ss.length ≤ 3 → Rec nms d (.tup [sD "in order", .tup (ss.map .str)])
  | counted {d : Nat} {s : Str} {m r : Int} : 1 ≤ m → m ≤ 4 → Rec nms d (.tup [sD "counted", .str s, .int m, .int r])
  | own {d : Nat} {x : DV} : WOk nms.length 4 x → Rec nms d (.tup [sD "own", x])
  | opp {d : Nat} {x : DV} : Rec nms d x → Rec nms (d + 1) (.tup [sD "opposite", x])
  | bth {d : Nat} {o : String} {x y : DV} : (o = "both" ∨ o = "either") → Rec nms d x → Rec nms d y → Rec nms (d + 1) (.tup [sD o, x, y])
abbrev S_recipe (dep : Nat) : DSp := SP (α := (Addr × Addr) × Addr × List DV × List Str) (fun D x G ds => D = some x.1 ∧ ds = [.ref x.1.1, .ref x.2.1, .int (dep : Nat)] ∧ WDeeds D G x.2.1 x.2.2.1 ∧ DeedsN x.2.2.2 x.2.2.1 ∧ x.2.2.1.length ≤ 100 ∧ x.2.2.2 ≠ []) (fun D x G v => Rec x.2.2.2 dep v)
theorem sv_recipe {C : Nat → DSp} (dep : Nat) (h5 : Has C 5 S_draw) (h7 : Has C 7 S_pick) (h10 : Has C 10 S_names) (h4 : Has C 4 S_drawnW) (h14 : ∀ m, m < dep → Has C 14 (S_recipe m)) : Serves tabs C f_law_recipe (S_recipe dep) := SP.serves fun D x ds G EX P ok ⟨eD, e, h1, h2, h3, h4'⟩ k => by
  obtain ⟨⟨d, l⟩, w, deeds, nms⟩ := x
  dsimp only at eD e h1 h2 h3 h4' k
  subst eD e
  have hn : nms.length = deeds.length := h2.1
  show denSs tabs C EX _ _ [some _, some _, some _, none, none, none, none] G
  rw [f_law_recipe]
  ((first | rw [e_cons] | (dsimp only; rw [e_cons])); try simp only [dZ, dG, boR, coR, bfD, bmD, bmT, wipeD, sizeLine, Nat.reduceAdd, Nat.reducePow, Nat.reduceLeDiff, reduceIte, String.reduceBEq])
  refine SP.use h10 (w, deeds, nms) ok ⟨rfl, h1, h2, h3⟩ fun v G1 e1 ok1 ⟨p, hv, kp⟩ => ?_
  subst hv
  (try simp only [dZ, dG, boR, coR, bfD, bmD, bmT, wipeD, sizeLine, Nat.reduceAdd, Nat.reducePow, Nat.reduceLeDiff, reduceIte, String.reduceBEq])
  have fin : ∀ (wy : Int) (G2 : DH), Ext (some (d, l)) G1 G2 → okD (some (d, l)) G2 → 0 ≤ wy → (wy < 4 ∨ ∃ m, dep = m + 1) → denSs tabs C EX [
    .ifs (.cmp .eq (.v 4) (.int 0)) [
      .ret (.tup [.str "done", .call "_law_pick" 7 2 [.v 0, .v 3]])] [],
    .ifs (.cmp .eq (.v 4) (.int 1)) [
      .ret (.tup [.str "in order", .bf .tuple [.lc [6] (.n 6) .rng1 [.call "_law_draw" 5 2 [.v 0, .int 4]] [] (.call "_law_pick" 7 2 [.v 0, .v 3])]])] [],
    .ifs (.cmp .eq (.v 4) (.int 2)) [
      .asg (.n 5) (.bin .add (.int 1) (.call "_law_draw" 5 2 [.v 0, .int 4])),
      .ret (.tup [.str "counted", .call "_law_pick" 7 2 [.v 0, .v 3], .v 5, .call "_law_draw" 5 2 [.v 0, .v 5]])] [],
    .ifs (.cmp .eq (.v 4) (.int 3)) [
      .ret (.tup [.str "own", .call "_law_watcher" 4 2 [.v 0, .v 1]])] [],
    .ifs (.cmp .eq (.v 4) (.int 4)) [
      .ret (.tup [.str "opposite", .call "_law_recipe" 14 3 [.v 0, .v 1, .bin .sub (.v 2) (.int 1)]])] [],
    .ret (.tup [.call "_law_pick" 7 2 [.v 0, .lst [.str "both", .str "either"]], .call "_law_recipe" 14 3 [.v 0, .v 1, .bin .sub (.v 2) (.int 1)], .call "_law_recipe" 14 3 [.v 0, .v 1, .bin .sub (.v 2) (.int 1)]])] { nx := fun _ G' => P .non G', rt := P } [some (.ref d), some (.ref w), some (.int (dep : Nat)), some (.ref p), some (.int wy), none, none] G2 := fun wy G2 e2 ok2 w0 hw => by
    have e12 := e1.trans e2
    have kp2 := kp.mono e2
    have pickS : ∀ {G : DH} {P : DK} {EX : DXK}, Kn (some (d, l)) G p (.lst (nms.map .str)) → okD (some (d, l)) G → (∀ s G2, Ext (some (d, l)) G G2 → okD (some (d, l)) G2 → s ∈ nms → P (.str s) G2) → C 7 [.ref d, .ref p] G P EX := fun kn ok k =>
      pick_use h7 (.inr ⟨p, rfl, kn⟩) (by simpa using h4') (by rw [List.length_map]; omega) ok fun v G2 e2 ok2 hv => by
        obtain ⟨s, hs, rfl⟩ := List.mem_map.mp hv
        exact k s G2 e2 ok2 hs
    ((first | rw [e_cons] | (dsimp only; rw [e_cons])); try simp only [dZ, dG, boR, coR, bfD, bmD, bmT, wipeD, sizeLine, Nat.reduceAdd, Nat.reducePow, Nat.reduceLeDiff, reduceIte, String.reduceBEq])
    refine o_eqI ?_
    refine ⟨_, rfl, ?_⟩
    by_cases c0 : wy = 0
    · rw [decide_eq_true c0]
      (try simp only [dZ, dG, boR, coR, bfD, bmD, bmT, wipeD, sizeLine, Nat.reduceAdd, Nat.reducePow, Nat.reduceLeDiff, reduceIte, String.reduceBEq])
      ((first | rw [e_cons] | (dsimp only; rw [e_cons])); try simp only [dZ, dG, boR, coR, bfD, bmD, bmT, wipeD, sizeLine, Nat.reduceAdd, Nat.reducePow, Nat.reduceLeDiff, reduceIte, String.reduceBEq])
      refine pickS kp2 ok2 fun s G3 e3 ok3 hs => ?_
      (try simp only [dZ, dG, boR, coR, bfD, bmD, bmT, wipeD, sizeLine, Nat.reduceAdd, Nat.reducePow, Nat.reduceLeDiff, reduceIte, String.reduceBEq])
      exact k _ _ (e12.trans e3) ok3 (.done hs)
    rw [decide_eq_false c0]
    (try simp only [dZ, dG, boR, coR, bfD, bmD, bmT, wipeD, sizeLine, Nat.reduceAdd, Nat.reducePow, Nat.reduceLeDiff, reduceIte, String.reduceBEq])
    (rw [e_nil]; dsimp only; rw [e_cons]; try simp only [dZ, dG, boR, coR, bfD, bmD, bmT, wipeD, sizeLine, Nat.reduceAdd, Nat.reducePow, Nat.reduceLeDiff, reduceIte, String.reduceBEq])
    refine o_eqI ?_
    refine ⟨_, rfl, ?_⟩
    by_cases c1 : wy = 1
    · rw [decide_eq_true c1]
      (try simp only [dZ, dG, boR, coR, bfD, bmD, bmT, wipeD, sizeLine, Nat.reduceAdd, Nat.reducePow, Nat.reduceLeDiff, reduceIte, String.reduceBEq])
      ((first | rw [e_cons] | (dsimp only; rw [e_cons])); try simp only [dZ, dG, boR, coR, bfD, bmD, bmT, wipeD, sizeLine, Nat.reduceAdd, Nat.reducePow, Nat.reduceLeDiff, reduceIte, String.reduceBEq])
      refine draw_use h5 (by decide) (by decide) ok2 fun i G3 e3 ok3 i0 i1 => ?_
      (try simp only [dZ, dG, boR, coR, bfD, bmD, bmT, wipeD, sizeLine, Nat.reduceAdd, Nat.reducePow, Nat.reduceLeDiff, reduceIte, String.reduceBEq])
      refine ⟨by omega, by omega, ?_⟩
      refine LcK.run (D := some (d, l)) (fun j l => ∃ is : List Str, l = is.map .str ∧ is.length = j) ok3 (by rw [rngD_len]; have : sizeLine = 16777216 := rfl; omega) (fun _ _ => by trivial) ⟨[], rfl, rfl⟩ (fun j' l' G4 x e4 ok4 hx ⟨is, el, hl⟩ => ?_) fun q G4 l' e4 ok4 kq hl _ ⟨is, el, hl2⟩ => ?_
      · (try simp only [dZ, dG, boR, coR, bfD, bmD, bmT, wipeD, sizeLine, Nat.reduceAdd, Nat.reducePow, Nat.reduceLeDiff, reduceIte, String.reduceBEq])
        refine fun K1 K2 k1 k2 => pickS (kp2.mono (e3.trans e4)) ok4 fun s G5 e5 ok5 hs => k1 _ G5 e5 ok5 ⟨is ++ [s], by rw [el, List.map_append]; rfl, by rw [List.length_append, hl]; rfl⟩
      subst el
      rw [o_tupO (seq_kn kq)]
      rw [rngD_len] at hl2
      (try simp only [dZ, dG, boR, coR, bfD, bmD, bmT, wipeD, sizeLine, Nat.reduceAdd, Nat.reducePow, Nat.reduceLeDiff, reduceIte, String.reduceBEq])
      exact k _ _ (e12.trans (e3.trans e4)) ok4 (.inord (by omega))
    rw [decide_eq_false c1]
    (try simp only [dZ, dG, boR, coR, bfD, bmD, bmT, wipeD, sizeLine, Nat.reduceAdd, Nat.reducePow, Nat.reduceLeDiff, reduceIte, String.reduceBEq])
    (rw [e_nil]; dsimp only; rw [e_cons]; try simp only [dZ, dG, boR, coR, bfD, bmD, bmT, wipeD, sizeLine, Nat.reduceAdd, Nat.reducePow, Nat.reduceLeDiff, reduceIte, String.reduceBEq])
    refine o_eqI ?_
    refine ⟨_, rfl, ?_⟩
    by_cases c2 : wy = 2
    · rw [decide_eq_true c2]
      (try simp only [dZ, dG, boR, coR, bfD, bmD, bmT, wipeD, sizeLine, Nat.reduceAdd, Nat.reducePow, Nat.reduceLeDiff, reduceIte, String.reduceBEq])
      ((first | rw [e_cons] | (dsimp only; rw [e_cons])); try simp only [dZ, dG, boR, coR, bfD, bmD, bmT, wipeD, sizeLine, Nat.reduceAdd, Nat.reducePow, Nat.reduceLeDiff, reduceIte, String.reduceBEq])
      refine draw_use h5 (by decide) (by decide) ok2 fun i G3 e3 ok3 i0 i1 => ?_
      (try simp only [dZ, dG, boR, coR, bfD, bmD, bmT, wipeD, sizeLine, Nat.reduceAdd, Nat.reducePow, Nat.reduceLeDiff, reduceIte, String.reduceBEq])
      ((first | rw [e_cons] | (dsimp only; rw [e_cons])); try simp only [dZ, dG, boR, coR, bfD, bmD, bmT, wipeD, sizeLine, Nat.reduceAdd, Nat.reducePow, Nat.reduceLeDiff, reduceIte, String.reduceBEq])
      refine pickS (kp2.mono e3) ok3 fun s G4 e4 ok4 hs => ?_
      (try simp only [dZ, dG, boR, coR, bfD, bmD, bmT, wipeD, sizeLine, Nat.reduceAdd, Nat.reducePow, Nat.reduceLeDiff, reduceIte, String.reduceBEq])
      refine draw_use h5 (by omega) (by omega) ok4 fun r G5 e5 ok5 r0 r1 => ?_
      (try simp only [dZ, dG, boR, coR, bfD, bmD, bmT, wipeD, sizeLine, Nat.reduceAdd, Nat.reducePow, Nat.reduceLeDiff, reduceIte, String.reduceBEq])
      exact k _ _ (e12.trans (e3.trans (e4.trans e5))) ok5 (.counted (by omega) (by omega))
    rw [decide_eq_false c2]
    (try simp only [dZ, dG, boR, coR, bfD, bmD, bmT, wipeD, sizeLine, Nat.reduceAdd, Nat.reducePow, Nat.reduceLeDiff, reduceIte, String.reduceBEq])
    (rw [e_nil]; dsimp only; rw [e_cons]; try simp only [dZ, dG, boR, coR, bfD, bmD, bmT, wipeD, sizeLine, Nat.reduceAdd, Nat.reducePow, Nat.reduceLeDiff, reduceIte, String.reduceBEq])
    refine o_eqI ?_
    refine ⟨_, rfl, ?_⟩
    by_cases c3 : wy = 3
    · rw [decide_eq_true c3]
      (try simp only [dZ, dG, boR, coR, bfD, bmD, bmT, wipeD, sizeLine, Nat.reduceAdd, Nat.reducePow, Nat.reduceLeDiff, reduceIte, String.reduceBEq])
      ((first | rw [e_cons] | (dsimp only; rw [e_cons])); try simp only [dZ, dG, boR, coR, bfD, bmD, bmT, wipeD, sizeLine, Nat.reduceAdd, Nat.reducePow, Nat.reduceLeDiff, reduceIte, String.reduceBEq])
      refine SP.use h4 ((d, l), w, deeds) ok2 ⟨rfl, rfl, h1.mono e12, h3⟩ fun v G3 e3 ok3 hv => ?_
      (try simp only [dZ, dG, boR, coR, bfD, bmD, bmT, wipeD, sizeLine, Nat.reduceAdd, Nat.reducePow, Nat.reduceLeDiff, reduceIte, String.reduceBEq])
      exact k _ _ (e12.trans e3) ok3 (.own (by rw [hn]; exact hv))
    rw [decide_eq_false c3]
    obtain ⟨m, rfl⟩ : ∃ m, dep = m + 1 := by
      rcases hw with hw | hw
      · omega
      · exact hw
    (try simp only [dZ, dG, boR, coR, bfD, bmD, bmT, wipeD, sizeLine, Nat.reduceAdd, Nat.reducePow, Nat.reduceLeDiff, reduceIte, String.reduceBEq])
    have recS : ∀ {G' : DH} {P : DK} {EX : DXK}, Ext (some (d, l)) G G' → okD (some (d, l)) G' → (∀ v G2, Ext (some (d, l)) G' G2 → okD (some (d, l)) G2 → Rec nms m v → P v G2) → C 14 [.ref d, .ref w, .int ((m + 1 : Nat) - 1)] G' P EX := fun e ok k => by
      rw [show ((m + 1 : Nat) : Int) - 1 = (m : Nat) from by omega]
      exact SP.use (h14 m (by omega)) ((d, l), w, deeds, nms) ok ⟨rfl, rfl, h1.mono e, h2, h3, h4'⟩ k
    (rw [e_nil]; dsimp only; rw [e_cons]; try simp only [dZ, dG, boR, coR, bfD, bmD, bmT, wipeD, sizeLine, Nat.reduceAdd, Nat.reducePow, Nat.reduceLeDiff, reduceIte, String.reduceBEq])
    refine o_eqI ?_
    refine ⟨_, rfl, ?_⟩
    by_cases c4 : wy = 4
    · rw [decide_eq_true c4]
      (try simp only [dZ, dG, boR, coR, bfD, bmD, bmT, wipeD, sizeLine, Nat.reduceAdd, Nat.reducePow, Nat.reduceLeDiff, reduceIte, String.reduceBEq])
      ((first | rw [e_cons] | (dsimp only; rw [e_cons])); try simp only [dZ, dG, boR, coR, bfD, bmD, bmT, wipeD, sizeLine, Nat.reduceAdd, Nat.reducePow, Nat.reduceLeDiff, reduceIte, String.reduceBEq])
      refine recS e12 ok2 fun v G3 e3 ok3 hv => ?_
      (try simp only [dZ, dG, boR, coR, bfD, bmD, bmT, wipeD, sizeLine, Nat.reduceAdd, Nat.reducePow, Nat.reduceLeDiff, reduceIte, String.reduceBEq])
      exact k _ _ (e12.trans e3) ok3 (.opp hv)
    rw [decide_eq_false c4]
    (try simp only [dZ, dG, boR, coR, bfD, bmD, bmT, wipeD, sizeLine, Nat.reduceAdd, Nat.reducePow, Nat.reduceLeDiff, reduceIte, String.reduceBEq])
    (rw [e_nil]; dsimp only; rw [e_cons]; try simp only [dZ, dG, boR, coR, bfD, bmD, bmT, wipeD, sizeLine, Nat.reduceAdd, Nat.reducePow, Nat.reduceLeDiff, reduceIte, String.reduceBEq])
    refine NewO.run ok2 fun q G3 e3 ok3 kq _ => ?_
    refine pick_use h7 (.inr ⟨q, rfl, kq⟩) (by simp) (by simp) ok3 fun v G4 e4 ok4 hv => ?_
    have hv2 : ∃ o : String, (o = "both" ∨ o = "either") ∧ v = sD o := by
      rcases List.mem_cons.mp hv with rfl | hv
      · exact ⟨_, .inl rfl, rfl⟩
      · exact ⟨_, .inr rfl, List.mem_singleton.mp hv⟩
    obtain ⟨o, ho, rfl⟩ := hv2
    (try simp only [dZ, dG, boR, coR, bfD, bmD, bmT, wipeD, sizeLine, Nat.reduceAdd, Nat.reducePow, Nat.reduceLeDiff, reduceIte, String.reduceBEq])
    refine recS (e12.trans (e3.trans e4)) ok4 fun x G5 e5 ok5 hx => ?_
    (try simp only [dZ, dG, boR, coR, bfD, bmD, bmT, wipeD, sizeLine, Nat.reduceAdd, Nat.reducePow, Nat.reduceLeDiff, reduceIte, String.reduceBEq])
    refine recS (e12.trans (e3.trans (e4.trans e5))) ok5 fun y G6 e6 ok6 hy => ?_
    (try simp only [dZ, dG, boR, coR, bfD, bmD, bmT, wipeD, sizeLine, Nat.reduceAdd, Nat.reducePow, Nat.reduceLeDiff, reduceIte, String.reduceBEq])
    exact k _ _ (e12.trans (e3.trans (e4.trans (e5.trans e6)))) ok6 (.bth ho hx hy)
  cases dep with
  | zero =>
    rw [show decide ((0 : Int) < ((0 : Nat) : Int)) = false from rfl]
    (try simp only [dZ, dG, boR, coR, bfD, bmD, bmT, wipeD, sizeLine, Nat.reduceAdd, Nat.reducePow, Nat.reduceLeDiff, reduceIte, String.reduceBEq])
    refine draw_use h5 (by decide) (by decide) ok1 fun i G2 e2 ok2 i0 i1 => ?_
    (try simp only [dZ, dG, boR, coR, bfD, bmD, bmT, wipeD, sizeLine, Nat.reduceAdd, Nat.reducePow, Nat.reduceLeDiff, reduceIte, String.reduceBEq])
    exact fin i G2 e2 ok2 i0 (.inl i1)
  | succ m =>
    rw [show decide ((0 : Int) < ((m + 1 : Nat) : Int)) = true from decide_eq_true (by omega)]
    (try simp only [dZ, dG, boR, coR, bfD, bmD, bmT, wipeD, sizeLine, Nat.reduceAdd, Nat.reducePow, Nat.reduceLeDiff, reduceIte, String.reduceBEq])
    refine draw_use h5 (by decide) (by decide) ok1 fun i G2 e2 ok2 i0 i1 => ?_
    (try simp only [dZ, dG, boR, coR, bfD, bmD, bmT, wipeD, sizeLine, Nat.reduceAdd, Nat.reducePow, Nat.reduceLeDiff, reduceIte, String.reduceBEq])
    exact fin i G2 e2 ok2 i0 (.inr ⟨m, rfl⟩)
end DL
end
section
set_option Elab.async false
set_option linter.all false
set_option maxRecDepth 100000
set_option autoImplicit false
set_option maxHeartbeats 400000
namespace DL
open PySem PySem.Spec PyProof.Rows L2
open PySem.PyData (strOk)
def LB : Nat → Nat
  | 0 => 4
  | d + 1 => LB d * LB d
theorem LB_pos (d : Nat) : 4 ≤ LB d := by
  induction d with
  | zero => exact Nat.le_refl 4
  | succ d ih => exact Nat.le_trans (show 4 ≤ 4 * 4 by decide) (Nat.mul_le_mul ih ih)
theorem LB_le {d : Nat} (h : d ≤ 2) : LB d ≤ 256 := by
  rcases d with _ | _ | _ | d
  · decide
  · decide
  · decide
  · omega
theorem rep_c (n : Nat) (c : Int) : (List.replicate n [DV.int c]).flatten = (List.replicate n c).map .int := by
  induction n with
  | zero => rfl
  | succ n ih => rw [List.replicate_succ, List.flatten_cons, ih, List.replicate_succ]; rfl
def eqAdd (k : Int) (g : Str) : DV → DV
  | .str o => .int (k + if o = g then 1 else 0)
  | _ => .non
def eqMod (k m : Int) (g : Str) : DV → DV
  | .str o => .int ((k + if o = g then 1 else 0) % m)
  | _ => .non
theorem enum_at {xs : List DV} {i : Nat} {x : DV} (h : (enumD xs)[i]? = some x) : ∃ y, x = .tup [.int ((i : Nat) : Int), y] ∧ y ∈ xs ∧ xs[i]? = some y := by
  rw [enumD_at] at h
  obtain ⟨y, h1, h2⟩ := Option.map_eq_some_iff.mp h
  exact ⟨y, h2.symm, List.mem_of_getElem? h1, h1⟩
abbrev S_made (dep : Nat) : DSp := SP (α := Addr × List DV × List Str × DV) (fun D x G ds => ds = [.ref x.1, x.2.2.2] ∧ WDeeds D G x.1 x.2.1 ∧ DeedsN x.2.2.1 x.2.1 ∧ x.2.1.length ≤ 100 ∧ Rec x.2.2.1 dep x.2.2.2 ∧ dep ≤ 2)
  (fun D x G v => WOk x.2.2.1.length (LB dep) v ∧ ∀ s, x.2.2.2 = .tup [sD "done", .str s] → v = doneD x.2.2.1 s)
theorem map_str {f : DV → DV} {g : Str → Int} {nms : List Str} (h : ∀ o, f (.str o) = .int (g o)) : (nms.map DV.str).map f = (nms.map g).map .int := by
  rw [List.map_map, List.map_map]
  exact List.map_congr_left fun o _ => h o
theorem ne_word {a b : String} {P : Prop} (h : a ≠ b) {s : Str} {r : List DV} {t : List DV} : (DV.tup (sD a :: r) = .tup (sD b :: t)) → P := fun e => by
  injection e with e
  injection e with e _
  injection e with e
  exact absurd (ofString_inj.mp e) h
theorem sv_made {C : Nat → DSp} (dep : Nat) (h10 : Has C 10 S_names) (h9 : ∀ m, m < dep → Has C 9 (S_made m)) : Serves tabs C f_law_made (S_made dep) := SP.serves fun D x ds G EX P ok ⟨e, h1, h2, h3, hr, hd⟩ k => by
  obtain ⟨w, deeds, nms, rc⟩ := x
  dsimp only at e h1 h2 h3 hr hd k
  subst e
  have hn : nms.length = deeds.length := h2.1
  have hn1 : nms.length ≤ 100 := by omega
  have lb4 := LB_pos dep
  show denSs tabs C EX _ _ [some _, some _, none, none, none, none, none, none, none, none, none, none, none, none, none, none, none, none] G
  rw [f_law_made]
  cases hr with
  | @own _ x hx =>
    ((first | rw [e_cons] | (dsimp only; rw [e_cons])); try simp only [dZ, dG, boR, coR, bfD, bmD, bmT, wipeD, sizeLine, Nat.reduceAdd, Nat.reducePow, Nat.reduceLeDiff, reduceIte, String.reduceBEq])
    refine SP.use h10 (w, deeds, nms) ok ⟨rfl, h1, h2, h3⟩ fun v G1 e1 ok1 ⟨p, hv, kp⟩ => ?_
    subst hv
    ((first | rw [e_cons] | (dsimp only; rw [e_cons])); try simp only [dZ, dG, boR, coR, bfD, bmD, bmT, wipeD, sizeLine, Nat.reduceAdd, Nat.reducePow, Nat.reduceLeDiff, reduceIte, String.reduceBEq])
    refine o_eqS ?_
    rw [sEqT]
    (try simp only [dZ, dG, boR, coR, bfD, bmD, bmT, wipeD, sizeLine, Nat.reduceAdd, Nat.reducePow, Nat.reduceLeDiff, reduceIte, String.reduceBEq])
    ((first | rw [e_cons] | (dsimp only; rw [e_cons])); try simp only [dZ, dG, boR, coR, bfD, bmD, bmT, wipeD, sizeLine, Nat.reduceAdd, Nat.reducePow, Nat.reduceLeDiff, reduceIte, String.reduceBEq])
    exact k _ _ e1 ok1 ⟨hx.up lb4, fun s h => ne_word (by decide) (s := s) h⟩
  | @done _ s hs =>
    ((first | rw [e_cons] | (dsimp only; rw [e_cons])); try simp only [dZ, dG, boR, coR, bfD, bmD, bmT, wipeD, sizeLine, Nat.reduceAdd, Nat.reducePow, Nat.reduceLeDiff, reduceIte, String.reduceBEq])
    refine SP.use h10 (w, deeds, nms) ok ⟨rfl, h1, h2, h3⟩ fun v G1 e1 ok1 ⟨p, hv, kp⟩ => ?_
    subst hv
    ((first | rw [e_cons] | (dsimp only; rw [e_cons])); try simp only [dZ, dG, boR, coR, bfD, bmD, bmT, wipeD, sizeLine, Nat.reduceAdd, Nat.reducePow, Nat.reduceLeDiff, reduceIte, String.reduceBEq])
    refine o_eqS ?_
    rw [sEqF (by decide)]
    (try simp only [dZ, dG, boR, coR, bfD, bmD, bmT, wipeD, sizeLine, Nat.reduceAdd, Nat.reducePow, Nat.reduceLeDiff, reduceIte, String.reduceBEq])
    (rw [e_nil]; dsimp only; rw [e_cons]; try simp only [dZ, dG, boR, coR, bfD, bmD, bmT, wipeD, sizeLine, Nat.reduceAdd, Nat.reducePow, Nat.reduceLeDiff, reduceIte, String.reduceBEq])
    refine o_eqS ?_
    rw [sEqT]
    (try simp only [dZ, dG, boR, coR, bfD, bmD, bmT, wipeD, sizeLine, Nat.reduceAdd, Nat.reducePow, Nat.reduceLeDiff, reduceIte, String.reduceBEq])
    ((first | rw [e_cons] | (dsimp only; rw [e_cons])); try simp only [dZ, dG, boR, coR, bfD, bmD, bmT, wipeD, sizeLine, Nat.reduceAdd, Nat.reducePow, Nat.reduceLeDiff, reduceIte, String.reduceBEq])
    refine ⟨_, it_kn kp G1 (Ext.refl _ _), ?_⟩
    refine LcK.map (D := D) (eqStr s) (fun _ => true) ok1 (sz100 (by simpa using hn1)) (it_kn kp) (fun x hx => ?_) fun q G3 e3 ok3 kq _ => ?_
    · obtain ⟨o, _, rfl⟩ := List.mem_map.mp hx
      (try simp only [dZ, dG, boR, coR, bfD, bmD, bmT, wipeD, sizeLine, Nat.reduceAdd, Nat.reducePow, Nat.reduceLeDiff, reduceIte, String.reduceBEq])
      refine fun G1 e1 ok1 K1 K2 k1 _ => o_eqS ?_
      (try simp only [dZ, dG, boR, coR, bfD, bmD, bmT, wipeD, sizeLine, Nat.reduceAdd, Nat.reducePow, Nat.reduceLeDiff, reduceIte, String.reduceBEq])
      have := k1 G1 (Ext.refl D G1) ok1 trivial
      unfold eqStr at this
      simpa using this
    rw [List.filter_eq_self.mpr (fun _ _ => rfl), map_str (f := eqStr s) (g := fun o => if o = s then 1 else 0) (fun o => rfl)] at kq
    rw [o_tupO (seq_kn kq), o_lenL (kp.mono e3).2]
    (try simp only [dZ, dG, boR, coR, bfD, bmD, bmT, wipeD, sizeLine, Nat.reduceAdd, Nat.reducePow, Nat.reduceLeDiff, reduceIte, String.reduceBEq])
    rw [List.length_map]
    refine ⟨by omega, by omega, ?_⟩
    have ev : ∀ v, v = doneD nms s → (WOk nms.length (LB dep) v ∧ ∀ s', DV.tup [sD "done", .str s] = .tup [sD "done", .str s'] → v = doneD nms s') := fun v hv => by
      subst hv
      refine ⟨(done_ok nms s).up (by omega), fun s' h => ?_⟩
      injection h with h
      injection h with _ h
      injection h with h _
      injection h with h
      rw [h]
    refine k _ _ (e1.trans e3) ok3 (ev _ ?_)
    unfold doneD watD rowD
    rw [Int.toNat_natCast, rep_one]
    simp only [List.map_cons, List.map_nil]
  | @inord _ ss hs =>
    ((first | rw [e_cons] | (dsimp only; rw [e_cons])); try simp only [dZ, dG, boR, coR, bfD, bmD, bmT, wipeD, sizeLine, Nat.reduceAdd, Nat.reducePow, Nat.reduceLeDiff, reduceIte, String.reduceBEq])
    refine SP.use h10 (w, deeds, nms) ok ⟨rfl, h1, h2, h3⟩ fun v G1 e1 ok1 ⟨p, hv, kp⟩ => ?_
    subst hv
    ((first | rw [e_cons] | (dsimp only; rw [e_cons])); try simp only [dZ, dG, boR, coR, bfD, bmD, bmT, wipeD, sizeLine, Nat.reduceAdd, Nat.reducePow, Nat.reduceLeDiff, reduceIte, String.reduceBEq])
    refine o_eqS ?_
    rw [sEqF (by decide)]
    (try simp only [dZ, dG, boR, coR, bfD, bmD, bmT, wipeD, sizeLine, Nat.reduceAdd, Nat.reducePow, Nat.reduceLeDiff, reduceIte, String.reduceBEq])
    (rw [e_nil]; dsimp only; rw [e_cons]; try simp only [dZ, dG, boR, coR, bfD, bmD, bmT, wipeD, sizeLine, Nat.reduceAdd, Nat.reducePow, Nat.reduceLeDiff, reduceIte, String.reduceBEq])
    refine o_eqS ?_
    rw [sEqF (by decide)]
    (try simp only [dZ, dG, boR, coR, bfD, bmD, bmT, wipeD, sizeLine, Nat.reduceAdd, Nat.reducePow, Nat.reduceLeDiff, reduceIte, String.reduceBEq])
    (rw [e_nil]; dsimp only; rw [e_cons]; try simp only [dZ, dG, boR, coR, bfD, bmD, bmT, wipeD, sizeLine, Nat.reduceAdd, Nat.reducePow, Nat.reduceLeDiff, reduceIte, String.reduceBEq])
    refine o_eqS ?_
    rw [sEqT]
    (try simp only [dZ, dG, boR, coR, bfD, bmD, bmT, wipeD, sizeLine, Nat.reduceAdd, Nat.reducePow, Nat.reduceLeDiff, reduceIte, String.reduceBEq])
    ((first | rw [e_cons] | (dsimp only; rw [e_cons])); try simp only [dZ, dG, boR, coR, bfD, bmD, bmT, wipeD, sizeLine, Nat.reduceAdd, Nat.reducePow, Nat.reduceLeDiff, reduceIte, String.reduceBEq])
    refine NewO.run ok1 fun q G2 e2 ok2 kq fq => ?_
    have e12 := e1.trans e2
    have fq0 := e1.fresh ok1 fq
    (try simp only [dZ, dG, boR, coR, bfD, bmD, bmT, wipeD, sizeLine, Nat.reduceAdd, Nat.reducePow, Nat.reduceLeDiff, reduceIte, String.reduceBEq])
    ((first | rw [e_cons] | (dsimp only; rw [e_cons])); try simp only [dZ, dG, boR, coR, bfD, bmD, bmT, wipeD, sizeLine, Nat.reduceAdd, Nat.reducePow, Nat.reduceLeDiff, reduceIte, String.reduceBEq])
    refine ForK.run (fun j τ' G' => ∃ kk gl, ∃ acc : List (List Int), τ' = [some (.ref w), some (.tup [sD "in order", .tup (ss.map .str)]), none, none, some (.ref p), some (sD "in order"), some (.ref q), kk, none, some (.int ((ss.map DV.str).length : Nat)), none, none, gl, none, none, none, none, none] ∧ Ext D G1 G' ∧ okD D G' ∧ Kn D G' q (.lst (acc.map rowD)) ∧ acc.length = j ∧ j ≤ ss.length ∧ ∀ r ∈ acc, r.length = nms.length ∧ ∀ i ∈ r, 0 ≤ i ∧ i < ((ss.length : Nat) : Int) + 1) ⟨_, _, [], rfl, e2, ok2, kq, rfl, by omega, by simp⟩ (fun _ _ _ _ => by trivial) (fun j τ' G' x hx ⟨kk, gl, acc, eτ, e', ok', kn', ha, hj, hr⟩ => ?_) fun τ' G' ⟨kk, gl, acc, eτ, e', ok', kn', ha, hj, hr⟩ => ?_
    · obtain ⟨y, rfl, _, hy⟩ := enum_at hx
      obtain ⟨g, rfl, _, hg⟩ := at_map hy
      have hj2 : j < ss.length := (List.getElem?_eq_some_iff.mp hg).1
      subst eτ
      (try simp only [dZ, dG, boR, coR, bfD, bmD, bmT, wipeD, sizeLine, Nat.reduceAdd, Nat.reducePow, Nat.reduceLeDiff, reduceIte, String.reduceBEq])
      ((first | rw [e_cons] | (dsimp only; rw [e_cons])); try simp only [dZ, dG, boR, coR, bfD, bmD, bmT, wipeD, sizeLine, Nat.reduceAdd, Nat.reducePow, Nat.reduceLeDiff, reduceIte, String.reduceBEq])
      refine ⟨ty_lst kn', _, it_kn kp G' e', ?_⟩
      refine LcK.map (D := D) (eqAdd j g) (fun _ => true) ok' (sz100 (by simpa using hn1)) (fun G5 e5 => it_kn kp G5 (e'.trans e5)) (fun x hx => ?_) fun z G3 e3 ok3 kz _ => ?_
      · obtain ⟨o, _, rfl⟩ := List.mem_map.mp hx
        (try simp only [dZ, dG, boR, coR, bfD, bmD, bmT, wipeD, sizeLine, Nat.reduceAdd, Nat.reducePow, Nat.reduceLeDiff, reduceIte, String.reduceBEq])
        refine fun G1 e1 ok1 K1 K2 k1 _ => o_eqS ?_
        (try simp only [dZ, dG, boR, coR, bfD, bmD, bmT, wipeD, sizeLine, Nat.reduceAdd, Nat.reducePow, Nat.reduceLeDiff, reduceIte, String.reduceBEq])
        have := k1 G1 (Ext.refl D G1) ok1 trivial
        unfold eqAdd at this
        simpa using this
      rw [List.filter_eq_self.mpr (fun _ _ => rfl), map_str (f := eqAdd j g) (g := fun o => (j : Int) + if o = g then 1 else 0) (fun o => rfl)] at kz
      rw [o_tupO (seq_kn kz)]
      refine app_step ok1 fq (e'.trans e3) (kn'.mono e3) (by rw [List.length_map, ha]; have : sizeLine = 16777216 := rfl; omega) fun G4 e4 ok4 kn4 _ => ?_
      (first | (rw [e_nil]; try dsimp only) | (dsimp only; rw [e_nil]; try dsimp only))
      refine ⟨_, _, acc ++ [nms.map fun o => (j : Int) + if o = g then 1 else 0], rfl, e4, ok4, by rw [List.map_append]; exact kn4, by rw [List.length_append, ha]; rfl, hj2, fun r hr' => ?_⟩
      rcases List.mem_append.mp hr' with h | h
      · exact hr r h
      · rw [List.mem_singleton.mp h]
        refine ⟨by rw [List.length_map], fun i hi => ?_⟩
        obtain ⟨o, _, rfl⟩ := List.mem_map.mp hi
        split <;> omega
    · subst eτ
      rw [enumD_len, List.length_map] at ha
      ((first | rw [e_cons] | (dsimp only; rw [e_cons])); try simp only [dZ, dG, boR, coR, bfD, bmD, bmT, wipeD, sizeLine, Nat.reduceAdd, Nat.reducePow, Nat.reduceLeDiff, reduceIte, String.reduceBEq])
      rw [o_tupO (seq_kn kn'), o_lenL (kp.mono e').2]
      (try simp only [dZ, dG, boR, coR, bfD, bmD, bmT, wipeD, sizeLine, Nat.reduceAdd, Nat.reducePow, Nat.reduceLeDiff, reduceIte, String.reduceBEq])
      rw [List.length_map, List.length_map, List.length_map]
      refine ⟨by omega, by omega, by omega, ?_⟩
      rw [Int.toNat_natCast, rep_c]
      refine k _ _ (e1.trans e') ok' ⟨⟨acc ++ [List.replicate nms.length (ss.length : Int)], [(ss.length : Int)], by simp only [watD, List.map_append]; rfl, ⟨by simp, by simp; omega, fun r hr' => ?_, by simp⟩⟩, fun s h => ne_word (by decide) (s := s) h⟩
      rw [List.length_append, List.length_singleton, ha]
      rcases List.mem_append.mp hr' with h | h
      · have := hr r h; exact ⟨this.1, fun i hi => by have := this.2 i hi; omega⟩
      · rw [List.mem_singleton.mp h]
        exact ⟨by simp, fun i hi => by rw [(List.mem_replicate.mp hi).2]; omega⟩
  | @counted _ s m r m1 m4 =>
    ((first | rw [e_cons] | (dsimp only; rw [e_cons])); try simp only [dZ, dG, boR, coR, bfD, bmD, bmT, wipeD, sizeLine, Nat.reduceAdd, Nat.reducePow, Nat.reduceLeDiff, reduceIte, String.reduceBEq])
    refine SP.use h10 (w, deeds, nms) ok ⟨rfl, h1, h2, h3⟩ fun v G1 e1 ok1 ⟨p, hv, kp⟩ => ?_
    subst hv
    ((first | rw [e_cons] | (dsimp only; rw [e_cons])); try simp only [dZ, dG, boR, coR, bfD, bmD, bmT, wipeD, sizeLine, Nat.reduceAdd, Nat.reducePow, Nat.reduceLeDiff, reduceIte, String.reduceBEq])
    refine o_eqS ?_
    rw [sEqF (by decide)]
    (try simp only [dZ, dG, boR, coR, bfD, bmD, bmT, wipeD, sizeLine, Nat.reduceAdd, Nat.reducePow, Nat.reduceLeDiff, reduceIte, String.reduceBEq])
    (rw [e_nil]; dsimp only; rw [e_cons]; try simp only [dZ, dG, boR, coR, bfD, bmD, bmT, wipeD, sizeLine, Nat.reduceAdd, Nat.reducePow, Nat.reduceLeDiff, reduceIte, String.reduceBEq])
    refine o_eqS ?_
    rw [sEqF (by decide)]
    (try simp only [dZ, dG, boR, coR, bfD, bmD, bmT, wipeD, sizeLine, Nat.reduceAdd, Nat.reducePow, Nat.reduceLeDiff, reduceIte, String.reduceBEq])
    (rw [e_nil]; dsimp only; rw [e_cons]; try simp only [dZ, dG, boR, coR, bfD, bmD, bmT, wipeD, sizeLine, Nat.reduceAdd, Nat.reducePow, Nat.reduceLeDiff, reduceIte, String.reduceBEq])
    refine o_eqS ?_
    rw [sEqF (by decide)]
    (try simp only [dZ, dG, boR, coR, bfD, bmD, bmT, wipeD, sizeLine, Nat.reduceAdd, Nat.reducePow, Nat.reduceLeDiff, reduceIte, String.reduceBEq])
    (rw [e_nil]; dsimp only; rw [e_cons]; try simp only [dZ, dG, boR, coR, bfD, bmD, bmT, wipeD, sizeLine, Nat.reduceAdd, Nat.reducePow, Nat.reduceLeDiff, reduceIte, String.reduceBEq])
    refine o_eqS ?_
    rw [sEqT]
    (try simp only [dZ, dG, boR, coR, bfD, bmD, bmT, wipeD, sizeLine, Nat.reduceAdd, Nat.reducePow, Nat.reduceLeDiff, reduceIte, String.reduceBEq])
    ((first | rw [e_cons] | (dsimp only; rw [e_cons])); try simp only [dZ, dG, boR, coR, bfD, bmD, bmT, wipeD, sizeLine, Nat.reduceAdd, Nat.reducePow, Nat.reduceLeDiff, reduceIte, String.reduceBEq])
    refine NewO.run ok1 fun q G2 e2 ok2 kq fq => ?_
    ((first | rw [e_cons] | (dsimp only; rw [e_cons])); try simp only [dZ, dG, boR, coR, bfD, bmD, bmT, wipeD, sizeLine, Nat.reduceAdd, Nat.reducePow, Nat.reduceLeDiff, reduceIte, String.reduceBEq])
    refine ⟨by omega, by omega, ?_⟩
    obtain ⟨n, rfl⟩ : ∃ n : Nat, m = n := ⟨m.toNat, by omega⟩
    refine ForK.run (fun j τ' G' => ∃ kk, ∃ acc : List (List Int), τ' = [some (.ref w), some (.tup [sD "counted", .str s, .int (n : Nat), .int r]), none, none, some (.ref p), some (sD "counted"), some (.ref q), kk, none, none, none, none, none, none, none, none, none, none] ∧ Ext D G1 G' ∧ okD D G' ∧ Kn D G' q (.lst (acc.map rowD)) ∧ acc.length = j ∧ j ≤ n ∧ ∀ r ∈ acc, r.length = nms.length ∧ ∀ i ∈ r, 0 ≤ i ∧ i < ((n : Nat) : Int)) ⟨_, [], rfl, e2, ok2, kq, rfl, by omega, by simp⟩ (fun _ _ _ _ => by trivial) (fun j τ' G' x hx ⟨kk, acc, eτ, e', ok', kn', ha, hj, hr⟩ => ?_) fun τ' G' ⟨kk, acc, eτ, e', ok', kn', ha, hj, hr⟩ => ?_
    · obtain ⟨rfl, hj2⟩ := rng_at hx
      rw [Int.toNat_natCast] at hj2
      subst eτ
      (try simp only [dZ, dG, boR, coR, bfD, bmD, bmT, wipeD, sizeLine, Nat.reduceAdd, Nat.reducePow, Nat.reduceLeDiff, reduceIte, String.reduceBEq])
      ((first | rw [e_cons] | (dsimp only; rw [e_cons])); try simp only [dZ, dG, boR, coR, bfD, bmD, bmT, wipeD, sizeLine, Nat.reduceAdd, Nat.reducePow, Nat.reduceLeDiff, reduceIte, String.reduceBEq])
      refine ⟨ty_lst kn', _, it_kn kp G' e', ?_⟩
      refine LcK.map (D := D) (eqMod (0 + j) n s) (fun _ => true) ok' (sz100 (by simpa using hn1)) (fun G5 e5 => it_kn kp G5 (e'.trans e5)) (fun x hx => ?_) fun z G3 e3 ok3 kz _ => ?_
      · obtain ⟨o, _, rfl⟩ := List.mem_map.mp hx
        (try simp only [dZ, dG, boR, coR, bfD, bmD, bmT, wipeD, sizeLine, Nat.reduceAdd, Nat.reducePow, Nat.reduceLeDiff, reduceIte, String.reduceBEq])
        refine fun G1 e1 ok1 K1 K2 k1 _ => o_eqS ?_
        (try simp only [dZ, dG, boR, coR, bfD, bmD, bmT, wipeD, sizeLine, Nat.reduceAdd, Nat.reducePow, Nat.reduceLeDiff, reduceIte, String.reduceBEq])
        have := k1 G1 (Ext.refl D G1) ok1 trivial
        unfold eqMod at this
        refine ⟨by omega, ?_⟩
        simpa using this
      rw [List.filter_eq_self.mpr (fun _ _ => rfl), map_str (f := eqMod (0 + j) n s) (g := fun o => ((0 + j : Int) + if o = s then 1 else 0) % n) (fun o => rfl)] at kz
      rw [o_tupO (seq_kn kz)]
      refine app_step ok1 fq (e'.trans e3) (kn'.mono e3) (by rw [List.length_map, ha]; have : sizeLine = 16777216 := rfl; omega) fun G4 e4 ok4 kn4 _ => ?_
      (first | (rw [e_nil]; try dsimp only) | (dsimp only; rw [e_nil]; try dsimp only))
      refine ⟨_, acc ++ [nms.map fun o => ((0 + j : Int) + if o = s then 1 else 0) % n], rfl, e4, ok4, by rw [List.map_append]; exact kn4, by rw [List.length_append, ha]; rfl, hj2, fun r hr' => ?_⟩
      rcases List.mem_append.mp hr' with h | h
      · exact hr r h
      · rw [List.mem_singleton.mp h]
        refine ⟨by rw [List.length_map], fun i hi => ?_⟩
        obtain ⟨o, _, rfl⟩ := List.mem_map.mp hi
        exact ⟨Int.emod_nonneg _ (by omega), Int.emod_lt_of_pos _ (by omega)⟩
    · subst eτ
      rw [rngD_len, Int.toNat_natCast] at ha
      ((first | rw [e_cons] | (dsimp only; rw [e_cons])); try simp only [dZ, dG, boR, coR, bfD, bmD, bmT, wipeD, sizeLine, Nat.reduceAdd, Nat.reducePow, Nat.reduceLeDiff, reduceIte, String.reduceBEq])
      rw [o_tupO (seq_kn kn')]
      (try simp only [dZ, dG, boR, coR, bfD, bmD, bmT, wipeD, sizeLine, Nat.reduceAdd, Nat.reducePow, Nat.reduceLeDiff, reduceIte, String.reduceBEq])
      exact k _ _ (e1.trans e') ok' ⟨⟨acc, [r], rfl, ⟨by omega, by omega, fun r hr' => by rw [ha]; exact hr r hr', by simp; omega⟩⟩, fun s h => ne_word (by decide) (s := s) h⟩
  | @opp dep x hx =>
    ((first | rw [e_cons] | (dsimp only; rw [e_cons])); try simp only [dZ, dG, boR, coR, bfD, bmD, bmT, wipeD, sizeLine, Nat.reduceAdd, Nat.reducePow, Nat.reduceLeDiff, reduceIte, String.reduceBEq])
    refine SP.use h10 (w, deeds, nms) ok ⟨rfl, h1, h2, h3⟩ fun v G1 e1 ok1 ⟨p, hv, kp⟩ => ?_
    subst hv
    ((first | rw [e_cons] | (dsimp only; rw [e_cons])); try simp only [dZ, dG, boR, coR, bfD, bmD, bmT, wipeD, sizeLine, Nat.reduceAdd, Nat.reducePow, Nat.reduceLeDiff, reduceIte, String.reduceBEq])
    refine o_eqS ?_
    rw [sEqF (by decide)]
    (try simp only [dZ, dG, boR, coR, bfD, bmD, bmT, wipeD, sizeLine, Nat.reduceAdd, Nat.reducePow, Nat.reduceLeDiff, reduceIte, String.reduceBEq])
    (rw [e_nil]; dsimp only; rw [e_cons]; try simp only [dZ, dG, boR, coR, bfD, bmD, bmT, wipeD, sizeLine, Nat.reduceAdd, Nat.reducePow, Nat.reduceLeDiff, reduceIte, String.reduceBEq])
    refine o_eqS ?_
    rw [sEqF (by decide)]
    (try simp only [dZ, dG, boR, coR, bfD, bmD, bmT, wipeD, sizeLine, Nat.reduceAdd, Nat.reducePow, Nat.reduceLeDiff, reduceIte, String.reduceBEq])
    (rw [e_nil]; dsimp only; rw [e_cons]; try simp only [dZ, dG, boR, coR, bfD, bmD, bmT, wipeD, sizeLine, Nat.reduceAdd, Nat.reducePow, Nat.reduceLeDiff, reduceIte, String.reduceBEq])
    refine o_eqS ?_
    rw [sEqF (by decide)]
    (try simp only [dZ, dG, boR, coR, bfD, bmD, bmT, wipeD, sizeLine, Nat.reduceAdd, Nat.reducePow, Nat.reduceLeDiff, reduceIte, String.reduceBEq])
    (rw [e_nil]; dsimp only; rw [e_cons]; try simp only [dZ, dG, boR, coR, bfD, bmD, bmT, wipeD, sizeLine, Nat.reduceAdd, Nat.reducePow, Nat.reduceLeDiff, reduceIte, String.reduceBEq])
    refine o_eqS ?_
    rw [sEqF (by decide)]
    (try simp only [dZ, dG, boR, coR, bfD, bmD, bmT, wipeD, sizeLine, Nat.reduceAdd, Nat.reducePow, Nat.reduceLeDiff, reduceIte, String.reduceBEq])
    (rw [e_nil]; dsimp only; rw [e_cons]; try simp only [dZ, dG, boR, coR, bfD, bmD, bmT, wipeD, sizeLine, Nat.reduceAdd, Nat.reducePow, Nat.reduceLeDiff, reduceIte, String.reduceBEq])
    refine SP.use (h9 dep (by omega)) (w, deeds, nms, x) ok1 ⟨rfl, h1.mono e1, h2, h3, hx, by omega⟩ fun v G2 e2 ok2 hv => ?_
    obtain ⟨⟨rows, good, rfl, w1⟩, _⟩ := hv
    have b1 := w1.le
    have b2 := LB_le (d := dep) (by omega)
    ((first | rw [e_cons] | (dsimp only; rw [e_cons])); try simp only [dZ, dG, boR, coR, bfD, bmD, bmT, wipeD, sizeLine, Nat.reduceAdd, Nat.reducePow, Nat.reduceLeDiff, reduceIte, String.reduceBEq])
    refine o_eqS ?_
    rw [sEqT]
    (try simp only [dZ, dG, boR, coR, bfD, bmD, bmT, wipeD, sizeLine, Nat.reduceAdd, Nat.reducePow, Nat.reduceLeDiff, reduceIte, String.reduceBEq])
    ((first | rw [e_cons] | (dsimp only; rw [e_cons])); try simp only [dZ, dG, boR, coR, bfD, bmD, bmT, wipeD, sizeLine, Nat.reduceAdd, Nat.reducePow, Nat.reduceLeDiff, reduceIte, String.reduceBEq])
    simp only [List.length_map]
    refine ⟨by omega, by omega, ?_⟩
    refine LcK.run (D := D) (fun j l => ∃ is : List Int, l = is.map .int) ok2 (by rw [rngD_len]; have : sizeLine = 16777216 := rfl; omega) (fun _ _ => by trivial) ⟨[], rfl⟩ (fun j l G3 x e3 ok3 hx ⟨is, el⟩ => ?_) fun q G3 l e3 ok3 kq hl _ ⟨is, el⟩ => ?_
    · obtain ⟨rfl, hj⟩ := rng_at hx
      (try simp only [dZ, dG, boR, coR, bfD, bmD, bmT, wipeD, sizeLine, Nat.reduceAdd, Nat.reducePow, Nat.reduceLeDiff, reduceIte, String.reduceBEq])
      simp only [o_inT]
      refine fun K1 K2 k1 k2 => ⟨rfl, flats_ints _, _, rfl, ?_⟩
      split
      · exact k1 _ G3 (Ext.refl D G3) ok3 ⟨is ++ [_], by rw [List.map_append, ← el]; rfl⟩
      · exact k2 G3 (Ext.refl D G3) ok3 ⟨is, el⟩
    subst el
    rw [o_tupO (seq_kn kq)]
    rw [rngD_len, List.length_map] at hl
    (try simp only [dZ, dG, boR, coR, bfD, bmD, bmT, wipeD, sizeLine, Nat.reduceAdd, Nat.reducePow, Nat.reduceLeDiff, reduceIte, String.reduceBEq])
    exact k _ _ (e1.trans (e2.trans e3)) ok3 ⟨⟨rows, is, rfl, ⟨w1.ne, Nat.le_trans w1.le (Nat.le_mul_of_pos_left _ (by have := LB_pos dep; omega)), w1.r, by simpa using hl⟩⟩, fun s h => ne_word (by decide) (s := s) h⟩
  | @bth dep o rx ry ho hx hy =>
    have o1 : o ≠ "own" := by rcases ho with rfl | rfl <;> decide
    have o2 : o ≠ "done" := by rcases ho with rfl | rfl <;> decide
    have o3 : o ≠ "in order" := by rcases ho with rfl | rfl <;> decide
    have o4 : o ≠ "counted" := by rcases ho with rfl | rfl <;> decide
    have o5 : o ≠ "opposite" := by rcases ho with rfl | rfl <;> decide
    ((first | rw [e_cons] | (dsimp only; rw [e_cons])); try simp only [dZ, dG, boR, coR, bfD, bmD, bmT, wipeD, sizeLine, Nat.reduceAdd, Nat.reducePow, Nat.reduceLeDiff, reduceIte, String.reduceBEq])
    refine SP.use h10 (w, deeds, nms) ok ⟨rfl, h1, h2, h3⟩ fun v G1 e1 ok1 ⟨p, hv, kp⟩ => ?_
    subst hv
    ((first | rw [e_cons] | (dsimp only; rw [e_cons])); try simp only [dZ, dG, boR, coR, bfD, bmD, bmT, wipeD, sizeLine, Nat.reduceAdd, Nat.reducePow, Nat.reduceLeDiff, reduceIte, String.reduceBEq])
    refine o_eqS ?_
    rw [sEqF o1]
    (try simp only [dZ, dG, boR, coR, bfD, bmD, bmT, wipeD, sizeLine, Nat.reduceAdd, Nat.reducePow, Nat.reduceLeDiff, reduceIte, String.reduceBEq])
    (rw [e_nil]; dsimp only; rw [e_cons]; try simp only [dZ, dG, boR, coR, bfD, bmD, bmT, wipeD, sizeLine, Nat.reduceAdd, Nat.reducePow, Nat.reduceLeDiff, reduceIte, String.reduceBEq])
    refine o_eqS ?_
    rw [sEqF o2]
    (try simp only [dZ, dG, boR, coR, bfD, bmD, bmT, wipeD, sizeLine, Nat.reduceAdd, Nat.reducePow, Nat.reduceLeDiff, reduceIte, String.reduceBEq])
    (rw [e_nil]; dsimp only; rw [e_cons]; try simp only [dZ, dG, boR, coR, bfD, bmD, bmT, wipeD, sizeLine, Nat.reduceAdd, Nat.reducePow, Nat.reduceLeDiff, reduceIte, String.reduceBEq])
    refine o_eqS ?_
    rw [sEqF o3]
    (try simp only [dZ, dG, boR, coR, bfD, bmD, bmT, wipeD, sizeLine, Nat.reduceAdd, Nat.reducePow, Nat.reduceLeDiff, reduceIte, String.reduceBEq])
    (rw [e_nil]; dsimp only; rw [e_cons]; try simp only [dZ, dG, boR, coR, bfD, bmD, bmT, wipeD, sizeLine, Nat.reduceAdd, Nat.reducePow, Nat.reduceLeDiff, reduceIte, String.reduceBEq])
    refine o_eqS ?_
    rw [sEqF o4]
    (try simp only [dZ, dG, boR, coR, bfD, bmD, bmT, wipeD, sizeLine, Nat.reduceAdd, Nat.reducePow, Nat.reduceLeDiff, reduceIte, String.reduceBEq])
    (rw [e_nil]; dsimp only; rw [e_cons]; try simp only [dZ, dG, boR, coR, bfD, bmD, bmT, wipeD, sizeLine, Nat.reduceAdd, Nat.reducePow, Nat.reduceLeDiff, reduceIte, String.reduceBEq])
    refine SP.use (h9 dep (by omega)) (w, deeds, nms, rx) ok1 ⟨rfl, h1.mono e1, h2, h3, hx, by omega⟩ fun v G2 e2 ok2 hv => ?_
    obtain ⟨⟨rows, good, rfl, w1⟩, _⟩ := hv
    ((first | rw [e_cons] | (dsimp only; rw [e_cons])); try simp only [dZ, dG, boR, coR, bfD, bmD, bmT, wipeD, sizeLine, Nat.reduceAdd, Nat.reducePow, Nat.reduceLeDiff, reduceIte, String.reduceBEq])
    refine o_eqS ?_
    rw [sEqF o5]
    (try simp only [dZ, dG, boR, coR, bfD, bmD, bmT, wipeD, sizeLine, Nat.reduceAdd, Nat.reducePow, Nat.reduceLeDiff, reduceIte, String.reduceBEq])
    (rw [e_nil]; dsimp only; rw [e_cons]; try simp only [dZ, dG, boR, coR, bfD, bmD, bmT, wipeD, sizeLine, Nat.reduceAdd, Nat.reducePow, Nat.reduceLeDiff, reduceIte, String.reduceBEq])
    refine SP.use (h9 dep (by omega)) (w, deeds, nms, ry) ok2 ⟨rfl, h1.mono (e1.trans e2), h2, h3, hy, by omega⟩ fun v G3 e3 ok3 hv => ?_
    obtain ⟨⟨rows2, good2, rfl, w2⟩, _⟩ := hv
    have b1 := w1.le
    have b2 := w2.le
    have b3 := LB_le (d := dep) (by omega)
    have bb : rows2.length * rows.length ≤ 1000 * 1000 := mul_le' (by omega) (by omega)
    ((first | rw [e_cons] | (dsimp only; rw [e_cons])); try simp only [dZ, dG, boR, coR, bfD, bmD, bmT, wipeD, sizeLine, Nat.reduceAdd, Nat.reducePow, Nat.reduceLeDiff, reduceIte, String.reduceBEq])
    refine NewO.run ok3 fun p1 G4 e4 ok4 kn1 fp1 => ?_
    refine NewO.run ok4 fun q1 G5 e5 ok5 kn2 fq1 => ?_
    simp only [List.length_map]
    have pq : p1 ≠ q1 := kn1.ne fq1
    have fq1' : G3 q1 = none := e4.fresh ok4 fq1
    have kn1 := kn1.mono e5
    have e35 := e4.trans e5
    (try simp only [dZ, dG, boR, coR, bfD, bmD, bmT, wipeD, sizeLine, Nat.reduceAdd, Nat.reducePow, Nat.reduceLeDiff, reduceIte, String.reduceBEq])
    ((first | rw [e_cons] | (dsimp only; rw [e_cons])); try simp only [dZ, dG, boR, coR, bfD, bmD, bmT, wipeD, sizeLine, Nat.reduceAdd, Nat.reducePow, Nat.reduceLeDiff, reduceIte, String.reduceBEq])
    refine ForK.run (fun i τ' G' => ∃ kk l far near ig, ∃ acc : List (List Int), ∃ gs : List Int, τ' = [some (.ref w), some (.tup [sD o, rx, ry]), some (watD rows good), some (watD rows2 good2), some (.ref p), some (sD o), some (.ref p1), kk, some (.ref q1), some (.int (rows.length : Nat)), l, far, none, near, ig, none, none, none] ∧ Ext D G3 G' ∧ okD D G' ∧ Kn D G' p1 (.lst (acc.map rowD)) ∧ Kn D G' q1 (.lst (gs.map .int)) ∧ acc.length = i * rows.length ∧ gs.length ≤ i * rows.length ∧ i ≤ rows2.length ∧ ∀ r ∈ acc, r.length = nms.length ∧ ∀ i ∈ r, 0 ≤ i ∧ i < ((rows2.length * rows.length : Nat) : Int)) ⟨_, _, _, _, _, [], [], rfl, e35, ok5, kn1, kn2, by simp, by simp, Nat.zero_le _, by simp⟩ (fun _ _ _ _ => by trivial) (fun i τ' G' x hx ⟨kk, l, far, near, ig, acc, gs, eτ, e', ok', kn1, kn2, ha, hg, hi, hr⟩ => ?_) fun τ' G' ⟨kk, l, far, near, ig, acc, gs, eτ, e', ok', kn1, kn2, ha, hg, hi, hr⟩ => ?_
    · obtain ⟨y, rfl, _, hy⟩ := enum_at hx
      obtain ⟨far, rfl, hf, hfi⟩ := at_map hy
      have hi2 : i < rows2.length := (List.getElem?_eq_some_iff.mp hfi).1
      subst eτ
      (try simp only [dZ, dG, boR, coR, bfD, bmD, bmT, wipeD, sizeLine, Nat.reduceAdd, Nat.reducePow, Nat.reduceLeDiff, reduceIte, String.reduceBEq])
      ((first | rw [e_cons] | (dsimp only; rw [e_cons])); try simp only [dZ, dG, boR, coR, bfD, bmD, bmT, wipeD, sizeLine, Nat.reduceAdd, Nat.reducePow, Nat.reduceLeDiff, reduceIte, String.reduceBEq])
      refine ForK.run (fun j τ' G' => ∃ kk near ig, ∃ acc : List (List Int), ∃ gs : List Int, τ' = [some (.ref w), some (.tup [sD o, rx, ry]), some (watD rows good), some (watD rows2 good2), some (.ref p), some (sD o), some (.ref p1), kk, some (.ref q1), some (.int (rows.length : Nat)), some (.int (i : Nat)), some (rowD far), none, near, ig, none, none, none] ∧ Ext D G3 G' ∧ okD D G' ∧ Kn D G' p1 (.lst (acc.map rowD)) ∧ Kn D G' q1 (.lst (gs.map .int)) ∧ acc.length = i * rows.length + j ∧ gs.length ≤ i * rows.length + j ∧ j ≤ rows.length ∧ ∀ r ∈ acc, r.length = nms.length ∧ ∀ i ∈ r, 0 ≤ i ∧ i < ((rows2.length * rows.length : Nat) : Int)) ⟨_, _, _, acc, gs, rfl, e', ok', kn1, kn2, by simp [ha], by simp [hg], Nat.zero_le _, hr⟩ (fun _ _ _ _ => by trivial) (fun j τ' G' x hx ⟨kk, near, ig, acc, gs, eτ, e', ok', kn1, kn2, ha, hg, hj, hr⟩ => ?_) fun τ' G' ⟨kk, near, ig, acc, gs, eτ, e', ok', kn1, kn2, ha, hg, hj, hr⟩ => ?_
      · obtain ⟨y', rfl, _, hy'⟩ := enum_at hx
        obtain ⟨near, rfl, hn', hni⟩ := at_map hy'
        have hj2 : j < rows.length := (List.getElem?_eq_some_iff.mp hni).1
        subst eτ
        have wr := pairRow_ok (w1.r near hn') (w2.r far hf)
        have hle : i * rows.length + j < 1000 * 1000 := by
          have : (i + 1) * rows.length ≤ rows2.length * rows.length := Nat.mul_le_mul_right _ hi2
          rw [Nat.succ_mul] at this
          omega
        (try simp only [dZ, dG, boR, coR, bfD, bmD, bmT, wipeD, sizeLine, Nat.reduceAdd, Nat.reducePow, Nat.reduceLeDiff, reduceIte, String.reduceBEq])
        ((first | rw [e_cons] | (dsimp only; rw [e_cons])); try simp only [dZ, dG, boR, coR, bfD, bmD, bmT, wipeD, sizeLine, Nat.reduceAdd, Nat.reducePow, Nat.reduceLeDiff, reduceIte, String.reduceBEq])
        refine ⟨ty_lst kn1, ?_⟩
        unfold dZip
        (try simp only [dZ, dG, boR, coR, bfD, bmD, bmT, wipeD, sizeLine, Nat.reduceAdd, Nat.reducePow, Nat.reduceLeDiff, reduceIte, String.reduceBEq])
        refine ⟨_, _, ⟨rfl, rfl⟩, .inl ⟨_, _, rfl, rfl, ?_⟩⟩
        refine LcK.map (D := D) (addM rows.length) (fun _ => true) ok' (sz100 (Nat.le_trans (zipD_le _ _) (by rw [List.length_map, (w1.r near hn').1]; exact hn1))) (fun _ _ => by trivial) (fun x hx => ?_) fun z G6 e6 ok6 kz _ => ?_
        · obtain ⟨a, b, rfl⟩ := mem_zip_map hx
          (try simp only [dZ, dG, boR, coR, bfD, bmD, bmT, wipeD, sizeLine, Nat.reduceAdd, Nat.reducePow, Nat.reduceLeDiff, reduceIte, String.reduceBEq])
          exact fun G1 e1 ok1 K1 K2 k1 _ => ⟨cmulL (by omega) (by omega), k1 G1 (Ext.refl D G1) ok1 trivial⟩
        rw [List.filter_eq_self.mpr (fun _ _ => rfl), pairRow_D] at kz
        rw [o_tupO (seq_kn kz)]
        refine app_step ok3 fp1 (e'.trans e6) (kn1.mono e6) (by rw [List.length_map, ha]; have : sizeLine = 16777216 := rfl; omega) fun G7 e7 ok7 kn1 kk7 => ?_
        have kn2 := kk7 _ _ (Ne.symm pq) (kn2.mono e6)
        ((first | rw [e_cons] | (dsimp only; rw [e_cons])); try simp only [dZ, dG, boR, coR, bfD, bmD, bmT, wipeD, sizeLine, Nat.reduceAdd, Nat.reducePow, Nat.reduceLeDiff, reduceIte, String.reduceBEq])
        refine ⟨rfl, flats_ints _, rfl, flats_ints _, ?_⟩
        (try simp only [dZ, dG, boR, coR, bfD, bmD, bmT, wipeD, sizeLine, Nat.reduceAdd, Nat.reducePow, Nat.reduceLeDiff, reduceIte, String.reduceBEq])
        refine NewO.run ok7 fun u G8 e8 ok8 ku fu => ?_
        have kn1 := kn1.mono e8
        have kn2 := kn2.mono e8
        have hfl : ∀ (a b : Bool), flats [.bl a, .bl b] = true := fun a b => rfl
        have fin : ∀ G9 (gs' : List Int), Ext D G3 G9 → okD D G9 → Kn D G9 p1 (.lst (acc.map rowD ++ [rowD (pairRow rows.length near far)])) → Kn D G9 q1 (.lst (gs'.map .int)) → gs'.length ≤ gs.length + 1 → ∃ kk near_1 ig, ∃ acc_1 : List (List Int), ∃ gs_1 : List Int, ([some (.ref w), some (.tup [sD o, rx, ry]), some (watD rows good), some (watD rows2 good2), some (.ref p), some (sD o), some (.ref p1), some (.int (j : Nat)), some (.ref q1), some (.int (rows.length : Nat)), some (.int (i : Nat)), some (rowD far), none, some (rowD near), some (.ref u), none, none, none] : DSt) = [some (.ref w), some (.tup [sD o, rx, ry]), some (watD rows good), some (watD rows2 good2), some (.ref p), some (sD o), some (.ref p1), kk, some (.ref q1), some (.int (rows.length : Nat)), some (.int (i : Nat)), some (rowD far), none, near_1, ig, none, none, none] ∧ Ext D G3 G9 ∧ okD D G9 ∧ Kn D G9 p1 (.lst (acc_1.map rowD)) ∧ Kn D G9 q1 (.lst (gs_1.map .int)) ∧ acc_1.length = i * rows.length + (j + 1) ∧ gs_1.length ≤ i * rows.length + (j + 1) ∧ j + 1 ≤ rows.length ∧ ∀ r ∈ acc_1, r.length = nms.length ∧ ∀ i ∈ r, 0 ≤ i ∧ i < ((rows2.length * rows.length : Nat) : Int) := fun G9 gs' e9 ok9 k1 k2 hl => by
          refine ⟨_, _, _, acc ++ [pairRow rows.length near far], gs', rfl, e9, ok9, by rw [List.map_append]; exact k1, k2, by rw [List.length_append, ha, List.length_singleton]; omega, by omega, hj2, fun r hr' => ?_⟩
          rcases List.mem_append.mp hr' with h | h
          · exact hr r h
          · rw [List.mem_singleton.mp h]; exact wr
        ((first | rw [e_cons] | (dsimp only; rw [e_cons])); try simp only [dZ, dG, boR, coR, bfD, bmD, bmT, wipeD, sizeLine, Nat.reduceAdd, Nat.reducePow, Nat.reduceLeDiff, reduceIte, String.reduceBEq])
        refine o_eqS ?_
        refine ⟨_, rfl, ?_⟩
        rw [o_inL ku.2, o_inL ku.2]
        split
        all_goals
          refine ⟨rfl, hfl _ _, _, rfl, ?_⟩
          split
          · ((first | rw [e_cons] | (dsimp only; rw [e_cons])); try simp only [dZ, dG, boR, coR, bfD, bmD, bmT, wipeD, sizeLine, Nat.reduceAdd, Nat.reducePow, Nat.reduceLeDiff, reduceIte, String.reduceBEq])
            refine ⟨ty_lst kn2, cmulL (by omega) (by omega), ?_⟩
            refine app_step ok3 fq1' (e7.trans e8) kn2 (by rw [List.length_map]; have : sizeLine = 16777216 := rfl; omega) fun G9 e9 ok9 kn2' kk9 => ?_
            repeat (first | (rw [e_nil]; try dsimp only) | (dsimp only; rw [e_nil]; try dsimp only))
            exact fin G9 (gs ++ [(j : Int) + rows.length * i]) e9 ok9 (kk9 _ _ pq kn1) (by rw [List.map_append]; exact kn2') (by simp)
          · repeat (first | (rw [e_nil]; try dsimp only) | (dsimp only; rw [e_nil]; try dsimp only))
            exact fin G8 gs (e7.trans e8) ok8 kn1 kn2 (by omega)
      · subst eτ
        (first | (rw [e_nil]; try dsimp only) | (dsimp only; rw [e_nil]; try dsimp only))
        rw [enumD_len, List.length_map] at ha hg
        exact ⟨_, _, _, _, _, acc, gs, rfl, e', ok', kn1, kn2, by rw [ha, Nat.succ_mul], by rw [Nat.succ_mul]; exact hg, hi2, hr⟩
    · subst eτ
      rw [enumD_len, List.length_map] at ha hg
      ((first | rw [e_cons] | (dsimp only; rw [e_cons])); try simp only [dZ, dG, boR, coR, bfD, bmD, bmT, wipeD, sizeLine, Nat.reduceAdd, Nat.reducePow, Nat.reduceLeDiff, reduceIte, String.reduceBEq])
      rw [o_tupO (seq_kn kn1), o_tupO (seq_kn kn2)]
      (try simp only [dZ, dG, boR, coR, bfD, bmD, bmT, wipeD, sizeLine, Nat.reduceAdd, Nat.reducePow, Nat.reduceLeDiff, reduceIte, String.reduceBEq])
      have := w1.ne
      have := w2.ne
      exact k _ _ (e1.trans (e2.trans (e3.trans e'))) ok' ⟨⟨acc, gs, rfl, ⟨by rw [ha]; exact Nat.mul_pos (by omega) (by omega), by rw [ha]; exact Nat.mul_le_mul w2.le w1.le, fun r h => by rw [ha]; exact hr r h, by omega⟩⟩, fun s h => ne_word o2 (s := s) h⟩
end DL
end
section
set_option Elab.async false
set_option linter.all false
set_option maxRecDepth 100000
set_option autoImplicit false
namespace DL
open PySem PySem.Spec PyProof.Rows L2
open PySem.PyData (strOk)
abbrev sO (s : String) : Str := Str.ofString s
def K1 : KL := [(sO "half", 1), (sO "lock", 2), (sO "mark", 1), (sO "pair", 2), (sO "seal", 2), (sO "sign", 2)]
def K2 : KL := [(sO "bag", 2), (sO "tag", 1)]
def opD (nm kd : String) (g : Int) (needs : List DV) : DV := .tup [sD nm, sD kd, .int g, .tup needs]
def O1 : List DV := [opD "first" "pair" 0 [], opD "open" "lock" 0 [.tup [sD "part", .int 1]], opD "second" "pair" 1 [], opD "shown" "sign" 0 [], opD "signed" "sign" 0 [.tup [sD "around", sD "half", .int 1]], opD "unseal" "seal" 0 [.tup [sD "inside", .int 1, sD "half"]]]
def O2 : List DV := [opD "lift" "bag" 0 [.tup [sD "part", .int 1]], opD "peel" "tag" 0 []]
def N1 : List Str := [sO "first", sO "open", sO "second", sO "shown", sO "signed", sO "unseal"]
def N2 : List Str := [sO "lift", sO "peel"]
structure BkOk (K : KL) (nms : List Str) (ops : List DV) : Prop where
  k : KOk K
  ol : ops.length ≤ 100
  asc : ascS nms = true
  nl : nms.length = ops.length
  op : ∀ p ∈ nms.zip ops, OpOk K p.1 p.2
  lk : ∀ p ∈ K, look K p.1 = some p.2 ∧ p.1.length ≤ 100
  sl : ∀ p ∈ K, p.1 = sO "seal" → p.2 = 2 ∧ look K (sO "half") = some 1
theorem ll {s : Str} (h : s.length ≤ 100) : s.length ≤ sizeLine := sz101 h
theorem bk2 : BkOk K2 N2 O2 where
  k := ⟨by decide, by decide, by decide +kernel, by decide +kernel, rfl⟩
  ol := by decide
  asc := by decide +kernel
  nl := rfl
  op := by
    intro p hp
    rcases List.mem_cons.mp hp with rfl | hp
    · exact ⟨⟨sO "bag", 0, _, 2, rfl, by decide +kernel, by decide +kernel, by decide +kernel, by decide, by decide, by decide, fun y hy => by rw [List.mem_singleton.mp hy]; exact .inl ⟨1, rfl, by decide, by decide⟩⟩, by decide +kernel, by decide +kernel, by decide +kernel⟩
    rw [List.mem_singleton.mp hp]
    exact ⟨⟨sO "tag", 0, _, 1, rfl, by decide +kernel, by decide +kernel, by decide +kernel, by decide, by decide, by decide, fun y hy => nomatch hy⟩, by decide +kernel, by decide +kernel, by decide +kernel⟩
  lk := by decide +kernel
  sl := by decide +kernel
theorem sgl_half : sgl K1 (sO "half") := ⟨by decide +kernel, by decide +kernel, by decide +kernel⟩
theorem bk1 : BkOk K1 N1 O1 where
  k := ⟨by decide, by decide, by decide +kernel, by decide +kernel, rfl⟩
  ol := by decide
  asc := by decide +kernel
  nl := rfl
  op := by
    intro p hp
    rcases List.mem_cons.mp hp with rfl | hp
    · exact ⟨⟨sO "pair", 0, _, 2, rfl, by decide +kernel, by decide +kernel, by decide +kernel, by decide, by decide, by decide, fun y hy => nomatch hy⟩, by decide +kernel, by decide +kernel, by decide +kernel⟩
    rcases List.mem_cons.mp hp with rfl | hp
    · exact ⟨⟨sO "lock", 0, _, 2, rfl, by decide +kernel, by decide +kernel, by decide +kernel, by decide, by decide, by decide, fun y hy => by rw [List.mem_singleton.mp hy]; exact .inl ⟨1, rfl, by decide, by decide⟩⟩, by decide +kernel, by decide +kernel, by decide +kernel⟩
    rcases List.mem_cons.mp hp with rfl | hp
    · exact ⟨⟨sO "pair", 1, _, 2, rfl, by decide +kernel, by decide +kernel, by decide +kernel, by decide, by decide, by decide, fun y hy => nomatch hy⟩, by decide +kernel, by decide +kernel, by decide +kernel⟩
    rcases List.mem_cons.mp hp with rfl | hp
    · exact ⟨⟨sO "sign", 0, _, 2, rfl, by decide +kernel, by decide +kernel, by decide +kernel, by decide, by decide, by decide, fun y hy => nomatch hy⟩, by decide +kernel, by decide +kernel, by decide +kernel⟩
    rcases List.mem_cons.mp hp with rfl | hp
    · exact ⟨⟨sO "sign", 0, _, 2, rfl, by decide +kernel, by decide +kernel, by decide +kernel, by decide, by decide, by decide, fun y hy => by rw [List.mem_singleton.mp hy]; exact .inr (.inl ⟨sO "half", 1, rfl, by decide, by decide, sgl_half, by decide +kernel⟩)⟩, by decide +kernel, by decide +kernel, by decide +kernel⟩
    rw [List.mem_singleton.mp hp]
    exact ⟨⟨sO "seal", 0, _, 2, rfl, by decide +kernel, by decide +kernel, by decide +kernel, by decide, by decide, by decide, fun y hy => by rw [List.mem_singleton.mp hy]; exact .inr (.inr ⟨1, sO "half", rfl, by decide, by decide, sgl_half, by decide +kernel⟩)⟩, by decide +kernel, by decide +kernel, by decide +kernel⟩
  lk := by decide +kernel
  sl := by decide +kernel
def bookD (K : KL) (ops : List DV) : DV := .tup [.xt (kindsD K), .tup ops]
abbrev S_books : DSp := SP (α := Unit) (fun D x G ds => ds = []) (fun D x G v => ∃ p, v = .ref p ∧ Kn D G p (.lst [bookD K1 O1, bookD K1 O1, bookD K2 O2]))
theorem sv_books {C : Nat → DSp} : Serves tabs C f_law_books S_books := SP.serves fun D x ds G EX P ok e k => by
  subst e
  show denSs tabs C EX _ _ [none, none, none] G
  rw [f_law_books]
  ((first | rw [e_cons] | (dsimp only; rw [e_cons])); try simp only [dZ, dG, boR, coR, bfD, bmD, bmT, wipeD, sizeLine, Nat.reduceAdd, Nat.reducePow, Nat.reduceLeDiff, reduceIte, String.reduceBEq])
  ((first | rw [e_cons] | (dsimp only; rw [e_cons])); try simp only [dZ, dG, boR, coR, bfD, bmD, bmT, wipeD, sizeLine, Nat.reduceAdd, Nat.reducePow, Nat.reduceLeDiff, reduceIte, String.reduceBEq])
  ((first | rw [e_cons] | (dsimp only; rw [e_cons])); try simp only [dZ, dG, boR, coR, bfD, bmD, bmT, wipeD, sizeLine, Nat.reduceAdd, Nat.reducePow, Nat.reduceLeDiff, reduceIte, String.reduceBEq])
  ((first | rw [e_cons] | (dsimp only; rw [e_cons])); try simp only [dZ, dG, boR, coR, bfD, bmD, bmT, wipeD, sizeLine, Nat.reduceAdd, Nat.reducePow, Nat.reduceLeDiff, reduceIte, String.reduceBEq])
  ((first | rw [e_cons] | (dsimp only; rw [e_cons])); try simp only [dZ, dG, boR, coR, bfD, bmD, bmT, wipeD, sizeLine, Nat.reduceAdd, Nat.reducePow, Nat.reduceLeDiff, reduceIte, String.reduceBEq])
  ((first | rw [e_cons] | (dsimp only; rw [e_cons])); try simp only [dZ, dG, boR, coR, bfD, bmD, bmT, wipeD, sizeLine, Nat.reduceAdd, Nat.reducePow, Nat.reduceLeDiff, reduceIte, String.reduceBEq])
  exact ⟨by show 5 ≤ 16777215; decide, NewO.run ok fun p G2 e2 ok2 kn _ => k _ _ e2 ok2 ⟨p, rfl, kn⟩⟩
/-! words -/
theorem foldl_app (x : Array Nat) : ∀ (n : Nat) (acc : Array Nat), ((List.replicate n x).foldl (· ++ ·) acc).toList = acc.toList ++ (List.replicate n x.toList).flatten
  | 0, acc => by simp
  | n + 1, acc => by rw [List.replicate_succ, List.foldl_cons, foldl_app x n, List.replicate_succ, List.flatten_cons]; simp
theorem strRep_one (c : Nat) (k : Int) : (strRep ⟨#[c]⟩ k).cps.toList = List.replicate k.toNat c := by
  unfold strRep
  simp only
  rw [foldl_app]
  induction k.toNat with
  | zero => rfl
  | succ n ih => rw [List.replicate_succ, List.flatten_cons]; simp at ih; simp [ih, List.replicate_succ]
theorem small_at : ∀ j : Fin 26, SMALL.cps.toList[j.val]? = some (97 + j.val) := by decide +kernel
theorem small_in : ∀ j : Fin 26, inStr ⟨#[97 + j.val]⟩ SMALL = true := by decide +kernel
theorem small_len : SMALL.cps.toList.length = 26 := by decide +kernel
def wd (a k : Int) : Str := strRep ⟨#[97 + ((a + 5 * k) % 26).toNat]⟩ (1 + (a + k) % 8)
theorem wd_ok (a k : Int) : isWord (wd a k) = true ∧ (wd a k).length ≤ 8 ∧ strOk (wd a k) = true := by
  have h0 : 0 ≤ (a + 5 * k) % 26 := Int.emod_nonneg _ (by decide)
  have h1 : (a + 5 * k) % 26 < 26 := Int.emod_lt_of_pos _ (by decide)
  have h2 : 0 ≤ (a + k) % 8 := Int.emod_nonneg _ (by decide)
  have h3 : (a + k) % 8 < 8 := Int.emod_lt_of_pos _ (by decide)
  have hl : (wd a k).cps.toList = List.replicate (1 + (a + k) % 8).toNat (97 + ((a + 5 * k) % 26).toNat) := strRep_one _ _
  have hlen : (wd a k).length = (1 + (a + k) % 8).toNat := by
    have : (wd a k).length = (wd a k).cps.toList.length := by simp [Str.length]
    rw [this, hl, List.length_replicate]
  refine ⟨?_, by omega, ?_⟩
  · unfold isWord
    rw [hlen, hl]
    rw [decide_eq_true (show 1 ≤ (((1 + (a + k) % 8).toNat : Nat) : Int) by omega), decide_eq_true (show (((1 + (a + k) % 8).toNat : Nat) : Int) ≤ 8 by omega), Bool.true_and, Bool.true_and, List.all_eq_true]
    intro c hc
    rw [(List.mem_replicate.mp hc).2]
    exact small_in ⟨((a + 5 * k) % 26).toNat, by omega⟩
  · unfold PySem.PyData.strOk
    rw [← Array.all_toList, hl, List.all_eq_true]
    intro c hc
    rw [(List.mem_replicate.mp hc).2]
    simp
    omega
theorem wd_ne (a k j : Int) (h : (a + 5 * k) % 26 ≠ (a + 5 * j) % 26) : wd a k ≠ wd a j := fun e => by
  have h0 : 0 ≤ (a + 5 * k) % 26 := Int.emod_nonneg _ (by decide)
  have h0' : 0 ≤ (a + 5 * j) % 26 := Int.emod_nonneg _ (by decide)
  have h2 : 0 ≤ (a + k) % 8 := Int.emod_nonneg _ (by decide)
  have e1 := congrArg (fun s : Str => s.cps.toList.head?) e
  have h2' : 0 ≤ (a + j) % 8 := Int.emod_nonneg _ (by decide)
  simp only [wd, strRep_one] at e1
  rw [show (1 + (a + k) % 8).toNat = ((a + k) % 8).toNat + 1 by omega, show (1 + (a + j) % 8).toNat = ((a + j) % 8).toNat + 1 by omega, List.replicate_succ, List.replicate_succ] at e1
  simp at e1
  omega
theorem wds_nodup (a : Int) (m : Nat) (hm : m ≤ 3) : ((List.range m).map fun i => wd a ((i : Nat) : Int)).Nodup := by
  have h01 := wd_ne a 0 1 (by omega)
  have h02 := wd_ne a 0 2 (by omega)
  have h12 := wd_ne a 1 2 (by omega)
  rcases m with _ | _ | _ | _ | m
  · exact List.nodup_nil
  · show [wd a 0].Nodup
    simp
  · show [wd a 0, wd a 1].Nodup
    simp [h01]
  · show [wd a 0, wd a 1, wd a 2].Nodup
    simp [h01, h02, h12]
  · omega
def wdD (a : Int) : DV → DV
  | .int k => .str (wd a k)
  | _ => .non
abbrev S_words : DSp := SP (α := (Addr × Addr) × Nat) (fun D x G ds => D = some x.1 ∧ ds = [.ref x.1.1, .int (x.2 : Nat)] ∧ x.2 ≤ 3) (fun D x G v => ∃ p, ∃ ss : List Str, v = .ref p ∧ Kn D G p (.lst (ss.map .str)) ∧ ss.length = x.2 ∧ ss.Nodup ∧ ∀ s ∈ ss, isWord s = true ∧ s.length ≤ 8 ∧ strOk s = true)
theorem sv_words {C : Nat → DSp} (h5 : Has C 5 S_draw) : Serves tabs C f_law_words S_words := SP.serves fun D x ds G EX P ok ⟨eD, e, h1⟩ k => by
  obtain ⟨⟨d, l⟩, m⟩ := x
  dsimp only at eD e h1 k
  subst eD e
  show denSs tabs C EX _ _ [some _, some _, none, none, none] G
  rw [f_law_words]
  ((first | rw [e_cons] | (dsimp only; rw [e_cons])); try simp only [dZ, dG, boR, coR, bfD, bmD, bmT, wipeD, sizeLine, Nat.reduceAdd, Nat.reducePow, Nat.reduceLeDiff, reduceIte, String.reduceBEq])
  refine draw_use h5 (by decide) (by decide) ok fun a G1 e1 ok1 a0 a1 => ?_
  (try simp only [dZ, dG, boR, coR, bfD, bmD, bmT, wipeD, sizeLine, Nat.reduceAdd, Nat.reducePow, Nat.reduceLeDiff, reduceIte, String.reduceBEq])
  ((first | rw [e_cons] | (dsimp only; rw [e_cons])); try simp only [dZ, dG, boR, coR, bfD, bmD, bmT, wipeD, sizeLine, Nat.reduceAdd, Nat.reducePow, Nat.reduceLeDiff, reduceIte, String.reduceBEq])
  refine ⟨by omega, by omega, ?_⟩
  refine LcK.map (D := some (d, l)) (wdD a) (fun _ => true) ok1 (by rw [rngD_len]; have : sizeLine = 16777216 := rfl; omega) (fun _ _ => by trivial) (fun x hx => ?_) fun p G2 e2 ok2 kp _ => ?_
  · obtain ⟨i, hi, rfl⟩ := mem_rng hx
    have hi' : i < m := by simpa using hi
    have h0 : 0 ≤ (a + 5 * (0 + (i : Int))) % 26 := Int.emod_nonneg _ (by decide)
    have h1 : (a + 5 * (0 + (i : Int))) % 26 < 26 := Int.emod_lt_of_pos _ (by decide)
    have h2 : 0 ≤ (a + (0 + (i : Int))) % 8 := Int.emod_nonneg _ (by decide)
    have h3 : (a + (0 + (i : Int))) % 8 < 8 := Int.emod_lt_of_pos _ (by decide)
    have hc : atI SMALL.cps.toList ((a + 5 * (0 + (i : Int))) % 26) = some (97 + ((a + 5 * (0 + (i : Int))) % 26).toNat) := by
      obtain ⟨x, hx, _, h3⟩ := atN (xs := SMALL.cps.toList) h0 (by rw [small_len]; exact h1)
      rw [hx, ← h3]
      exact small_at ⟨((a + 5 * (0 + (i : Int))) % 26).toNat, by omega⟩
    (try simp only [dZ, dG, boR, coR, bfD, bmD, bmT, wipeD, sizeLine, Nat.reduceAdd, Nat.reducePow, Nat.reduceLeDiff, reduceIte, String.reduceBEq])
    refine fun G1 e1 ok1 K1 K2 k1 _ => ⟨cmulL (by decide) (by decide), by decide, ?_⟩
    refine ⟨_, _, rfl, by decide +kernel, hc, ?_⟩
    (try simp only [dZ, dG, boR, coR, bfD, bmD, bmT, wipeD, sizeLine, Nat.reduceAdd, Nat.reducePow, Nat.reduceLeDiff, reduceIte, String.reduceBEq])
    refine ⟨by decide, by omega, by omega, by simp [Str.length], ?_⟩
    exact k1 G1 (Ext.refl _ _) ok1 trivial
  rw [List.filter_eq_self.mpr (fun _ _ => rfl)] at kp
  have e3 : (rngD 0 ((m : Int).toNat)).map (wdD a) = ((List.range m).map fun i => wd a ((i : Nat) : Int)).map .str := by
    unfold rngD
    rw [List.map_map, List.map_map, Int.toNat_natCast]
    exact List.map_congr_left fun i _ => by show DV.str (wd a (0 + _)) = _; rw [Int.zero_add]; rfl
  rw [e3] at kp
  refine k _ _ (e1.trans e2) ok2 ⟨p, _, rfl, kp, by simp, wds_nodup a m h1, fun s hs => ?_⟩
  obtain ⟨i, _, rfl⟩ := List.mem_map.mp hs
  exact wd_ok a i
end DL
end
section
set_option Elab.async false
set_option linter.all false
set_option maxRecDepth 100000
set_option autoImplicit false
namespace DL
open PySem PySem.Spec PyProof.Rows L2
open PySem.PyData (strOk)
/-! drawn things -/
def names4 : List Str := [sO "K", sO "N7", sO "s", sO "to"]
theorem names4_ok : ∀ s ∈ names4, (isWord s || isName s) = true ∧ s.length ≤ 100 ∧ strOk s = true := by decide +kernel
theorem half_ok : isWord (sO "half") = true ∧ (sO "half").length ≤ 100 ∧ strOk (sO "half") = true := by decide +kernel
theorem toPD2 {G : DH} {s : Str} {i : Int} : toPD G 60 (.tup [.str s, .int i]) = some (.tuple [.str s, .int i]) := by
  unfold toPD omap omap omap; rfl
theorem o_eq2 {G : DH} {P : DK} {a b : Str} {i j : Int} (ha : strOk a = true) (hb : strOk b = true) (k : ∀ c : Bool, (c = true → a = b) → P (.bl c) G) : dEq (.tup [.str a, .int i]) (.tup [.str b, .int j]) G P := by
  refine .inr ⟨_, _, toPD2, toPD2, by simpa [PyData.canLay0, PyData.canLayAll0] using ha, by simpa [PyData.canLay0, PyData.canLayAll0] using hb, k _ fun h => ?_⟩
  simp [PyData.eqv, PyData.eqvAll] at h
  exact h.1
abbrev S_thing (dep : Nat) : DSp := SP (α := (Addr × Addr) × KL × List Str × List DV × Addr) (fun D x G ds => D = some x.1 ∧ ds = [.ref x.1.1, .tup (kindsD x.2.1), .ref x.2.2.2.2, .int (dep : Nat)] ∧ BkOk x.2.1 x.2.2.1 x.2.2.2.1 ∧ Kn D G x.2.2.2.2 (.lst (names4.map .str))) (fun D x G v => Thing x.2.1 (2 * dep) v)
theorem sv_thing {C : Nat → DSp} (dep : Nat) (h5 : Has C 5 S_draw) (h7 : Has C 7 S_pick) (h19 : ∀ m, m < dep → Has C 19 (S_thing m)) : Serves tabs C f_law_thing (S_thing dep) := SP.serves fun D x ds G EX P ok ⟨eD, e, B, kn⟩ k => by
  obtain ⟨⟨d, l⟩, K, bn, ops, nl⟩ := x
  dsimp only at eD e B kn k
  subst eD e
  have pickN : ∀ {G : DH} {P : DK} {EX : DXK} (n : Nat), Kn (some (d, l)) G nl (.lst (names4.map .str)) → okD (some (d, l)) G → (∀ v G2, Ext (some (d, l)) G G2 → okD (some (d, l)) G2 → Thing K n v → P v G2) → C 7 [.ref d, .ref nl] G P EX := fun n kn ok k =>
    pick_use h7 (.inr ⟨nl, rfl, kn⟩) (by decide) (by decide) ok fun v G2 e2 ok2 hv => by
      obtain ⟨s, hs, rfl⟩ := List.mem_map.mp hv
      have := names4_ok s hs
      exact k _ G2 e2 ok2 (.leaf this.1 this.2.1 this.2.2)
  show denSs tabs C EX _ _ [some _, some _, some _, some _, none, none, none, none, none, none] G
  rw [f_law_thing]
  ((first | rw [e_cons] | (dsimp only; rw [e_cons])); try simp only [dZ, dG, boR, coR, bfD, bmD, bmT, wipeD, sizeLine, Nat.reduceAdd, Nat.reducePow, Nat.reduceLeDiff, reduceIte, String.reduceBEq])
  refine draw_use h5 (by decide) (by decide) ok fun wy G1 e1 ok1 w0 w1 => ?_
  (try simp only [dZ, dG, boR, coR, bfD, bmD, bmT, wipeD, sizeLine, Nat.reduceAdd, Nat.reducePow, Nat.reduceLeDiff, reduceIte, String.reduceBEq])
  ((first | rw [e_cons] | (dsimp only; rw [e_cons])); try simp only [dZ, dG, boR, coR, bfD, bmD, bmT, wipeD, sizeLine, Nat.reduceAdd, Nat.reducePow, Nat.reduceLeDiff, reduceIte, String.reduceBEq])
  have early : ∀ G2, Ext (some (d, l)) G1 G2 → okD (some (d, l)) G2 → denSs tabs C EX [.ret (.call "_law_pick" 7 2 [.v 0, .v 2])] { nx := fun _ G' => P .non G', rt := P } [some (.ref d), some (.tup (kindsD K)), some (.ref nl), some (.int (dep : Nat)), some (.int wy), none, none, none, none, none] G2 := fun G2 e2 ok2 => by
    ((first | rw [e_cons] | (dsimp only; rw [e_cons])); try simp only [dZ, dG, boR, coR, bfD, bmD, bmT, wipeD, sizeLine, Nat.reduceAdd, Nat.reducePow, Nat.reduceLeDiff, reduceIte, String.reduceBEq])
    exact pickN (2 * dep) (kn.mono (e1.trans e2)) ok2 fun v G3 e3 ok3 hv => k _ _ (e1.trans (e2.trans e3)) ok3 hv
  split
  · ((first | rw [e_cons] | (dsimp only; rw [e_cons])); try simp only [dZ, dG, boR, coR, bfD, bmD, bmT, wipeD, sizeLine, Nat.reduceAdd, Nat.reducePow, Nat.reduceLeDiff, reduceIte, String.reduceBEq])
    exact pickN (2 * dep) (kn.mono e1) ok1 fun v G3 e3 ok3 hv => k _ _ (e1.trans e3) ok3 hv
  refine o_eqI ?_
  refine ⟨_, rfl, ?_⟩
  cases dep with
  | zero =>
    rw [show decide (((0 : Nat) : Int) = 0) = true from rfl]
    (try simp only [dZ, dG, boR, coR, bfD, bmD, bmT, wipeD, sizeLine, Nat.reduceAdd, Nat.reducePow, Nat.reduceLeDiff, reduceIte, String.reduceBEq])
    ((first | rw [e_cons] | (dsimp only; rw [e_cons])); try simp only [dZ, dG, boR, coR, bfD, bmD, bmT, wipeD, sizeLine, Nat.reduceAdd, Nat.reducePow, Nat.reduceLeDiff, reduceIte, String.reduceBEq])
    exact pickN (2 * 0) (kn.mono e1) ok1 fun v G3 e3 ok3 hv => k _ _ (e1.trans e3) ok3 hv
  | succ m =>
    rw [decide_eq_false (show ¬ ((m + 1 : Nat) : Int) = 0 by omega)]
    (try simp only [dZ, dG, boR, coR, bfD, bmD, bmT, wipeD, sizeLine, Nat.reduceAdd, Nat.reducePow, Nat.reduceLeDiff, reduceIte, String.reduceBEq])
    (rw [e_nil]; dsimp only; rw [e_cons]; try simp only [dZ, dG, boR, coR, bfD, bmD, bmT, wipeD, sizeLine, Nat.reduceAdd, Nat.reducePow, Nat.reduceLeDiff, reduceIte, String.reduceBEq])
    have kl : (kindsD K).length ≤ 100000 := by unfold kindsD; rw [List.length_map]; have := B.k.len; omega
    refine pick_use h7 (.inl rfl) (by unfold kindsD; simpa using B.k.ne) kl ok1 fun v G2 e2 ok2 hv => ?_
    obtain ⟨⟨kd, mn⟩, hp, rfl⟩ := mem_kinds hv
    have hok := B.k.ok _ hp
    have hlk := B.lk _ hp
    have hsl := B.sl _ hp
    dsimp only at hok hlk hsl
    have recT : ∀ {G' : DH} {P : DK} {EX : DXK}, Ext (some (d, l)) G G' → okD (some (d, l)) G' → (∀ v G2, Ext (some (d, l)) G' G2 → okD (some (d, l)) G2 → Thing K (2 * m) v → P v G2) → C 19 [.ref d, .tup (kindsD K), .ref nl, .int ((m + 1 : Nat) - 1)] G' P EX := fun e ok k => by
      rw [show ((m + 1 : Nat) : Int) - 1 = (m : Nat) from by omega]
      exact SP.use (h19 m (by omega)) ((d, l), K, bn, ops, nl) ok ⟨rfl, rfl, B, kn.mono e⟩ k
    (try simp only [dZ, dG, boR, coR, bfD, bmD, bmT, wipeD, sizeLine, Nat.reduceAdd, Nat.reducePow, Nat.reduceLeDiff, reduceIte, String.reduceBEq])
    ((first | rw [e_cons] | (dsimp only; rw [e_cons])); try simp only [dZ, dG, boR, coR, bfD, bmD, bmT, wipeD, sizeLine, Nat.reduceAdd, Nat.reducePow, Nat.reduceLeDiff, reduceIte, String.reduceBEq])
    refine ⟨by omega, by omega, ?_⟩
    refine LcK.run (D := some (d, l)) (fun j l => l.length = j ∧ ∀ x ∈ l, Thing K (2 * m) x) ok2 (by rw [rngD_len]; have : sizeLine = 16777216 := rfl; omega) (fun _ _ => by trivial) ⟨rfl, by simp⟩ (fun j' l' G3 x e3 ok3 hx ⟨hl, hi⟩ => ?_) fun q G3 parts e3 ok3 kq _ _ ⟨hl, hi⟩ => ?_
    · (try simp only [dZ, dG, boR, coR, bfD, bmD, bmT, wipeD, sizeLine, Nat.reduceAdd, Nat.reducePow, Nat.reduceLeDiff, reduceIte, String.reduceBEq])
      refine fun K1 K2 k1 k2 => recT (e1.trans (e2.trans e3)) ok3 fun v G4 e4 ok4 hv => k1 v G4 e4 ok4 ⟨by rw [List.length_append, hl]; rfl, fun z hz => ?_⟩
      rcases List.mem_append.mp hz with h | h
      · exact hi z h
      · rw [List.mem_singleton.mp h]; exact hv
    rw [rngD_len] at hl
    have e03 := e1.trans (e2.trans e3)
    ((first | rw [e_cons] | (dsimp only; rw [e_cons])); try simp only [dZ, dG, boR, coR, bfD, bmD, bmT, wipeD, sizeLine, Nat.reduceAdd, Nat.reducePow, Nat.reduceLeDiff, reduceIte, String.reduceBEq])
    -- the last part and what follows
    have fin : ∀ (lst : DV) (G4 : DH), Ext (some (d, l)) G3 G4 → okD (some (d, l)) G4 → Thing K (2 * m) lst → denSs tabs C EX [
      .ifs (.cmp .eq (.tup [.v 7, .v 4]) (.tup [.str "seal", .int 2])) [
        .asg (.n 6) (.tup [.str "half", .v 6])] [],
      .ret (.bin .add (.bin .add (.tup [.v 7]) (.bf .tuple [.v 5])) (.tup [.v 6]))] { nx := fun _ G' => P .non G', rt := P } [some (.ref d), some (.tup (kindsD K)), some (.ref nl), some (.int ((m + 1 : Nat) : Int)), some (.int wy), some (.ref q), some lst, some (.str kd), some (.int mn), none] G4 := fun lst G4 e4 ok4 hT => by
      have kq4 := kq.mono e4
      have ret : ∀ (lst : DV), Thing K (2 * m + 1) lst → denSs tabs C EX [.ret (.bin .add (.bin .add (.tup [.v 7]) (.bf .tuple [.v 5])) (.tup [.v 6]))] { nx := fun _ G' => P .non G', rt := P } [some (.ref d), some (.tup (kindsD K)), some (.ref nl), some (.int ((m + 1 : Nat) : Int)), some (.int wy), some (.ref q), some lst, some (.str kd), some (.int mn), none] G4 := fun lst hT => by
        ((first | rw [e_cons] | (dsimp only; rw [e_cons])); try simp only [dZ, dG, boR, coR, bfD, bmD, bmT, wipeD, sizeLine, Nat.reduceAdd, Nat.reducePow, Nat.reduceLeDiff, reduceIte, String.reduceBEq])
        rw [o_tupO (seq_kn kq4)]
        have hsz : sizeLine = 16777216 := rfl
        have m3 := hok.2.2.2.2
        refine ⟨by simp; omega, by simp; omega, ?_⟩
        refine k _ _ (e03.trans e4) ok4 ?_
        rw [show [DV.str kd] ++ parts ++ [lst] = DV.str kd :: (parts ++ [lst]) from rfl]
        refine .node (n := 2 * m + 1) hok.1 hlk.2 hok.2.2.1 hlk.1 (by simp; omega) (by omega) fun p hp => ?_
        rcases List.mem_append.mp hp with h | h
        · exact (hi p h).up (by omega)
        · rw [List.mem_singleton.mp h]; exact hT
      ((first | rw [e_cons] | (dsimp only; rw [e_cons])); try simp only [dZ, dG, boR, coR, bfD, bmD, bmT, wipeD, sizeLine, Nat.reduceAdd, Nat.reducePow, Nat.reduceLeDiff, reduceIte, String.reduceBEq])
      refine o_eq2 hok.2.2.1 (by decide +kernel) fun c hc => ?_
      refine ⟨_, rfl, ?_⟩
      cases c with
      | true =>
        (try simp only [dZ, dG, boR, coR, bfD, bmD, bmT, wipeD, sizeLine, Nat.reduceAdd, Nat.reducePow, Nat.reduceLeDiff, reduceIte, String.reduceBEq])
        ((first | rw [e_cons] | (dsimp only; rw [e_cons])); try simp only [dZ, dG, boR, coR, bfD, bmD, bmT, wipeD, sizeLine, Nat.reduceAdd, Nat.reducePow, Nat.reduceLeDiff, reduceIte, String.reduceBEq])
        (first | (rw [e_nil]; try dsimp only) | (dsimp only; rw [e_nil]; try dsimp only))
        exact ret _ (.node half_ok.1 half_ok.2.1 half_ok.2.2 (hsl (hc rfl)).2 rfl (by decide) fun p hp => by rw [List.mem_singleton.mp hp]; exact hT)
      | false =>
        (try simp only [dZ, dG, boR, coR, bfD, bmD, bmT, wipeD, sizeLine, Nat.reduceAdd, Nat.reducePow, Nat.reduceLeDiff, reduceIte, String.reduceBEq])
        (first | (rw [e_nil]; try dsimp only) | (dsimp only; rw [e_nil]; try dsimp only))
        exact ret _ (hT.up (by omega))
    refine draw_use h5 (by decide) (by decide) ok3 fun i G4 e4 ok4 i0 i1 => ?_
    (try simp only [dZ, dG, boR, coR, bfD, bmD, bmT, wipeD, sizeLine, Nat.reduceAdd, Nat.reducePow, Nat.reduceLeDiff, reduceIte, String.reduceBEq])
    split
    · refine pickN (2 * m) (kn.mono (e03.trans e4)) ok4 fun v G5 e5 ok5 hv => ?_
      (try simp only [dZ, dG, boR, coR, bfD, bmD, bmT, wipeD, sizeLine, Nat.reduceAdd, Nat.reducePow, Nat.reduceLeDiff, reduceIte, String.reduceBEq])
      exact fin v G5 (e4.trans e5) ok5 hv
    · refine recT (e03.trans e4) ok4 fun v G5 e5 ok5 hv => ?_
      (try simp only [dZ, dG, boR, coR, bfD, bmD, bmT, wipeD, sizeLine, Nat.reduceAdd, Nat.reducePow, Nat.reduceLeDiff, reduceIte, String.reduceBEq])
      exact fin v G5 (e4.trans e5) ok5 hv
end DL
end
section
set_option Elab.async false
set_option linter.all false
set_option maxRecDepth 100000
set_option autoImplicit false
set_option maxHeartbeats 1000000
namespace DL
open PySem PySem.Spec PyProof.Rows L2
open PySem.PyData (strOk)
def Sts (D : Dk) (G : DH) (l : List (Addr × DO)) : Prop := ∀ x ∈ l, Kn D G x.1 x.2
theorem Sts.mono {D : Dk} {G G1 : DH} {l : List (Addr × DO)} (h : Sts D G l) (e : Ext D G G1) : Sts D G1 l := fun x hx => (h x hx).mono e
theorem Sts.ne {D : Dk} {G : DH} {l : List (Addr × DO)} {b : Addr} (h : Sts D G l) (hb : G b = none) : ∀ x ∈ l, x.1 ≠ b := fun x hx => (h x hx).ne hb
theorem Sts.keep {D : Dk} {G G1 : DH} {l : List (Addr × DO)} {b : Addr} (h : Sts D G l) (n : ∀ x ∈ l, x.1 ≠ b) (k : ∀ a o, a ≠ b → Kn D G a o → Kn D G1 a o) : Sts D G1 l := fun x hx => k _ _ (n x hx) (h x hx)
theorem Sts.cons {D : Dk} {G : DH} {l : List (Addr × DO)} {a : Addr} {o : DO} (h1 : Kn D G a o) (h : Sts D G l) : Sts D G ((a, o) :: l) := fun x hx => by
  rcases List.mem_cons.mp hx with rfl | hx
  · exact h1
  · exact h x hx
theorem Sts.hd {D : Dk} {G : DH} {l : List (Addr × DO)} {x : Addr × DO} (h : Sts D G (x :: l)) : Kn D G x.1 x.2 := h x List.mem_cons_self
theorem Sts.tl {D : Dk} {G : DH} {l : List (Addr × DO)} {x : Addr × DO} (h : Sts D G (x :: l)) : Sts D G l := fun y hy => h y (List.mem_cons_of_mem _ hy)
theorem kS_ne {a b : String} (h : a ≠ b) : kS a ≠ kS b := fun e => by
  injection e with e
  exact h (ofString_inj.mp e)
/-- what the circle's dict holds -/
structure W4 (kvs : List (Key × DV)) (kx ox : DV) (m s : Int) : Prop where
  len : kvs.length ≤ 10
  k : valD kvs (kS "kinds") = some kx
  o : valD kvs (kS "opens") = some ox
  m : valD kvs (kS "members") = some (.int m)
  s : valD kvs (kS "states") = some (.int s)
theorem w_put {kvs : List (Key × DV)} {kx ox : DV} {m s : Int} {f : String} {v : DV} (h : W4 kvs kx ox m s) (hl : kvs.length ≤ 9) (h1 : f ≠ "kinds") (h2 : f ≠ "opens") (h3 : f ≠ "members") (h4 : f ≠ "states") : W4 (putD kvs (kS f) v) kx ox m s :=
  ⟨Nat.le_trans putD_len (by omega), by rw [valD_put, if_neg (kS_ne h1)]; exact h.k, by rw [valD_put, if_neg (kS_ne h2)]; exact h.o, by rw [valD_put, if_neg (kS_ne h3)]; exact h.m, by rw [valD_put, if_neg (kS_ne h4)]; exact h.s⟩
theorem ix_w {D : Dk} {G : DH} {w : Addr} {kvs : List (Key × DV)} {f : String} {v : DV} {P : DK} (h : Kn D G w (.dK kvs)) (hv : valD kvs (kS f) = some v) (k : P v G) : dIx (.ref w) (.str (Str.ofString f)) G P := by
  rw [o_ixD h.2]
  exact ⟨_, _, rfl, hv, k⟩
theorem set_w {D : Dk} {G0 G : DH} {w : Addr} {kvs : List (Key × DV)} {f : String} {v : DV} {P : DH → Prop} (ok0 : okD D G0) (hw : G0 w = none) (e : Ext D G0 G) (h : Kn D G w (.dK kvs)) (hl : kvs.length ≤ 100) (k : ∀ G', Ext D G0 G' → okD D G' → Kn D G' w (.dK (putD kvs (kS f) v)) → (∀ b o, b ≠ w → Kn D G b o → Kn D G' b o) → P G') : dSet (.ref w) (.str (Str.ofString f)) v G P := by
  unfold dSet
  dsimp only
  rw [h.2]
  exact ⟨_, rfl, by have : sizeLine = 16777216 := rfl; omega, k _ (Ext.wr e ok0 hw) ((Ext.wr e ok0 hw).d ok0) h.wr fun b o hb kb => kb.wrN hb⟩
theorem ascI_cons2 (a b : Int) (r : List Int) : ascI (a :: b :: r) = (decide (a < b) && ascI (b :: r)) := rfl
theorem ascI_snoc : ∀ (is : List Int) (j : Int), ascI is = true → (∀ i ∈ is, i < j) → ascI (is ++ [j]) = true
  | [], j, _, _ => rfl
  | [a], j, _, h => by
    show ascI [a, j] = true
    rw [ascI_cons2, decide_eq_true (h a List.mem_cons_self)]; rfl
  | a :: b :: r, j, h, hh => by
    rw [ascI_cons2, Bool.and_eq_true] at h
    show ascI (a :: b :: (r ++ [j])) = true
    rw [ascI_cons2, h.1, Bool.true_and]
    exact ascI_snoc (b :: r) j h.2 fun i hi => hh i (List.mem_cons_of_mem _ hi)
theorem ascS_of : ∀ (ss : List Str), sortedS ss = true → ss.Nodup → ascS ss = true
  | [], _, _ => rfl
  | [a], _, _ => rfl
  | a :: b :: r, h, hn => by
    have h' : (!ltCps b.cps.toList a.cps.toList && risingS b r) = true := h
    rw [Bool.and_eq_true] at h'
    have ih := ascS_of (b :: r) h'.2 (List.nodup_cons.mp hn).2
    show (sLt a b && ascS (b :: r)) = true
    rw [ih, Bool.and_true]
    have h1 := h'.1
    rw [ltCps_eq] at h1
    simp at h1
    have hne : a.cps.toList ≠ b.cps.toList := fun e => by
      have : a = b := by
        cases a; cases b
        simp at e
        rw [e]
      have hm := (List.nodup_cons.mp hn).1
      exact hm (by rw [this]; exact List.mem_cons_self)
    unfold sLt
    refine decide_eq_true ?_
    rcases Decidable.em (a.cps.toList < b.cps.toList) with h | h
    · exact h
    · exact absurd (List.le_antisymm (List.not_lt.mp h1) (List.not_lt.mp h)) (by first | exact hne | exact hne.symm)
end DL
end
section
set_option Elab.async false
set_option linter.all false
set_option maxRecDepth 100000
set_option autoImplicit false
set_option maxHeartbeats 1000000
namespace DL
open PySem PySem.Spec PyProof.Rows L2
open PySem.PyData (strOk)
structure CW (D : Dk) (G : DH) (w : Addr) (K : KL) (bn : List Str) (ops : List DV) (m s : Int) (nms : List Str) (deeds lots : List DV) (kvs : List (Key × DV)) : Prop where
  kn : Kn D G w (.dK kvs)
  w4 : W4 kvs (.xt (kindsD K)) (.tup ops) m s
  dd : valD kvs (kS "deeds") = some (.tup deeds)
  ff : valD kvs (kS "firsts") = some (.tup lots)
  bk : BkOk K bn ops
  co : CircOk K m s nms deeds lots
theorem mrg4 (a b c d : DV) : mergeD [] [(kS "kinds", a), (kS "opens", b), (kS "members", c), (kS "states", d)] = [(kS "kinds", a), (kS "opens", b), (kS "members", c), (kS "states", d)] := rfl
theorem w4_0 (a b : DV) (m s : Int) : W4 [(kS "kinds", a), (kS "opens", b), (kS "members", .int m), (kS "states", .int s)] a b m s := ⟨by simp, rfl, rfl, rfl, rfl⟩
theorem thing_K {K : KL} : Thing K TD (sD "K") := by
  have := names4_ok (sO "K") (by decide)
  exact .leaf this.1 this.2.1 this.2.2
theorem books_at {v : DV} (hv : v ∈ [bookD K1 O1, bookD K1 O1, bookD K2 O2]) : ∃ K bn ops, v = .tup [.xt (kindsD K), .tup ops] ∧ BkOk K bn ops := by
  rcases List.mem_cons.mp hv with rfl | hv
  · exact ⟨_, _, _, rfl, bk1⟩
  rcases List.mem_cons.mp hv with rfl | hv
  · exact ⟨_, _, _, rfl, bk1⟩
  rw [List.mem_singleton.mp hv]
  exact ⟨_, _, _, rfl, bk2⟩
abbrev S_circle : DSp := SP (α := Addr × Addr) (fun D x G ds => D = some x ∧ ds = [.ref x.1, .int 3]) (fun D x G v => ∃ w K bn ops m s nms deeds lots kvs, v = .ref w ∧ CW D G w K bn ops m s nms deeds lots kvs)
theorem sv_circle {C : Nat → DSp} (h5 : Has C 5 S_draw) (h7 : Has C 7 S_pick) (h17 : Has C 17 S_books) (h18 : Has C 18 S_words) (h19 : Has C 19 (S_thing 2)) : Serves tabs C f_law_circle S_circle := SP.serves fun D x ds G EX P ok ⟨eD, e⟩ k => by
  obtain ⟨d, l⟩ := x
  dsimp only at eD e k
  subst eD e
  have hsz : sizeLine = 16777216 := rfl
  show denSs tabs C EX _ _ [some _, some _, none, none, none, none, none, none, none, none, none, none, none, none, none, none, none, none] G
  rw [f_law_circle]
  ((first | rw [e_cons] | (dsimp only; rw [e_cons])); try simp only [dZ, dG, boR, coR, bfD, bmD, bmT, wipeD, sizeLine, Nat.reduceAdd, Nat.reducePow, Nat.reduceLeDiff, reduceIte, String.reduceBEq])
  refine SP.use h17 () ok rfl fun v G1 e1 ok1 ⟨bp, hv, kb⟩ => ?_
  subst hv
  (try simp only [dZ, dG, boR, coR, bfD, bmD, bmT, wipeD, sizeLine, Nat.reduceAdd, Nat.reducePow, Nat.reduceLeDiff, reduceIte, String.reduceBEq])
  refine pick_use h7 (.inr ⟨bp, rfl, kb⟩) (by simp) (by simp) ok1 fun v G2 e2 ok2 hv => ?_
  obtain ⟨K, bn, ops, rfl, B⟩ := books_at hv
  have e02 := e1.trans e2
  (try simp only [dZ, dG, boR, coR, bfD, bmD, bmT, wipeD, sizeLine, Nat.reduceAdd, Nat.reducePow, Nat.reduceLeDiff, reduceIte, String.reduceBEq])
  ((first | rw [e_cons] | (dsimp only; rw [e_cons])); try simp only [dZ, dG, boR, coR, bfD, bmD, bmT, wipeD, sizeLine, Nat.reduceAdd, Nat.reducePow, Nat.reduceLeDiff, reduceIte, String.reduceBEq])
  simp only [d_dct, denL, List.zip_cons_cons, List.zip_nil_left, dDisp, dPairs]
  (try simp only [dZ, dG, boR, coR, bfD, bmD, bmT, wipeD, sizeLine, Nat.reduceAdd, Nat.reducePow, Nat.reduceLeDiff, reduceIte, String.reduceBEq])
  intro w hw
  have fw := e02.fresh ok2 hw
  have e3 : Ext (some (d, l)) G2 (updD G2 w (.dK [])) := Ext.new ok2 hw
  have ok3 := e3.d ok2
  have kw : Kn (some (d, l)) (updD G2 w (.dK [])) w (.dK []) := Kn.new ok2 hw
  revert e3 ok3 kw
  generalize updD G2 w (.dK []) = G3
  intro e3 ok3 kw
  refine draw_use h5 (by decide) (by decide) ok3 fun i G4 e4 ok4 i0 i1 => ?_
  (try simp only [dZ, dG, boR, coR, bfD, bmD, bmT, wipeD, sizeLine, Nat.reduceAdd, Nat.reducePow, Nat.reduceLeDiff, reduceIte, String.reduceBEq])
  refine draw_use h5 (by decide) (by decide) ok4 fun j G5 e5 ok5 j0 j1 => ?_
  (try simp only [dZ, dG, boR, coR, bfD, bmD, bmT, wipeD, sizeLine, Nat.reduceAdd, Nat.reducePow, Nat.reduceLeDiff, reduceIte, String.reduceBEq])
  refine ⟨(kw.mono (e4.trans e5)).2, _, rfl, by show 4 ≤ 15; decide, ?_⟩
  rw [mrg4]
  obtain ⟨m, hm⟩ : ∃ m : Nat, 1 + i = (m : Int) := ⟨(1 + i).toNat, by omega⟩
  obtain ⟨s, hs⟩ : ∃ s : Nat, 1 + j = (s : Int) := ⟨(1 + j).toNat, by omega⟩
  rw [hm, hs]
  have m1 : 1 ≤ m := by omega
  have m3 : m ≤ 3 := by omega
  have s1 : 1 ≤ s := by omega
  have s3 : s ≤ 3 := by omega
  have W0 := w4_0 (.xt (kindsD K)) (.tup ops) m s
  have WL0 : ([(kS "kinds", .xt (kindsD K)), (kS "opens", .tup ops), (kS "members", .int m), (kS "states", .int s)] : List (Key × DV)).length ≤ 4 := by simp
  revert W0 WL0
  generalize ([(kS "kinds", .xt (kindsD K)), (kS "opens", .tup ops), (kS "members", .int m), (kS "states", .int s)] : List (Key × DV)) = kv0
  intro W0 WL0
  have e6 : Ext (some (d, l)) G (updD G5 w (.dK kv0)) := (e02.trans (e3.trans (e4.trans e5))).wr ok fw
  have ok6 := e6.d ok
  have kw6 : Kn (some (d, l)) (updD G5 w (.dK kv0)) w (.dK kv0) := (kw.mono (e4.trans e5)).wr
  revert e6 ok6 kw6
  generalize updD G5 w (.dK kv0) = G6
  intro e6 ok6 kw6
  ((first | rw [e_cons] | (dsimp only; rw [e_cons])); try simp only [dZ, dG, boR, coR, bfD, bmD, bmT, wipeD, sizeLine, Nat.reduceAdd, Nat.reducePow, Nat.reduceLeDiff, reduceIte, String.reduceBEq])
  refine NewO.run ok6 fun nl G7 e7 ok7 kn _ => ?_
  ((first | rw [e_cons] | (dsimp only; rw [e_cons])); try simp only [dZ, dG, boR, coR, bfD, bmD, bmT, wipeD, sizeLine, Nat.reduceAdd, Nat.reducePow, Nat.reduceLeDiff, reduceIte, String.reduceBEq])
  refine NewO.run ok7 fun a0 G8 e8 ok8 ka _ => ?_
  refine draw_use h5 (by decide) (by decide) ok8 fun t G9 e9 ok9 t0 t1 => ?_
  (try simp only [dZ, dG, boR, coR, bfD, bmD, bmT, wipeD, sizeLine, Nat.reduceAdd, Nat.reducePow, Nat.reduceLeDiff, reduceIte, String.reduceBEq])
  refine ⟨by omega, by omega, ?_⟩
  refine LcK.run (D := some (d, l)) (fun j l => ∀ x ∈ l, Thing K TD x) ok9 (by rw [rngD_len]; omega) (fun _ _ => by trivial) (by simp) (fun j' l' G3 x e3 ok3 hx hi => ?_) fun b0 G10 rest e10 ok10 kb0 hl _ hi => ?_
  · (try simp only [dZ, dG, boR, coR, bfD, bmD, bmT, wipeD, sizeLine, Nat.reduceAdd, Nat.reducePow, Nat.reduceLeDiff, reduceIte, String.reduceBEq])
    refine fun K1 K2 k1 k2 => SP.use h19 ((d, l), K, bn, ops, nl) ok3 ⟨rfl, rfl, B, kn.mono (e8.trans (e9.trans e3))⟩ fun v G4 e4 ok4 hv => k1 v G4 e4 ok4 fun z hz => ?_
    rcases List.mem_append.mp hz with h | h
    · exact hi z h
    · rw [List.mem_singleton.mp h]; exact hv
  rw [rngD_len] at hl
  have hpool : ∀ x ∈ [sD "K"] ++ rest, Thing K TD x := fun x hx => by
    rcases List.mem_append.mp hx with h | h
    · rw [List.mem_singleton.mp h]; exact thing_K
    · exact hi x h
  have hpl : ([sD "K"] ++ rest).length ≤ 10 := by simp; omega
  have hpn : [sD "K"] ++ rest ≠ [] := by simp
  refine o_addL (ka.mono (e9.trans e10)).2 kb0.2 (by simp; omega) ?_
  revert hpool hpl hpn
  generalize [sD "K"] ++ rest = pool
  intro hpool hpl hpn
  refine NewO.run ok10 fun p G11 e11 ok11 kp fp => ?_
  have e611 := e7.trans (e8.trans (e9.trans (e10.trans e11)))
  have e011 := e6.trans e611
  have kw11 := kw6.mono e611
  have wp : w ≠ p := (kw6.mono (e7.trans (e8.trans (e9.trans e10)))).ne fp
  (try simp only [dZ, dG, boR, coR, bfD, bmD, bmT, wipeD, sizeLine, Nat.reduceAdd, Nat.reducePow, Nat.reduceLeDiff, reduceIte, String.reduceBEq])
  ((first | rw [e_cons] | (dsimp only; rw [e_cons])); try simp only [dZ, dG, boR, coR, bfD, bmD, bmT, wipeD, sizeLine, Nat.reduceAdd, Nat.reducePow, Nat.reduceLeDiff, reduceIte, String.reduceBEq])
  refine NewO.run ok11 fun q G12 e12 ok12 kq fq => ?_
  have wq : w ≠ q := kw11.ne fq
  have pq : p ≠ q := kp.ne fq
  have fq0 := e011.fresh ok11 fq
  refine set_w ok fw (e011.trans e12) (kw11.mono e12) (by omega) fun G13 e13 ok13 kw13 kk13 => ?_
  have kq13 := kk13 _ _ (Ne.symm wq) kq
  have kp13 := kk13 _ _ (Ne.symm wp) (kp.mono e12)
  have W1 := w_put (f := "pool") (v := .ref p) W0 (by omega) (by decide) (by decide) (by decide) (by decide)
  have WL1 : (putD kv0 (kS "pool") (.ref p)).length ≤ 5 := Nat.le_trans putD_len (by omega)
  revert W1 WL1 kw13
  generalize putD kv0 (kS "pool") (.ref p) = kv1
  intro kw13 W1 WL1
  ((first | rw [e_cons] | (dsimp only; rw [e_cons])); try simp only [dZ, dG, boR, coR, bfD, bmD, bmT, wipeD, sizeLine, Nat.reduceAdd, Nat.reducePow, Nat.reduceLeDiff, reduceIte, String.reduceBEq])
  refine draw_use h5 (by decide) (by decide) ok13 fun nw G14 e14 ok14 n0 n1 => ?_
  (try simp only [dZ, dG, boR, coR, bfD, bmD, bmT, wipeD, sizeLine, Nat.reduceAdd, Nat.reducePow, Nat.reduceLeDiff, reduceIte, String.reduceBEq])
  obtain ⟨nw, hnw⟩ : ∃ s : Nat, 1 + nw = (s : Int) := ⟨(1 + nw).toNat, by omega⟩
  rw [hnw]
  refine SP.use h18 ((d, l), nw) ok14 ⟨rfl, rfl, by simp only []; omega⟩ fun v G15 e15 ok15 ⟨wl, ss, hv, kwl, hsl, hnd, hwd⟩ => ?_
  subst hv
  dsimp only at hsl
  unfold dSorted
  refine ⟨wl, ss, rfl, kwl.2, by omega, fun ys r hperm hsort fr => ?_⟩
  have hyl : ys.length ≤ 3 := by rw [hperm.length_eq]; omega
  have hasc : ascS ys = true := ascS_of ys hsort (hperm.nodup_iff.mpr hnd)
  have hyw : ∀ y ∈ ys, isWord y = true ∧ y.length ≤ 8 ∧ strOk y = true := fun y hy => hwd y (hperm.mem_iff.mp hy)
  have e1315 := e14.trans e15
  have St15 : Sts (some (d, l)) G15 [(p, .lst pool), (w, .dK kv1)] := Sts.cons (kp13.mono e1315) (Sts.cons (kw13.mono e1315) (fun _ h => nomatch h))
  have kq15 := kq13.mono e1315
  have rq : q ≠ r := kq15.ne fr
  have hne15 := St15.ne fr
  have e16 : Ext (some (d, l)) G15 (updD G15 r (.lst (ys.map .str))) := Ext.new ok15 fr
  have ok16 := e16.d ok15
  have kr16 : Kn (some (d, l)) (updD G15 r (.lst (ys.map .str))) r (.lst (ys.map .str)) := Kn.new ok15 fr
  revert e16 ok16 kr16
  generalize updD G15 r (.lst (ys.map .str)) = G16
  intro e16 ok16 kr16
  have e016 := e13.trans (e1315.trans e16)
  have St : Sts (some (d, l)) G16 [(r, .lst (ys.map .str)), (p, .lst pool), (w, .dK kv1)] := Sts.cons kr16 (St15.mono e16)
  have stq : ∀ x ∈ [(r, DO.lst (ys.map .str)), (p, .lst pool), (w, .dK kv1)], x.1 ≠ q := fun x hx => by
    rcases List.mem_cons.mp hx with rfl | hx
    · exact Ne.symm rq
    rcases List.mem_cons.mp hx with rfl | hx
    · exact pq
    rw [List.mem_singleton.mp hx]; exact wq
  refine ⟨_, it_kn kr16 G16 (Ext.refl _ _), ?_⟩
  refine ForK.run (fun i τ' G' => ∃ c5 c11 c12 c13 c14 c15 c16 c17, ∃ acc : List DV, τ' = [some (.ref d), some (.int 3), some (.ref w), some (.ref nl), some (.ref p), c5, none, none, some (.xt (kindsD K)), some (.tup ops), some (.ref q), c11, c12, c13, c14, c15, c16, c17] ∧ Ext (some (d, l)) G G' ∧ okD (some (d, l)) G' ∧ Sts (some (d, l)) G' [(r, .lst (ys.map .str)), (p, .lst pool), (w, .dK kv1)] ∧ Kn (some (d, l)) G' q (.lst acc) ∧ acc.length = i ∧ i ≤ ys.length ∧ ∀ x ∈ (ys.take i).zip acc, DeedOk K m s x.1 x.2) ⟨_, _, _, _, _, _, _, _, [], rfl, e016, ok16, St, kq15.mono e16, rfl, Nat.zero_le _, by simp⟩ (fun _ _ G' ⟨_, _, _, _, _, _, _, _, _, _, _, _, st, _⟩ => it_kn st.hd G' (Ext.refl _ _)) (fun i τ' G' x hx ⟨c5, c11, c12, c13, c14, c15, c16, c17, acc, eτ, e', ok', st, kq, ha, hi, hd⟩ => ?_) fun τ' G' ⟨c5, c11, c12, c13, c14, c15, c16, c17, acc, eτ, e', ok', st, kq, ha, hi, hd⟩ => ?_
  · obtain ⟨nm, rfl, hnm, hat⟩ := at_map hx
    have hi2 : i < ys.length := (List.getElem?_eq_some_iff.mp hat).1
    subst eτ
    have kp' := st.tl.hd
    have kw' := st.tl.tl.hd
    (try simp only [dZ, dG, boR, coR, bfD, bmD, bmT, wipeD, sizeLine, Nat.reduceAdd, Nat.reducePow, Nat.reduceLeDiff, reduceIte, String.reduceBEq])
    ((first | rw [e_cons] | (dsimp only; rw [e_cons])); try simp only [dZ, dG, boR, coR, bfD, bmD, bmT, wipeD, sizeLine, Nat.reduceAdd, Nat.reducePow, Nat.reduceLeDiff, reduceIte, String.reduceBEq])
    -- need
    have hlen2 : (cutD pool none (some 1)).length ≤ 10 := Nat.le_trans (cut_le _ _ _) hpl
    have hlen3 : (cutD pool (some (-1)) none).length ≤ 10 := Nat.le_trans (cut_le _ _ _) hpl
    refine NewO.run ok' fun n1 H1 f1 o1 k1 _ => ?_
    rw [o_slL (kp'.mono f1).2]
    refine NewO.run o1 fun n2 H2 f2 o2 k2 _ => ?_
    refine o_addL (k1.mono f2).2 k2.2 (by simp; omega) ?_
    refine NewO.run o2 fun n3 H3 f3 o3 k3 _ => ?_
    rw [o_slL (kp'.mono (f1.trans (f2.trans f3))).2]
    refine NewO.run o3 fun n4 H4 f4 o4 k4 _ => ?_
    refine o_addL (k3.mono f4).2 k4.2 (by simp; omega) ?_
    refine NewO.run o4 fun n5 H5 f5 o5 k5 _ => ?_
    refine pick_use h7 (.inr ⟨n5, rfl, k5⟩) (by simp) (by simp; omega) o5 fun need H6 f6 o6 hneed => ?_
    have hneed2 : need = .non ∨ Thing K TD need := by
      rcases List.mem_append.mp hneed with h | h
      · rcases List.mem_append.mp h with h | h
        · left; simpa using h
        · exact .inr (hpool _ (cut_sub _ h))
      · exact .inr (hpool _ (cut_sub _ h))
    (try simp only [dZ, dG, boR, coR, bfD, bmD, bmT, wipeD, sizeLine, Nat.reduceAdd, Nat.reducePow, Nat.reduceLeDiff, reduceIte, String.reduceBEq])
    refine NewO.run o6 fun mv H7 f7 o7 kmv fmv => ?_
    have f06 := f1.trans (f2.trans (f3.trans (f4.trans (f5.trans f6))))
    have e6' := e'.trans f06
    have st6 := st.mono f06
    have kq6 := kq.mono f06
    have fmv0 := e6'.fresh o6 fmv
    have qmv : q ≠ mv := kq6.ne fmv
    have stmv := st6.ne fmv
    (try simp only [dZ, dG, boR, coR, bfD, bmD, bmT, wipeD, sizeLine, Nat.reduceAdd, Nat.reducePow, Nat.reduceLeDiff, reduceIte, String.reduceBEq])
    ((first | rw [e_cons] | (dsimp only; rw [e_cons])); try simp only [dZ, dG, boR, coR, bfD, bmD, bmT, wipeD, sizeLine, Nat.reduceAdd, Nat.reducePow, Nat.reduceLeDiff, reduceIte, String.reduceBEq])
    refine ix_w (st6.mono f7).tl.tl.hd W1.s ?_
    (try simp only [dZ, dG, boR, coR, bfD, bmD, bmT, wipeD, sizeLine, Nat.reduceAdd, Nat.reducePow, Nat.reduceLeDiff, reduceIte, String.reduceBEq])
    refine ⟨by omega, by omega, ?_⟩
    refine ForK.run (fun j τ' G' => ∃ c11 c14 c15 c16 c17, ∃ macc : List DV, τ' = [some (.ref d), some (.int 3), some (.ref w), some (.ref nl), some (.ref p), some (.str nm), none, none, some (.xt (kindsD K)), some (.tup ops), some (.ref q), c11, some need, some (.ref mv), c14, c15, c16, c17] ∧ Ext (some (d, l)) G G' ∧ okD (some (d, l)) G' ∧ Sts (some (d, l)) G' [(r, .lst (ys.map .str)), (p, .lst pool), (w, .dK kv1)] ∧ Kn (some (d, l)) G' q (.lst acc) ∧ Kn (some (d, l)) G' mv (.lst macc) ∧ macc.length = j ∧ j ≤ s ∧ ∀ x ∈ macc, MoveOk K m s x) ⟨_, _, _, _, _, [], rfl, e6'.trans f7, o7, st6.mono f7, kq6.mono f7, kmv, rfl, Nat.zero_le _, by simp⟩ (fun _ _ _ _ => by trivial) (fun j τ' G' x hx ⟨c11, c14, c15, c16, c17, macc, eτ, e', ok', st, kq, kmv, hma, hmj, hmo⟩ => ?_) fun τ' G' ⟨c11, c14, c15, c16, c17, macc, eτ, e', ok', st, kq, kmv, hma, hmj, hmo⟩ => ?_
    · obtain ⟨rfl, hj2⟩ := rng_at hx
      rw [Int.toNat_natCast] at hj2
      subst eτ
      (try simp only [dZ, dG, boR, coR, bfD, bmD, bmT, wipeD, sizeLine, Nat.reduceAdd, Nat.reducePow, Nat.reduceLeDiff, reduceIte, String.reduceBEq])
      ((first | rw [e_cons] | (dsimp only; rw [e_cons])); try simp only [dZ, dG, boR, coR, bfD, bmD, bmT, wipeD, sizeLine, Nat.reduceAdd, Nat.reducePow, Nat.reduceLeDiff, reduceIte, String.reduceBEq])
      refine ix_w st.tl.tl.hd W1.s ?_
      (try simp only [dZ, dG, boR, coR, bfD, bmD, bmT, wipeD, sizeLine, Nat.reduceAdd, Nat.reducePow, Nat.reduceLeDiff, reduceIte, String.reduceBEq])
      refine draw_use h5 (by omega) (by omega) ok' fun there H1 f1 o1 t0 t1 => ?_
      (try simp only [dZ, dG, boR, coR, bfD, bmD, bmT, wipeD, sizeLine, Nat.reduceAdd, Nat.reducePow, Nat.reduceLeDiff, reduceIte, String.reduceBEq])
      refine draw_use h5 (by decide) (by decide) o1 fun way H2 f2 o2 w0 w1 => ?_
      (try simp only [dZ, dG, boR, coR, bfD, bmD, bmT, wipeD, sizeLine, Nat.reduceAdd, Nat.reducePow, Nat.reduceLeDiff, reduceIte, String.reduceBEq])
      have st2 := st.mono (f1.trans f2)
      ((first | rw [e_cons] | (dsimp only; rw [e_cons])); try simp only [dZ, dG, boR, coR, bfD, bmD, bmT, wipeD, sizeLine, Nat.reduceAdd, Nat.reducePow, Nat.reduceLeDiff, reduceIte, String.reduceBEq])
      refine ix_w st2.tl.tl.hd W1.m ?_
      (try simp only [dZ, dG, boR, coR, bfD, bmD, bmT, wipeD, sizeLine, Nat.reduceAdd, Nat.reducePow, Nat.reduceLeDiff, reduceIte, String.reduceBEq])
      refine ⟨by omega, by omega, ?_⟩
      refine LcK.run (D := some (d, l)) (fun j l => ∃ is : List Int, l = is.map .int ∧ (∀ i ∈ is, 0 ≤ i ∧ i < (j : Int)) ∧ ascI is = true ∧ is.length ≤ j) o2 (by rw [rngD_len]; omega) (fun _ _ => by trivial) ⟨[], rfl, by simp, rfl, Nat.le_refl 0⟩ (fun j' l' G3 x e3 ok3 hx ⟨is, el, hi, has, hl⟩ => ?_) fun sm H3 l' f3 o3 ksm _ _ ⟨is, el, hi, has, hl⟩ => ?_
      · obtain ⟨rfl, hj3⟩ := rng_at hx
        (try simp only [dZ, dG, boR, coR, bfD, bmD, bmT, wipeD, sizeLine, Nat.reduceAdd, Nat.reducePow, Nat.reduceLeDiff, reduceIte, String.reduceBEq])
        refine fun K1 K2 k1 k2 => draw_use h5 (by decide) (by decide) ok3 fun z G4 e4 ok4 z0 z1 => ?_
        refine o_eqI ?_
        (try simp only [dZ, dG, boR, coR, bfD, bmD, bmT, wipeD, sizeLine, Nat.reduceAdd, Nat.reducePow, Nat.reduceLeDiff, reduceIte, String.reduceBEq])
        split
        · refine k1 _ G4 e4 ok4 ⟨is ++ [0 + (j' : Int)], by rw [el, List.map_append]; rfl, fun i' hi' => ?_, ascI_snoc is _ has fun i' hi' => by have := hi i' hi'; omega, by rw [List.length_append, List.length_singleton]; omega⟩
          rcases List.mem_append.mp hi' with h | h
          · have := hi i' h; omega
          · rw [List.mem_singleton.mp h]; omega
        · exact k2 G4 e4 ok4 ⟨is, el, fun i' hi' => by have := hi i' hi'; omega, has, by omega⟩
      rw [rngD_len, Int.toNat_natCast] at hi hl
      subst el
      have st3 := st2.mono f3
      have kmv3 := kmv.mono (f1.trans (f2.trans f3))
      have kq3 := kq.mono (f1.trans (f2.trans f3))
      have e03 := e'.trans (f1.trans (f2.trans f3))
      have fin : ∀ (sh : DV) (G4 : DH), Ext (some (d, l)) H3 G4 → okD (some (d, l)) G4 → ShowOk K m sh → ∀ (P : DK), (∀ v G5, Ext (some (d, l)) G G5 → okD (some (d, l)) G5 → Sts (some (d, l)) G5 [(r, .lst (ys.map .str)), (p, .lst pool), (w, .dK kv1)] → Kn (some (d, l)) G5 q (.lst acc) → (∃ mo, Kn (some (d, l)) G5 mv (.lst (macc ++ [mo])) ∧ MoveOk K m s mo) → P v G5) → den tabs C EX (.bm .append (.v 13) [.ite (.cmp .gt (.v 17) (.int 0)) (.tup [.v 16, .v 15]) .non]) [some (.ref d), some (.int 3), some (.ref w), some (.ref nl), some (.ref p), some (.str nm), none, none, some (.xt (kindsD K)), some (.tup ops), some (.ref q), some (.int (0 + (j : Nat) : Int)), some need, some (.ref mv), some (.ref sm), some sh, some (.int there), some (.int way)] G4 P := fun sh G4 e4 ok4 hsh P kP => by
        (try simp only [dZ, dG, boR, coR, bfD, bmD, bmT, wipeD, sizeLine, Nat.reduceAdd, Nat.reducePow, Nat.reduceLeDiff, reduceIte, String.reduceBEq])
        refine ⟨ty_lst (kmv3.mono e4), ?_⟩
        split
        · refine app_step ok fmv0 (e03.trans e4) (kmv3.mono e4) (by omega) fun G5 e5 ok5 k5 kk5 => ?_
          exact kP _ G5 e5 ok5 ((st3.mono e4).keep (stmv) kk5) (kk5 _ _ qmv (kq3.mono e4)) ⟨_, k5, .inr ⟨there, sh, rfl, t0, t1, hsh⟩⟩
        · refine app_step ok fmv0 (e03.trans e4) (kmv3.mono e4) (by omega) fun G5 e5 ok5 k5 kk5 => ?_
          exact kP _ G5 e5 ok5 ((st3.mono e4).keep (stmv) kk5) (kk5 _ _ qmv (kq3.mono e4)) ⟨_, k5, .inl rfl⟩
      rw [e_cons, s_asg]
      have shw : ∀ (P : DK), (∀ sh G4, Ext (some (d, l)) H3 G4 → okD (some (d, l)) G4 → ShowOk K m sh → P sh G4) → den tabs C EX (.ite (.and [.cmp .ne (.v 14) (.lst []), .cmp .gt (.v 17) (.int 1)]) (.tup [.call "_law_pick" 7 2 [.v 0, .v 4], .bf .tuple [.v 14]]) .non) [some (.ref d), some (.int 3), some (.ref w), some (.ref nl), some (.ref p), some (.str nm), none, none, some (.xt (kindsD K)), some (.tup ops), some (.ref q), some (.int (0 + (j : Nat) : Int)), some need, some (.ref mv), some (.ref sm), c15, some (.int there), some (.int way)] H3 P := fun P kP => by
        (try simp only [dZ, dG, boR, coR, bfD, bmD, bmT, wipeD, sizeLine, Nat.reduceAdd, Nat.reducePow, Nat.reduceLeDiff, reduceIte, String.reduceBEq])
        refine NewO.run o3 fun z H4 f4 o4 kz _ => ?_
        refine o_neLE (ksm.mono f4).2 kz.2 (fun y hy => ?_) ?_
        · obtain ⟨i, _, rfl⟩ := List.mem_map.mp hy
          exact PDk.int
        refine ⟨_, rfl, ?_⟩
        cases hie : (is.map DV.int).isEmpty with
        | true => (try simp only [dZ, dG, boR, coR, bfD, bmD, bmT, wipeD, sizeLine, Nat.reduceAdd, Nat.reducePow, Nat.reduceLeDiff, reduceIte, String.reduceBEq]); exact kP _ H4 f4 o4 (.inl rfl)
        | false =>
          (try simp only [dZ, dG, boR, coR, bfD, bmD, bmT, wipeD, sizeLine, Nat.reduceAdd, Nat.reducePow, Nat.reduceLeDiff, reduceIte, String.reduceBEq])
          split
          · refine pick_use h7 (.inr ⟨p, rfl, (st3.mono f4).tl.hd⟩) hpn (by omega) o4 fun t H5 f5 o5 ht => ?_
            rw [o_tupO (seq_kn (ksm.mono (f4.trans f5)))]
            (try simp only [dZ, dG, boR, coR, bfD, bmD, bmT, wipeD, sizeLine, Nat.reduceAdd, Nat.reducePow, Nat.reduceLeDiff, reduceIte, String.reduceBEq])
            refine kP _ H5 (f4.trans f5) o5 (.inr ⟨t, is, rfl, hpool t ht, fun e => ?_, by omega, fun i' hi' => by have := hi i' hi'; omega, has⟩)
            rw [e] at hie; cases hie
          · exact kP _ H4 f4 o4 (.inl rfl)
      refine shw _ fun sh G4 e4 ok4 hsh => ?_
      (try simp only [dZ, dG, boR, coR, bfD, bmD, bmT, wipeD, sizeLine, Nat.reduceAdd, Nat.reducePow, Nat.reduceLeDiff, reduceIte, String.reduceBEq])
      rw [e_cons, s_expr]
      refine fin sh G4 e4 ok4 hsh _ fun v G5 e5 ok5 st5 kq5 ⟨mo, k5, hmo5⟩ => ?_
      (first | (rw [e_nil]; try dsimp only) | (dsimp only; rw [e_nil]; try dsimp only))
      refine ⟨_, _, _, _, _, macc ++ [mo], rfl, e5, ok5, st5, kq5, k5, by rw [List.length_append, hma]; rfl, hj2, fun x hx => ?_⟩
      rcases List.mem_append.mp hx with h | h
      · exact hmo x h
      · rw [List.mem_singleton.mp h]; exact hmo5
    · subst eτ
      rw [rngD_len, Int.toNat_natCast] at hma
      ((first | rw [e_cons] | (dsimp only; rw [e_cons])); try simp only [dZ, dG, boR, coR, bfD, bmD, bmT, wipeD, sizeLine, Nat.reduceAdd, Nat.reducePow, Nat.reduceLeDiff, reduceIte, String.reduceBEq])
      refine ⟨ty_lst kq, ?_⟩
      refine ix_w st.tl.tl.hd W1.m ?_
      (try simp only [dZ, dG, boR, coR, bfD, bmD, bmT, wipeD, sizeLine, Nat.reduceAdd, Nat.reducePow, Nat.reduceLeDiff, reduceIte, String.reduceBEq])
      refine draw_use h5 (by omega) (by omega) ok' fun ow H1 f1 o1 w0 w1 => ?_
      (try simp only [dZ, dG, boR, coR, bfD, bmD, bmT, wipeD, sizeLine, Nat.reduceAdd, Nat.reducePow, Nat.reduceLeDiff, reduceIte, String.reduceBEq])
      rw [o_tupO (seq_kn (kmv.mono f1))]
      (try simp only [dZ, dG, boR, coR, bfD, bmD, bmT, wipeD, sizeLine, Nat.reduceAdd, Nat.reducePow, Nat.reduceLeDiff, reduceIte, String.reduceBEq])
      refine app_step ok fq0 (e'.trans f1) (kq.mono f1) (by omega) fun H2 f2 o2 k2 kk2 => ?_
      (first | (rw [e_nil]; try dsimp only) | (dsimp only; rw [e_nil]; try dsimp only))
      have hyi := hyw nm hnm
      refine ⟨_, _, _, _, _, _, _, _, acc ++ [.tup [.str nm, .int ow, need, .tup macc]], rfl, f2, o2, (st.mono f1).keep stq kk2, k2, by rw [List.length_append, ha]; rfl, hi2, fun x hx => ?_⟩
      rw [List.take_succ, hat] at hx
      rw [List.zip_append (by rw [List.length_take]; omega)] at hx
      rcases List.mem_append.mp hx with h | h
      · exact hd x h
      · rw [show (some nm).toList.zip [DV.tup [.str nm, .int ow, need, .tup macc]] = [(nm, DV.tup [.str nm, .int ow, need, .tup macc])] from rfl] at h
        rw [List.mem_singleton.mp h]
        exact ⟨⟨ow, need, macc, rfl, w0, w1, hneed2, by omega, by omega, hmo⟩, hyi.1, by show nm.length ≤ 100; omega, hyi.2.2⟩
  · subst eτ
    rw [List.length_map] at ha hi hd
    rw [List.take_length] at hd
    have kw' := st.tl.tl.hd
    ((first | rw [e_cons] | (dsimp only; rw [e_cons])); try simp only [dZ, dG, boR, coR, bfD, bmD, bmT, wipeD, sizeLine, Nat.reduceAdd, Nat.reducePow, Nat.reduceLeDiff, reduceIte, String.reduceBEq])
    rw [o_tupO (seq_kn kq)]
    refine set_w ok fw e' kw' (by omega) fun G1 e1 ok1 kw1 kk1 => ?_
    have kp1 := kk1 _ _ (Ne.symm wp) st.tl.hd
    have W2 := w_put (f := "deeds") (v := .tup acc) W1 (by omega) (by decide) (by decide) (by decide) (by decide)
    have WL2 : (putD kv1 (kS "deeds") (.tup acc)).length ≤ 6 := Nat.le_trans putD_len (by omega)
    have D2 : valD (putD kv1 (kS "deeds") (.tup acc)) (kS "deeds") = some (.tup acc) := by rw [valD_put, if_pos rfl]
    revert kw1 W2 WL2 D2
    generalize putD kv1 (kS "deeds") (.tup acc) = kv2
    intro kw1 W2 WL2 D2
    ((first | rw [e_cons] | (dsimp only; rw [e_cons])); try simp only [dZ, dG, boR, coR, bfD, bmD, bmT, wipeD, sizeLine, Nat.reduceAdd, Nat.reducePow, Nat.reduceLeDiff, reduceIte, String.reduceBEq])
    refine NewO.run ok1 fun u G2 e2 ok2 ku fu => ?_
    have fu0 := e1.fresh ok1 fu
    have wu : w ≠ u := kw1.ne fu
    have pu : p ≠ u := kp1.ne fu
    (try simp only [dZ, dG, boR, coR, bfD, bmD, bmT, wipeD, sizeLine, Nat.reduceAdd, Nat.reducePow, Nat.reduceLeDiff, reduceIte, String.reduceBEq])
    ((first | rw [e_cons] | (dsimp only; rw [e_cons])); try simp only [dZ, dG, boR, coR, bfD, bmD, bmT, wipeD, sizeLine, Nat.reduceAdd, Nat.reducePow, Nat.reduceLeDiff, reduceIte, String.reduceBEq])
    refine ix_w (kw1.mono e2) W2.m ?_
    (try simp only [dZ, dG, boR, coR, bfD, bmD, bmT, wipeD, sizeLine, Nat.reduceAdd, Nat.reducePow, Nat.reduceLeDiff, reduceIte, String.reduceBEq])
    refine ⟨by omega, by omega, ?_⟩
    refine ForK.run (fun j τ' G' => ∃ c7 c11, ∃ lots : List DV, τ' = [some (.ref d), some (.int 3), some (.ref w), some (.ref nl), some (.ref p), c5, some (.ref u), c7, some (.xt (kindsD K)), some (.tup ops), some (.ref q), c11, c12, c13, c14, c15, c16, c17] ∧ Ext (some (d, l)) G G' ∧ okD (some (d, l)) G' ∧ Kn (some (d, l)) G' p (.lst pool) ∧ Kn (some (d, l)) G' w (.dK kv2) ∧ Kn (some (d, l)) G' u (.lst lots) ∧ lots.length = j ∧ j ≤ m ∧ ∀ x ∈ lots, LotOk K x) ⟨_, _, [], rfl, e1.trans e2, ok2, kp1.mono e2, kw1.mono e2, ku, rfl, Nat.zero_le _, by simp⟩ (fun _ _ _ _ => by trivial) (fun j τ' G' x hx ⟨c7, c11, lots, eτ, e', ok', kp', kw', ku, hma, hmj, hmo⟩ => ?_) fun τ' G' ⟨c7, c11, lots, eτ, e', ok', kp', kw', ku, hma, hmj, hmo⟩ => ?_
    · obtain ⟨rfl, hj2⟩ := rng_at hx
      rw [Int.toNat_natCast] at hj2
      subst eτ
      (try simp only [dZ, dG, boR, coR, bfD, bmD, bmT, wipeD, sizeLine, Nat.reduceAdd, Nat.reducePow, Nat.reduceLeDiff, reduceIte, String.reduceBEq])
      ((first | rw [e_cons] | (dsimp only; rw [e_cons])); try simp only [dZ, dG, boR, coR, bfD, bmD, bmT, wipeD, sizeLine, Nat.reduceAdd, Nat.reducePow, Nat.reduceLeDiff, reduceIte, String.reduceBEq])
      refine ⟨ty_lst ku, ?_⟩
      refine draw_use h5 (by decide) (by decide) ok' fun z H1 f1 o1 z0 z1 => ?_
      (try simp only [dZ, dG, boR, coR, bfD, bmD, bmT, wipeD, sizeLine, Nat.reduceAdd, Nat.reducePow, Nat.reduceLeDiff, reduceIte, String.reduceBEq])
      refine ⟨by omega, by omega, ?_⟩
      refine LcK.run (D := some (d, l)) (fun j l => l.length = j ∧ ∀ x ∈ l, Thing K TD x) o1 (by rw [rngD_len]; omega) (fun _ _ => by trivial) ⟨rfl, by simp⟩ (fun j' l' G3 x e3 ok3 hx ⟨hl, hi⟩ => ?_) fun sm H3 l' f3 o3 ksm _ _ ⟨hl, hi⟩ => ?_
      · (try simp only [dZ, dG, boR, coR, bfD, bmD, bmT, wipeD, sizeLine, Nat.reduceAdd, Nat.reducePow, Nat.reduceLeDiff, reduceIte, String.reduceBEq])
        refine fun K1 K2 k1 k2 => pick_use h7 (.inr ⟨p, rfl, kp'.mono (f1.trans e3)⟩) hpn (by omega) ok3 fun t H5 f5 o5 ht => k1 _ H5 f5 o5 ⟨by rw [List.length_append, hl]; rfl, fun y hy => ?_⟩
        rcases List.mem_append.mp hy with h | h
        · exact hi y h
        · rw [List.mem_singleton.mp h]; exact hpool t ht
      rw [rngD_len] at hl
      rw [o_tupO (seq_kn ksm)]
      refine app_step ok fu0 (e'.trans (f1.trans f3)) (ku.mono (f1.trans f3)) (by omega) fun H4 f4 o4 k4 kk4 => ?_
      (first | (rw [e_nil]; try dsimp only) | (dsimp only; rw [e_nil]; try dsimp only))
      refine ⟨_, _, lots ++ [.tup l'], rfl, f4, o4, kk4 _ _ pu (kp'.mono (f1.trans f3)), kk4 _ _ wu (kw'.mono (f1.trans f3)), k4, by rw [List.length_append, hma]; rfl, hj2, fun y hy => ?_⟩
      rcases List.mem_append.mp hy with h | h
      · exact hmo y h
      · rw [List.mem_singleton.mp h]; exact ⟨l', rfl, by omega, hi⟩
    · subst eτ
      rw [rngD_len, Int.toNat_natCast] at hma
      ((first | rw [e_cons] | (dsimp only; rw [e_cons])); try simp only [dZ, dG, boR, coR, bfD, bmD, bmT, wipeD, sizeLine, Nat.reduceAdd, Nat.reducePow, Nat.reduceLeDiff, reduceIte, String.reduceBEq])
      rw [o_tupO (seq_kn ku)]
      refine set_w ok fw e' kw' (by omega) fun G3 e3 ok3 kw3 _ => ?_
      ((first | rw [e_cons] | (dsimp only; rw [e_cons])); try simp only [dZ, dG, boR, coR, bfD, bmD, bmT, wipeD, sizeLine, Nat.reduceAdd, Nat.reducePow, Nat.reduceLeDiff, reduceIte, String.reduceBEq])
      refine k _ _ e3 ok3 ⟨w, K, bn, ops, m, s, ys, acc, lots, _, rfl, ⟨kw3, w_put W2 (by omega) (by decide) (by decide) (by decide) (by decide), by rw [valD_put, if_neg (kS_ne (by decide))]; exact D2, by rw [valD_put, if_pos rfl], B, ⟨by omega, by omega, by omega, by omega, hasc, ha.symm, hd, by omega, by omega, hmo⟩⟩⟩
end DL
end
section
set_option Elab.async false
set_option linter.all false
set_option maxRecDepth 100000
set_option autoImplicit false
set_option maxHeartbeats 1000000
namespace DL
open PySem PySem.Spec PyProof.Rows L2
open PySem.PyData (strOk)
/-! the circle of the program -/
abbrev S_code : DSp := SP (α := Addr × KL × List Str × List DV × Int × Int × List Str × List DV × List DV × List (Key × DV)) (fun D x G ds => ds = [.ref x.1] ∧ CW D G x.1 x.2.1 x.2.2.1 x.2.2.2.1 x.2.2.2.2.1 x.2.2.2.2.2.1 x.2.2.2.2.2.2.1 x.2.2.2.2.2.2.2.1 x.2.2.2.2.2.2.2.2.1 x.2.2.2.2.2.2.2.2.2) (fun D x G v => ∃ c, v = .ref c ∧ CircleK D G c x.2.2.2.2.2.2.1)
theorem sv_code {C : Nat → DSp} (h20 : Has C 20 S_Circle) (h21 : Has C 21 S_Book) : Serves tabs C f_law_code S_code := SP.serves fun D x ds G EX P ok ⟨e, W⟩ k => by
  obtain ⟨w, K, bn, ops, m, s, nms, deeds, lots, kvs⟩ := x
  dsimp only at e W k
  subst e
  show denSs tabs C EX _ _ [some _] G
  rw [f_law_code]
  ((first | rw [e_cons] | (dsimp only; rw [e_cons])); try simp only [dZ, dG, boR, coR, bfD, bmD, bmT, wipeD, sizeLine, Nat.reduceAdd, Nat.reducePow, Nat.reduceLeDiff, reduceIte, String.reduceBEq])
  refine ix_w W.kn W.w4.k ?_
  refine ix_w W.kn W.w4.o ?_
  refine SPI.use h21 (K, bn, ops) ok rfl ⟨rfl, W.bk.k, W.bk.ol, W.bk.asc, W.bk.nl, W.bk.op⟩ fun b G1 e1 ok1 kb => ?_
  have k1 := W.kn.mono e1
  refine ix_w k1 W.w4.m ?_
  (try simp only [dZ, dG, boR, coR, bfD, bmD, bmT, wipeD, sizeLine, Nat.reduceAdd, Nat.reducePow, Nat.reduceLeDiff, reduceIte, String.reduceBEq])
  refine ix_w k1 W.w4.s ?_
  (try simp only [dZ, dG, boR, coR, bfD, bmD, bmT, wipeD, sizeLine, Nat.reduceAdd, Nat.reducePow, Nat.reduceLeDiff, reduceIte, String.reduceBEq])
  refine ix_w k1 W.dd ?_
  (try simp only [dZ, dG, boR, coR, bfD, bmD, bmT, wipeD, sizeLine, Nat.reduceAdd, Nat.reducePow, Nat.reduceLeDiff, reduceIte, String.reduceBEq])
  refine ix_w k1 W.ff ?_
  (try simp only [dZ, dG, boR, coR, bfD, bmD, bmT, wipeD, sizeLine, Nat.reduceAdd, Nat.reducePow, Nat.reduceLeDiff, reduceIte, String.reduceBEq])
  exact SPI.use h20 (b, K, m, s, nms, deeds, lots) ok1 rfl ⟨rfl, kb, W.co⟩ fun c G2 e2 ok2 kc => k _ _ (e1.trans e2) ok2 ⟨c, rfl, kc⟩
/-! values near a watcher -/
section
variable {D : Dk} {G : DH} {n : Nat}
theorem dT {xs : List DV} (hl : xs.length ≤ 1000000) (h : ∀ x ∈ xs, Dat D G n x) : Dat D G (n + 1) (.tup xs) := .tup (by have : sizeLine = 16777216 := rfl; omega) h
theorem m3 {Q : DV → Prop} {A B : List DV} {y : DV} (hA : ∀ x ∈ A, Q x) (hy : Q y) (hB : ∀ x ∈ B, Q x) : ∀ x ∈ A ++ [y] ++ B, Q x := fun x hx => by
  rcases List.mem_append.mp hx with h | h
  · rcases List.mem_append.mp h with h | h
    · exact hA x h
    · rw [List.mem_singleton.mp h]; exact hy
  · exact hB x h
theorem m2 {Q : DV → Prop} {A B : List DV} (hA : ∀ x ∈ A, Q x) (hB : ∀ x ∈ B, Q x) : ∀ x ∈ A ++ B, Q x := fun x hx => (List.mem_append.mp hx).elim (hA x) (hB x)
theorem m1 {Q : DV → Prop} {y : DV} (hy : Q y) : ∀ x ∈ [y], Q x := fun x hx => by rw [List.mem_singleton.mp hx]; exact hy
theorem mc {Q : DV → Prop} {y : DV} {B : List DV} (hy : Q y) (hB : ∀ x ∈ B, Q x) : ∀ x ∈ y :: B, Q x := fun x hx => by
  rcases List.mem_cons.mp hx with rfl | h
  · exact hy
  · exact hB x h
theorem m0 {Q : DV → Prop} : ∀ x ∈ ([] : List DV), Q x := fun x hx => nomatch hx
theorem dI {is : List Int} : ∀ x ∈ is.map DV.int, Dat D G n x := fun x hx => by
  obtain ⟨i, _, rfl⟩ := List.mem_map.mp hx
  exact .int
end
theorem NewO.runQ {D : Dk} {G : DH} {P : DK} {xs : List DV} (Q : DH → DV → Prop) (N : Nat) (ok : okD D G) (hQ : ∀ G2, Ext D G G2 → okD D G2 → ∀ x ∈ xs, Q G2 x) (hl : xs.length ≤ N) (k : ∀ p G2 ys, Ext D G G2 → okD D G2 → Kn D G2 p (.lst ys) → (∀ x ∈ ys, Q G2 x) → ys.length ≤ N → ys.length = xs.length → P (.ref p) G2) : NewO (.lst xs) G P :=
  NewO.run ok fun p G2 e2 ok2 kn _ => k p G2 xs e2 ok2 kn (hQ G2 e2 ok2) hl rfl
theorem LcK.mapQ {D : Dk} {xs : List DV} {live : DH → Prop} {tg : Tg} {τ : DSt} {G : DH} {tt : DTT} {te : DTE} {vs : List Nat} {P : DK} (Q : DH → DV → Prop) (f : DV → DV) (ok : okD D G) (hl : xs.length < sizeLine) (lv : ∀ G', Ext D G G' → live G')
    (hs : ∀ x ∈ xs, ∃ τ2, asgD tg x (wipeD τ vs) = some τ2 ∧ ∀ G1, Ext D G G1 → okD D G1 → ∀ (K1 : DV → DH → Prop) (K2 : DH → Prop), (∀ G4, Ext D G1 G4 → okD D G4 → K1 (f x) G4) → tt τ2 G1 fun b G3 => if b = true then te τ2 G3 K1 else K2 G3)
    (hQ : ∀ G2, Ext D G G2 → okD D G2 → ∀ x ∈ xs, Q G2 (f x))
    (k : ∀ p G2 ys, Ext D G G2 → okD D G2 → Kn D G2 p (.lst ys) → (∀ y ∈ ys, Q G2 y) → ys.length ≤ xs.length → P (.ref p) G2) : LcK xs live tg tt te vs τ G P :=
  LcK.map (D := D) f (fun _ => true) ok hl lv (fun x hx => let ⟨τ2, h1, h2⟩ := hs x hx; ⟨τ2, h1, fun G1 e1 ok1 K1 K2 k1 _ => h2 G1 e1 ok1 K1 K2 fun G4 e4 ok4 => k1 G4 e4 ok4 rfl⟩)
    fun p G2 e2 ok2 kn _ => k p G2 _ e2 ok2 kn (fun y hy => by
      rw [List.filter_eq_self.mpr (fun _ _ => rfl)] at hy
      obtain ⟨x, hx, rfl⟩ := List.mem_map.mp hy
      exact hQ G2 e2 ok2 x hx) (by rw [List.length_map]; exact List.length_filter_le _ _)
theorem pD {D : Dk} {G : DH} {n : Nat} {a b : DV} (ha : Dat D G n a) (hb : Dat D G n b) : Dat D G (n + 1) (.tup [a, b]) := dT (by simp) (mc ha (m1 hb))
theorem w20 {D : Dk} {G : DH} {n : Nat} {x : DV} (l : n ≤ 20) (h : Dat D G n x) : WX D G x := .inl (h.up l)
theorem ofS_ok (s : String) : strOk (Str.ofString s) = true := by
  unfold PySem.PyData.strOk
  rw [Str.ofString_eq_toList, ← Array.all_toList, List.all_eq_true]
  intro c hc
  simp at hc
  obtain ⟨ch, _, rfl⟩ := hc
  refine decide_eq_true ?_
  have h : ch.toNat.isValidChar := ch.valid
  rcases h with h | h <;> omega
abbrev S_near : DSp := SP (α := (Addr × Addr) × Addr × Nat × DV) (fun D x G ds => D = some x.1 ∧ ds = [.ref x.1.1, .ref x.2.1, x.2.2.2] ∧ WOk x.2.2.1 256 x.2.2.2 ∧ x.2.2.1 ≤ 100) (fun D x G v => ∃ p xs, v = .ref p ∧ Kn D G p (.lst xs) ∧ xs ≠ [] ∧ xs.length ≤ 100 ∧ ∀ x ∈ xs, WX D G x)
theorem sv_near {C : Nat → DSp} (h5 : Has C 5 S_draw) : Serves tabs C f_law_near_watchers S_near := SP.serves fun D x ds G EX P ok ⟨eD, e, W, hn⟩ k => by
  obtain ⟨⟨d, l⟩, w, n, wx⟩ := x
  dsimp only at eD e W hn k
  subst eD e
  obtain ⟨rows, good, rfl, W⟩ := W
  have hsz : sizeLine = 16777216 := rfl
  have L1 := W.ne
  have L2 := W.le
  have L3 := W.g
  have RL : (rows.map rowD).length = rows.length := List.length_map _
  have GL : (good.map DV.int).length = good.length := List.length_map _
  have dR : ∀ (m : Nat) (D : Dk) (G : DH), ∀ x ∈ rows.map rowD, Dat D G (m + 1) x := fun m D G x hx => by
    obtain ⟨r, hr, rfl⟩ := List.mem_map.mp hx
    exact dT (by rw [List.length_map, (W.r r hr).1]; omega) dI
  show denSs tabs C EX _ _ [some _, some _, some _, none, none, none, none, none, none, none, none, none] G
  rw [f_law_near_watchers]
  ((first | rw [e_cons] | (dsimp only; rw [e_cons])); try simp only [dZ, dG, boR, coR, bfD, bmD, bmT, wipeD, sizeLine, Nat.reduceAdd, Nat.reducePow, Nat.reduceLeDiff, reduceIte, String.reduceBEq])
  ((first | rw [e_cons] | (dsimp only; rw [e_cons])); try simp only [dZ, dG, boR, coR, bfD, bmD, bmT, wipeD, sizeLine, Nat.reduceAdd, Nat.reducePow, Nat.reduceLeDiff, reduceIte, String.reduceBEq])
  rw [RL]
  refine draw_use h5 (by omega) (by omega) ok fun at' G1 e1 ok1 a0 a1 => ?_
  (try simp only [dZ, dG, boR, coR, bfD, bmD, bmT, wipeD, sizeLine, Nat.reduceAdd, Nat.reducePow, Nat.reduceLeDiff, reduceIte, String.reduceBEq])
  ((first | rw [e_cons] | (dsimp only; rw [e_cons])); try simp only [dZ, dG, boR, coR, bfD, bmD, bmT, wipeD, sizeLine, Nat.reduceAdd, Nat.reducePow, Nat.reduceLeDiff, reduceIte, String.reduceBEq])
  obtain ⟨rw', hat, hmem, hat2⟩ := atN (xs := rows.map rowD) a0 (by rw [RL]; exact a1)
  obtain ⟨r, rfl, hr, _⟩ := at_map hat2
  refine ⟨_, hat, ?_⟩
  have hrl := (W.r r hr).1
  have IL : (r.map DV.int).length = n := by rw [List.length_map, hrl]
  (try simp only [dZ, dG, boR, coR, bfD, bmD, bmT, wipeD, sizeLine, Nat.reduceAdd, Nat.reducePow, Nat.reduceLeDiff, reduceIte, String.reduceBEq])
  ((first | rw [e_cons] | (dsimp only; rw [e_cons])); try simp only [dZ, dG, boR, coR, bfD, bmD, bmT, wipeD, sizeLine, Nat.reduceAdd, Nat.reducePow, Nat.reduceLeDiff, reduceIte, String.reduceBEq])
  refine draw_use h5 (by split <;> omega) (by split <;> omega) ok1 fun kk G2 e2 ok2 k0 k1 => ?_
  (try simp only [dZ, dG, boR, coR, bfD, bmD, bmT, wipeD, sizeLine, Nat.reduceAdd, Nat.reducePow, Nat.reduceLeDiff, reduceIte, String.reduceBEq])
  ((first | rw [e_cons] | (dsimp only; rw [e_cons])); try simp only [dZ, dG, boR, coR, bfD, bmD, bmT, wipeD, sizeLine, Nat.reduceAdd, Nat.reducePow, Nat.reduceLeDiff, reduceIte, String.reduceBEq])
  refine o_eqE' (fun y hy => (dI (D := some (d, l)) (n := 59) y hy).pd) ?_
  refine ⟨_, rfl, ?_⟩
  have e02 := e1.trans e2
  have AL : ∀ o, (cutD (rows.map rowD) none o).length ≤ 256 := fun o => Nat.le_trans (cut_le _ _ _) (by omega)
  have BL : ∀ o, (cutD (rows.map rowD) o none).length ≤ 256 := fun o => Nat.le_trans (cut_le _ _ _) (by omega)
  have dC : ∀ (m : Nat) (D : Dk) (G : DH) (o o' : Option Int), ∀ x ∈ cutD (rows.map rowD) o o', Dat D G (m + 1) x := fun m D G o o' x hx => dR m D G x (cut_sub _ hx)
  have CL : ∀ o, (cutD (r.map DV.int) none o).length ≤ 100 := fun o => Nat.le_trans (cut_le _ _ _) (by omega)
  have EL : ∀ o, (cutD (r.map DV.int) o none).length ≤ 100 := fun o => Nat.le_trans (cut_le _ _ _) (by omega)
  have dc : ∀ (m : Nat) (D : Dk) (G : DH) (o o' : Option Int), ∀ x ∈ cutD (r.map DV.int) o o', Dat D G m x := fun m D G o o' x hx => dI x (cut_sub _ hx)
  have dg : ∀ (m : Nat) (D : Dk) (G : DH) (o o' : Option Int), ∀ x ∈ cutD (good.map DV.int) o o', Dat D G m x := fun m D G o o' x hx => dI x (cut_sub _ hx)
  have gL : ∀ o o', (cutD (good.map DV.int) o o').length ≤ 256 := fun o o' => Nat.le_trans (cut_le _ _ _) (by omega)
  have A1 := AL (some at')
  have A2 := fun m D G => dC m D G none (some at')
  have B1 := BL (some (at' + 1))
  have B2 := fun m D G => dC m D G (some (at' + 1)) none
  have X1 := BL (some 1)
  have X2 := fun m D G => dC m D G (some 1) none
  have Y1 := AL (some (-1))
  have Y2 := fun m D G => dC m D G none (some (-1))
  have Z1 := AL (some 1)
  have Z2 := fun m D G => dC m D G none (some 1)
  have dGd : ∀ (m : Nat) (D : Dk) (G : DH), Dat D G (m + 1) (.tup (good.map .int)) := fun m D G => dT (by ((try simp only [List.length_append, List.length_cons, List.length_nil, List.length_map, List.length_reverse]); omega)) dI
  have dRw : ∀ (m : Nat) (D : Dk) (G : DH), Dat D G (m + 2) (.tup (rows.map rowD)) := fun m D G => dT (by ((try simp only [List.length_append, List.length_cons, List.length_nil, List.length_map, List.length_reverse]); omega)) (dR m D G)
  have dMid : ∀ (m : Nat) (D : Dk) (G : DH) (y : DV), Dat D G (m + 1) y → Dat D G (m + 3) (.tup [.tup (cutD (rows.map rowD) none (some at') ++ [y] ++ cutD (rows.map rowD) (some (at' + 1)) none), .tup (good.map .int)]) := fun m D G y hy => pD (dT (by ((try simp only [List.length_append, List.length_cons, List.length_nil, List.length_map, List.length_reverse]); omega)) (m3 (A2 m D G) hy (B2 m D G))) (dGd (m + 1) D G)
  cases hie : (r.map DV.int).isEmpty with
  | true =>
    (try simp only [dZ, dG, boR, coR, bfD, bmD, bmT, wipeD, sizeLine, Nat.reduceAdd, Nat.reducePow, Nat.reduceLeDiff, reduceIte, String.reduceBEq])
    ((first | rw [e_cons] | (dsimp only; rw [e_cons])); try simp only [dZ, dG, boR, coR, bfD, bmD, bmT, wipeD, sizeLine, Nat.reduceAdd, Nat.reducePow, Nat.reduceLeDiff, reduceIte, String.reduceBEq])
    refine ⟨by ((try simp only [List.length_append, List.length_cons, List.length_nil, List.length_map, List.length_reverse]); omega), by ((try simp only [List.length_append, List.length_cons, List.length_nil, List.length_map, List.length_reverse]); omega), by ((try simp only [List.length_append, List.length_cons, List.length_nil, List.length_map, List.length_reverse]); omega), ?_⟩
    rw [o_list (ys := [.tup (rows.map rowD), .tup (good.map .int)]) rfl]
    refine NewO.run ok2 fun x G3 e3 ok3 kx _ => ?_
    refine NewO.run ok3 fun p G4 e4 ok4 kp _ => ?_
    refine k _ _ (e02.trans (e3.trans e4)) ok4 ⟨p, _, rfl, kp, by simp, by simp, ?_⟩
    have kx4 := kx.mono e4
    exact mc (w20 (by decide) (dMid 0 _ _ _ (dT (by simp) (m1 .int)))) (mc (w20 (by decide) (pD (dRw 0 _ _) (dT (n := 1) (by ((try simp only [List.length_append, List.length_cons, List.length_nil, List.length_map, List.length_reverse]); omega)) (m2 dI (m1 .int))))) (mc (w20 (by decide) (pD (dT (n := 1) (by ((try simp only [List.length_append, List.length_cons, List.length_nil, List.length_map, List.length_reverse]); omega)) (X2 0 _ _)) (dGd 1 _ _))) (m1 (w20 (by decide) (Dat.lst kx4 (mc (dRw 0 _ _) (m1 (dGd 1 _ _))))))))
  | false =>
    have hne : r ≠ [] := fun e => by rw [e] at hie; cases hie
    have hr0 : 0 < r.length := by cases r with
      | nil => exact absurd rfl hne
      | cons _ _ => simp
    have k1' : kk < (n : Int) := by split at k1 <;> omega
    obtain ⟨kv, hkv, hkm, hkm2⟩ := atN (xs := r.map DV.int) k0 (by rw [IL]; exact k1')
    obtain ⟨ki, rfl, hki, _⟩ := at_map hkm2
    have hkb := (W.r r hr).2 ki hki
    have C1 := CL (some kk)
    have C2 := fun m D G => dc m D G none (some kk)
    have F1 := EL (some (kk + 1))
    have F2 := fun m D G => dc m D G (some (kk + 1)) none
    have H1 := CL (some (-1))
    have H2 := fun m D G => dc m D G none (some (-1))
    (try simp only [dZ, dG, boR, coR, bfD, bmD, bmT, wipeD, sizeLine, Nat.reduceAdd, Nat.reducePow, Nat.reduceLeDiff, reduceIte, String.reduceBEq])
    (rw [e_nil]; dsimp only; rw [e_cons]; try simp only [dZ, dG, boR, coR, bfD, bmD, bmT, wipeD, sizeLine, Nat.reduceAdd, Nat.reducePow, Nat.reduceLeDiff, reduceIte, String.reduceBEq])
    refine ⟨by ((try simp only [List.length_append, List.length_cons, List.length_nil, List.length_map, List.length_reverse]); omega), ?_⟩
    rw [o_list (ys := r.map .int) rfl]
    refine NewO.run ok2 fun x G3 e3 ok3 kx _ => ?_
    refine ⟨by ((try simp only [List.length_append, List.length_cons, List.length_nil, List.length_map, List.length_reverse]); omega), by ((try simp only [List.length_append, List.length_cons, List.length_nil, List.length_map, List.length_reverse]); omega), by ((try simp only [List.length_append, List.length_cons, List.length_nil, List.length_map, List.length_reverse]); omega), by ((try simp only [List.length_append, List.length_cons, List.length_nil, List.length_map, List.length_reverse]); omega), ?_⟩
    refine NewO.run ok3 fun s1 G4 e4 ok4 ks1 _ => ?_
    (try simp only [dZ, dG, boR, coR, bfD, bmD, bmT, wipeD, sizeLine, Nat.reduceAdd, Nat.reducePow, Nat.reduceLeDiff, reduceIte, String.reduceBEq])
    ((first | rw [e_cons] | (dsimp only; rw [e_cons])); try simp only [dZ, dG, boR, coR, bfD, bmD, bmT, wipeD, sizeLine, Nat.reduceAdd, Nat.reducePow, Nat.reduceLeDiff, reduceIte, String.reduceBEq])
    refine ⟨_, hkv, o_eqI ?_⟩
    refine ⟨by ((try simp only [List.length_append, List.length_cons, List.length_nil, List.length_map, List.length_reverse]); omega), by ((try simp only [List.length_append, List.length_cons, List.length_nil, List.length_map, List.length_reverse]); omega), _, hkv, ?_⟩
    rw [o_strI]
    refine ⟨by have : ki.natAbs.log2 ≤ ki.natAbs := Nat.log2_le_self _; omega, by ((try simp only [List.length_append, List.length_cons, List.length_nil, List.length_map, List.length_reverse]); omega), by ((try simp only [List.length_append, List.length_cons, List.length_nil, List.length_map, List.length_reverse]); omega), ?_⟩
    refine NewO.run ok4 fun s2 G5 e5 ok5 ks2 _ => ?_
    refine o_addL (ks1.mono e5).2 ks2.2 (by simp; omega) ?_
    have dL2 : ∀ (G6 : DH) (xs : List DV), xs.length ≤ 1000 → (∀ x ∈ xs, Dat (some (d, l)) G6 1 x) → Dat (some (d, l)) G6 2 (.tup xs) := fun G6 xs h hh => dT (n := 1) (by omega) hh
    have mid : ∀ (G6 : DH) y, Dat (some (d, l)) G6 1 y → Dat (some (d, l)) G6 2 (.tup (cutD (r.map DV.int) none (some kk) ++ [y] ++ cutD (r.map DV.int) (some (kk + 1)) none)) := fun G6 y hy => dL2 _ _ (by ((try simp only [List.length_append, List.length_cons, List.length_nil, List.length_map, List.length_reverse]); omega)) (m3 (C2 1 _ _) hy (F2 1 _ _))
    refine NewO.runQ (fun G x => Dat (some (d, l)) G 2 x) 10 ok5 (fun G6 e6 ok6 => m2 (mc (dL2 _ _ (by ((try simp only [List.length_append, List.length_cons, List.length_nil, List.length_map, List.length_reverse]); omega)) (m2 dI (m1 .int))) (mc (dL2 _ _ (by ((try simp only [List.length_append, List.length_cons, List.length_nil, List.length_map, List.length_reverse]); omega)) (H2 1 _ _)) (mc (Dat.lst (kx.mono (e4.trans (e5.trans e6))) dI) (mc (mid _ _ .int) (mc (mid _ _ .int) (mc .non (m1 (dL2 _ [] (by simp) m0)))))))) (mc (mid _ _ .bl) (mc (mid _ _ (.str (ofS_ok _))) (m1 (dL2 _ _ (by ((try simp only [List.length_append, List.length_cons, List.length_nil, List.length_map, List.length_reverse]); omega)) fun x hx => dI x (List.mem_reverse.mp hx)))))) (by simp) fun s3 G6 sl e6 ok6 ks3 hs3 hl3 _ => ?_
    have e06 := e02.trans (e3.trans (e4.trans (e5.trans e6)))
    (try simp only [dZ, dG, boR, coR, bfD, bmD, bmT, wipeD, sizeLine, Nat.reduceAdd, Nat.reducePow, Nat.reduceLeDiff, reduceIte, String.reduceBEq])
    ((first | rw [e_cons] | (dsimp only; rw [e_cons])); try simp only [dZ, dG, boR, coR, bfD, bmD, bmT, wipeD, sizeLine, Nat.reduceAdd, Nat.reducePow, Nat.reduceLeDiff, reduceIte, String.reduceBEq])
    refine ⟨_, it_kn ks3 G6 (Ext.refl _ _), ?_⟩
    refine LcK.mapQ (fun G x => Dat (some (d, l)) G 4 x) (fun it => .tup [.tup (cutD (rows.map rowD) none (some at') ++ [it] ++ cutD (rows.map rowD) (some (at' + 1)) none), .tup (good.map .int)]) ok6 (by omega) (it_kn ks3) (fun it hit => ?_) (fun G2 e ok it hit => dMid 1 _ _ _ ((hs3 it hit).mono e)) fun fl G7 fs e7 ok7 kf hf hfl => ?_
    · (try simp only [dZ, dG, boR, coR, bfD, bmD, bmT, wipeD, sizeLine, Nat.reduceAdd, Nat.reducePow, Nat.reduceLeDiff, reduceIte, String.reduceBEq])
      exact fun G1 e1 ok1 K1 K2 k1 => ⟨by ((try simp only [List.length_append, List.length_cons, List.length_nil, List.length_map, List.length_reverse]); omega), by ((try simp only [List.length_append, List.length_cons, List.length_nil, List.length_map, List.length_reverse]); omega), k1 G1 (Ext.refl _ _) ok1⟩
    (try simp only [dZ, dG, boR, coR, bfD, bmD, bmT, wipeD, sizeLine, Nat.reduceAdd, Nat.reducePow, Nat.reduceLeDiff, reduceIte, String.reduceBEq])
    ((first | rw [e_cons] | (dsimp only; rw [e_cons])); try simp only [dZ, dG, boR, coR, bfD, bmD, bmT, wipeD, sizeLine, Nat.reduceAdd, Nat.reducePow, Nat.reduceLeDiff, reduceIte, String.reduceBEq])
    -- the second part
    refine ⟨by ((try simp only [List.length_append, List.length_cons, List.length_nil, List.length_map, List.length_reverse]); omega), by have := gL (some (-1)) none; ((try simp only [List.length_append, List.length_cons, List.length_nil, List.length_map, List.length_reverse]); omega), ?_⟩
    rw [o_list (ys := good.map .int) rfl]
    refine NewO.run ok7 fun gl G8 e8 ok8 kg _ => ?_
    have dg2 : ∀ (G : DH) (xs : List DV), xs.length ≤ 1000 → (∀ x ∈ xs, Dat (some (d, l)) G 2 x) → Dat (some (d, l)) G 3 (.tup xs) := fun G xs h hh => dT (n := 2) (by omega) hh
    have pr : ∀ (G : DH) (y : DV), Dat (some (d, l)) G 3 y → Dat (some (d, l)) G 4 (.tup [.tup (rows.map rowD), y]) := fun G y hy => pD (dRw 1 _ _) hy
    refine LcK.mapQ (fun G x => Dat (some (d, l)) G 4 x) (fun it => .tup [.tup (rows.map rowD), it]) ok8 (by simp; omega) (fun _ _ => by trivial) (fun it hit => ?_) (fun G2 e ok => mc (pr _ _ (dg2 _ _ (by ((try simp only [List.length_append, List.length_cons, List.length_nil, List.length_map, List.length_reverse]); omega)) (m2 dI (m1 .int)))) (mc (pr _ _ (dg2 _ _ (by have := gL (some (-1)) none; ((try simp only [List.length_append, List.length_cons, List.length_nil, List.length_map, List.length_reverse]); omega)) (m2 dI (dg 2 _ _ _ _)))) (mc (pr _ _ (dg2 _ _ (by ((try simp only [List.length_append, List.length_cons, List.length_nil, List.length_map, List.length_reverse]); omega)) fun x hx => dI x (List.mem_reverse.mp hx))) (mc (pr _ _ (Dat.lst (kg.mono e) dI)) (mc (pr _ _ (dg2 _ _ (by simp) (mc .int (m1 .int)))) (m1 (pr _ _ (dg2 _ _ (by simp) (m1 .bl))))))))) fun f2 G9 fs2 e9 ok9 kf2 hf2 hfl2 => ?_
    · (try simp only [dZ, dG, boR, coR, bfD, bmD, bmT, wipeD, sizeLine, Nat.reduceAdd, Nat.reducePow, Nat.reduceLeDiff, reduceIte, String.reduceBEq])
      exact fun G1 e1 ok1 K1 K2 k1 => k1 G1 (Ext.refl _ _) ok1
    have hfl2' : fs2.length ≤ 6 := hfl2
    refine o_addL (kf.mono (e8.trans e9)).2 kf2.2 (by omega) ?_
    refine NewO.runQ (fun G x => Dat (some (d, l)) G 4 x) 16 ok9 (fun G2 e ok => m2 (fun x hx => (hf x hx).mono (e8.trans (e9.trans e))) (fun x hx => (hf2 x hx).mono e)) (by ((try simp only [List.length_append, List.length_cons, List.length_nil, List.length_map, List.length_reverse]); omega)) fun fl G10 fs e10 ok10 kf hf hfl _ => ?_
    (try simp only [dZ, dG, boR, coR, bfD, bmD, bmT, wipeD, sizeLine, Nat.reduceAdd, Nat.reducePow, Nat.reduceLeDiff, reduceIte, String.reduceBEq])
    ((first | rw [e_cons] | (dsimp only; rw [e_cons])); try simp only [dZ, dG, boR, coR, bfD, bmD, bmT, wipeD, sizeLine, Nat.reduceAdd, Nat.reducePow, Nat.reduceLeDiff, reduceIte, String.reduceBEq])
    -- the third part
    refine LcK.mapQ (fun G x => Dat (some (d, l)) G 4 x) (fun it => .tup [.tup (rows.map rowD), it]) ok10 (by simp; omega) (fun _ _ => by trivial) (fun it hit => ?_) (fun G2 e ok => mc (pr _ _ (dg2 _ _ (by simp) (m1 .int))) (mc (pr _ _ (dg2 _ _ (by simp) (mc .int (m1 .int)))) (mc (pr _ _ (dg2 _ _ (by simp) (m1 .int))) (mc (pr _ _ .non) (mc (pr _ _ .int) (m1 (pr _ _ (dg2 _ _ (by simp) (m1 (.str (by decide +kernel)))))))))) ) fun f3 G11 fs3 e11 ok11 kf3 hf3 hfl3 => ?_
    · (try simp only [dZ, dG, boR, coR, bfD, bmD, bmT, wipeD, sizeLine, Nat.reduceAdd, Nat.reducePow, Nat.reduceLeDiff, reduceIte, String.reduceBEq])
      exact fun G1 e1 ok1 K1 K2 k1 => k1 G1 (Ext.refl _ _) ok1
    have hfl3' : fs3.length ≤ 6 := hfl3
    refine o_addL (kf.mono e11).2 kf3.2 (by omega) ?_
    refine NewO.runQ (fun G x => Dat (some (d, l)) G 4 x) 22 ok11 (fun G2 e ok => m2 (fun x hx => (hf x hx).mono (e11.trans e)) (fun x hx => (hf3 x hx).mono e)) (by ((try simp only [List.length_append, List.length_cons, List.length_nil, List.length_map, List.length_reverse]); omega)) fun fl G12 fs e12 ok12 kf hf hfl _ => ?_
    (try simp only [dZ, dG, boR, coR, bfD, bmD, bmT, wipeD, sizeLine, Nat.reduceAdd, Nat.reducePow, Nat.reduceLeDiff, reduceIte, String.reduceBEq])
    ((first | rw [e_cons] | (dsimp only; rw [e_cons])); try simp only [dZ, dG, boR, coR, bfD, bmD, bmT, wipeD, sizeLine, Nat.reduceAdd, Nat.reducePow, Nat.reduceLeDiff, reduceIte, String.reduceBEq])
    -- the fourth part
    refine ⟨by ((try simp only [List.length_append, List.length_cons, List.length_nil, List.length_map, List.length_reverse]); omega), ?_⟩
    rw [o_list (ys := rows.map rowD) rfl]
    refine NewO.run ok12 fun rl G13 e13 ok13 krl _ => ?_
    have g3 : ∀ (G : DH), Dat (some (d, l)) G 3 (.tup (good.map .int)) := fun G => dGd 2 _ _
    have r3 : ∀ (G : DH) (xs : List DV), xs.length ≤ 1000 → (∀ x ∈ xs, Dat (some (d, l)) G 2 x) → Dat (some (d, l)) G 3 (.tup xs) := fun G xs h hh => dT (n := 2) (by omega) hh
    refine NewO.runQ (fun G x => Dat (some (d, l)) G 4 x) 5 ok13 (fun G2 e ok => mc (pD (r3 _ _ (by ((try simp only [List.length_append, List.length_cons, List.length_nil, List.length_map, List.length_reverse]); omega)) (X2 1 _ _)) (g3 _)) (mc (pD (r3 _ _ (by ((try simp only [List.length_append, List.length_cons, List.length_nil, List.length_map, List.length_reverse]); omega)) (Y2 1 _ _)) (g3 _)) (mc (pD (r3 _ _ (by ((try simp only [List.length_append, List.length_cons, List.length_nil, List.length_map, List.length_reverse]); omega)) (m2 (dR 1 _ _) (Z2 1 _ _))) (g3 _)) (mc (pD (Dat.lst (krl.mono e) (dR 1 _ _)) (g3 _)) (m1 (pD (r3 _ [] (by simp) m0) (r3 _ [] (by simp) m0))))))) (by simp) fun f4 G14 fs4 e14 ok14 kf4 hf4 hfl4 _ => ?_
    refine o_addL (kf.mono (e13.trans e14)).2 kf4.2 (by omega) ?_
    refine NewO.runQ (fun G x => Dat (some (d, l)) G 4 x) 27 ok14 (fun G2 e ok => m2 (fun x hx => (hf x hx).mono (e13.trans (e14.trans e))) (fun x hx => (hf4 x hx).mono e)) (by ((try simp only [List.length_append, List.length_cons, List.length_nil, List.length_map, List.length_reverse]); omega)) fun fl G15 fs e15 ok15 kf hf hfl _ => ?_
    (try simp only [dZ, dG, boR, coR, bfD, bmD, bmT, wipeD, sizeLine, Nat.reduceAdd, Nat.reducePow, Nat.reduceLeDiff, reduceIte, String.reduceBEq])
    ((first | rw [e_cons] | (dsimp only; rw [e_cons])); try simp only [dZ, dG, boR, coR, bfD, bmD, bmT, wipeD, sizeLine, Nat.reduceAdd, Nat.reducePow, Nat.reduceLeDiff, reduceIte, String.reduceBEq])
    refine NewO.run ok15 fun wl G16 e16 ok16 kwl _ => ?_
    refine NewO.run ok16 fun el G17 e17 ok17 kel _ => ?_
    have gg : ∀ (G : DH), Dat (some (d, l)) G 3 (.tup (good.map .int)) := fun G => dGd 2 _ _
    have rr : ∀ (G : DH), Dat (some (d, l)) G 3 (.tup (rows.map rowD)) := fun G => dRw 1 _ _
    have d4 : ∀ (G : DH) (xs : List DV), xs.length ≤ 1000 → (∀ x ∈ xs, Dat (some (d, l)) G 3 x) → WX (some (d, l)) G (.tup xs) := fun G xs h hh => w20 (by decide) (dT (n := 3) (by omega) hh)
    have e3 : ∀ (G : DH), Dat (some (d, l)) G 3 (.tup []) := fun G => dT (n := 2) (by simp) m0
    refine NewO.runQ (fun G x => WX (some (d, l)) G x) 9 ok17 (fun G2 e ok => mc (d4 _ _ (by simp) (mc (rr _) (mc (gg _) (m1 (e3 _))))) (mc (w20 (by decide) (Dat.lst (kwl.mono (e17.trans e)) (mc (rr _) (m1 (gg _))))) (mc (w20 (by decide) (rr _)) (mc (d4 _ _ (by simp) (m1 (rr _))) (mc (d4 _ _ (by simp) (mc (gg _) (m1 (rr _)))) (mc (.inl .non) (mc (.inl (.str (by decide +kernel))) (mc (.inr ⟨⟨_, rfl⟩, ⟨⟨_, y_dK (kel.mono e).2, by rw [m_dct]; trivial⟩, fun a h => by cases h; exact (kel.mono e).1⟩⟩) (m1 (.inl .int))))))))) ) (by simp) fun f5 G18 fs5 e18 ok18 kf5 hf5 hfl5 hfe5 => ?_
    refine o_addL (kf.mono (e16.trans (e17.trans e18))).2 kf5.2 (by omega) ?_
    refine NewO.run ok18 fun p G19 e19 ok19 kp _ => ?_
    refine k _ _ (e06.trans (e7.trans (e8.trans (e9.trans (e10.trans (e11.trans (e12.trans (e13.trans (e14.trans (e15.trans (e16.trans (e17.trans (e18.trans e19))))))))))))) ok19 ⟨p, _, rfl, kp, ?_, by ((try simp only [List.length_append, List.length_cons, List.length_nil, List.length_map, List.length_reverse]); omega), m2 (fun x hx => w20 (by decide) ((hf x hx).mono (e16.trans (e17.trans (e18.trans e19))))) fun x hx => (hf5 x hx).mono e19⟩
    intro hnil
    have := congrArg List.length hnil
    rw [List.length_append, hfe5] at this
    simp at this
end DL
end
section
set_option Elab.async false
set_option linter.all false
set_option maxRecDepth 100000
set_option autoImplicit false
set_option maxHeartbeats 1000000
namespace DL
open PySem PySem.Spec PyProof.Rows L2
open PySem.PyData (strOk)
section
variable {D : Dk} {G : DH}
theorem ShowOk.pd {K : KL} {m : Int} {x : DV} (h : ShowOk K m x) : PDk G 6 x := by
  rcases h with rfl | ⟨t, is, rfl, h1, _⟩
  · exact PDk.non
  · refine PDk.tup fun y hy => ?_
    rcases List.mem_cons.mp hy with rfl | hy
    · exact h1.pd.up (by decide)
    · rw [List.mem_singleton.mp hy]
      refine PDk.tup (n := 4) fun z hz => ?_
      obtain ⟨i, _, rfl⟩ := List.mem_map.mp hz
      exact PDk.int
theorem MoveOk.pd {K : KL} {m s : Int} {x : DV} (h : MoveOk K m s x) : PDk G 7 x := by
  rcases h with rfl | ⟨i, sh, rfl, _, _, h1⟩
  · exact PDk.non
  · refine PDk.tup fun y hy => ?_
    rcases List.mem_cons.mp hy with rfl | hy
    · exact PDk.int
    · rw [List.mem_singleton.mp hy]; exact h1.pd
theorem DeedOk.pd {K : KL} {m s : Int} {nm : Str} {x : DV} (h : DeedOk K m s nm x) : PDk G 9 x := by
  obtain ⟨o, need, moves, rfl, _, _, h3, _, _, h6⟩ := h.ex
  refine PDk.tup fun y hy => ?_
  rcases List.mem_cons.mp hy with rfl | hy
  · exact PDk.str h.so
  rcases List.mem_cons.mp hy with rfl | hy
  · exact PDk.int
  rcases List.mem_cons.mp hy with rfl | hy
  · rcases h3 with rfl | h3
    · exact PDk.non
    · exact h3.pd.up (by decide)
  rw [List.mem_singleton.mp hy]
  exact PDk.tup fun z hz => (h6 z hz).pd
theorem o_neE {P : DK} {xs : List DV} (h : ∀ x ∈ xs, PDk G 59 x) (k : P (.bl (!xs.isEmpty)) G) : dNe (.tup xs) (.tup []) G P := by
  obtain ⟨ps, h1, h2⟩ := omap_pd h
  refine .inr ⟨.tuple ps, .tuple [], by unfold toPD; rw [h1]; rfl, by unfold toPD omap; rfl, by simpa [PyData.canLay0] using h2, by simp [PyData.canLay0, PyData.canLayAll0], ?_⟩
  have : PyData.eqv (.tuple ps) (.tuple []) = xs.isEmpty := by
    rw [← omap_empty h1]
    cases ps <;> simp [PyData.eqv, PyData.eqvAll]
  rw [this]; exact k
theorem sameL_of {n N : Nat} : ∀ {xs : List DV}, (∀ x ∈ xs, ∃ s, s ≤ N ∧ SameT D G n s x x) → ∃ s, s ≤ N * xs.length ∧ SameL D G n s xs xs
  | [], _ => ⟨0, Nat.zero_le _, .nil⟩
  | x :: xs, h => by
    obtain ⟨s, h1, h2⟩ := h x List.mem_cons_self
    obtain ⟨r, h3, h4⟩ := sameL_of fun y hy => h y (List.mem_cons_of_mem _ hy)
    exact ⟨s + r, by rw [List.length_cons, Nat.mul_succ]; omega, .cons h2 h4⟩
theorem sameT_tup {n N : Nat} {xs : List DV} (hl : xs.length ≤ 1000) (h : ∀ x ∈ xs, ∃ s, s ≤ N ∧ SameT D G n s x x) : ∃ s, s ≤ N * xs.length + 1 ∧ SameT D G (n + 1) s (.tup xs) (.tup xs) := by
  obtain ⟨s, h1, h2⟩ := sameL_of h
  exact ⟨s + 1, by omega, .tup h2 hl⟩
theorem same_ints {is : List Int} {n : Nat} : ∀ x ∈ is.map DV.int, ∃ s, s ≤ 1 ∧ SameT D G n s x x := fun x hx => by
  obtain ⟨i, _, rfl⟩ := List.mem_map.mp hx
  exact ⟨1, Nat.le_refl 1, .int⟩
theorem same_done {nms : List Str} {s : Str} (hn : nms.length ≤ 100) : ∃ w, w ≤ 1000000 ∧ SameT D G 50 w (doneD nms s) (doneD nms s) := by
  have h1 : ∀ x ∈ [nms.map (fun o => if o = s then (1 : Int) else 0), List.replicate nms.length 1].map rowD, ∃ w, w ≤ 101 ∧ SameT D G 47 w x x := fun x hx => by
    obtain ⟨r, hr, rfl⟩ := List.mem_map.mp hx
    have hl : r.length ≤ 100 := by
      simp at hr
      rcases hr with rfl | rfl <;> simp [hn]
    obtain ⟨w, a, b⟩ := sameT_tup (D := D) (G := G) (n := 46) (N := 1) (by rw [List.length_map]; omega) (same_ints (is := r))
    exact ⟨w, by rw [List.length_map] at a; omega, b⟩
  obtain ⟨w1, a1, b1⟩ := sameT_tup (by simp) h1
  obtain ⟨w2, a2, b2⟩ := sameT_tup (D := D) (G := G) (n := 47) (N := 1) (by simp) (same_ints (is := [1]))
  have h2 : ∀ x ∈ [DV.tup ([nms.map (fun o => if o = s then (1 : Int) else 0), List.replicate nms.length 1].map rowD), DV.tup ([(1 : Int)].map DV.int)], ∃ w, w ≤ 1000 ∧ SameT D G 48 w x x := by
    refine mc ⟨w1, ?_, b1⟩ (m1 ⟨w2, ?_, b2⟩)
    · simp at a1; omega
    · simp at a2; omega
  obtain ⟨w3, a3, b3⟩ := sameT_tup (by simp) h2
  exact ⟨w3, by simp at a3; omega, b3.up 50 (by decide)⟩
theorem WOk.dat {n L : Nat} {x : DV} (h : WOk n L x) (hn : n ≤ 100) (hL : L ≤ 1000) : Dat D G 3 x := by
  obtain ⟨rows, good, rfl, W⟩ := h
  have := W.le
  have := W.g
  refine pD (dT (n := 1) (by rw [List.length_map]; omega) fun y hy => ?_) (dT (n := 1) (by rw [List.length_map]; omega) dI)
  obtain ⟨r, hr, rfl⟩ := List.mem_map.mp hy
  exact dT (n := 0) (by rw [List.length_map, (W.r r hr).1]; omega) dI
theorem cut_to (xs : List DV) (k : Nat) : cutD xs none (some (k : Int)) = xs.take k := by
  unfold cutD
  rw [HT.sIx_nat, HT.sIx_none]
  rcases Nat.le_total k xs.length with h | h
  · rw [Nat.min_eq_left h]; simp
  · rw [Nat.min_eq_right h, List.take_of_length_le h]; simp
/-- two lists of the same things -/
theorem o_ne_same {P : DK} {p q : Addr} {pd : PyData} (h1 : toPD G 60 (.ref p) = some pd) (h2 : toPD G 60 (.ref q) = some pd) (hc : pd.canLay0 = true) (k : P (.bl false) G) : dNe (.ref p) (.ref q) G P :=
  .inr ⟨pd, pd, h1, h2, hc, hc, by rw [SeqAt.eqv_refl pd hc]; exact k⟩
end
def S_law : DSp := fun ds G P _ => ∃ s, ∃ ns : List Int, ds = [s] ∧ ns.length ≤ 63 ∧ (s = .lk (ns.map DV.int) ∨ ∃ a, s = .ref a ∧ G a = some (.lst (ns.map DV.int))) ∧ ∀ G2, P (.bl true) G2
end DL
end
section
set_option Elab.async false
set_option linter.all false
set_option maxRecDepth 100000
set_option autoImplicit false
set_option maxHeartbeats 400000
namespace DL
open PySem PySem.Spec PyProof.Rows L2
open PySem.PyData (strOk)
theorem toPD_two {G : DH} {p a b : Addr} {xs ys : List DV} {ps qs : List PyData} (hp : G p = some (.lst [.ref a, .ref b])) (ha : G a = some (.lst xs)) (hb : G b = some (.lst ys)) (h1 : omap (toPD G 58) xs = some ps) (h2 : omap (toPD G 58) ys = some qs) : toPD G 60 (.ref p) = some (.list [.list ps, .list qs]) := by
  have t1 : toPD G 59 (.ref a) = some (.list ps) := by unfold toPD; rw [ha]; dsimp only; rw [h1]; rfl
  have t2 : toPD G 59 (.ref b) = some (.list qs) := by unfold toPD; rw [hb]; dsimp only; rw [h2]; rfl
  unfold toPD; rw [hp]; dsimp only
  unfold omap; rw [t1]
  unfold omap; rw [t2]
  rfl
theorem law_rest {C : Nat → DSp} (h3 : Has C 3 S_near) (h4 : Has C 4 S_drawnW) (h7 : Has C 7 S_pick) (h8 : Has C 8 S_lisW) (h12 : Has C 12 S_same) (h13 : Has C 13 S_isW)
    {d l w th c : Addr} {G : DH} {nms : List Str} {deeds xs : List DV} {Dn : DEnds} {EX : DXK} {c0 c2 c4 c6 c7 c9 c10 c11 c12 c13 c14 c15 : Option DV}
    (ok : okD (some (d, l)) G) (kc : CircleK (some (d, l)) G c nms) (wd : WDeeds (some (d, l)) G w deeds) (hnd : nms.length = deeds.length) (hn : deeds.length ≤ 100) (kth : Kn (some (d, l)) G th (.lst xs)) (hx0 : xs ≠ []) (hxl : xs.length ≤ 10) (hxw : ∀ x ∈ xs, WOk deeds.length 256 x)
    (hnx : ∀ (e0 e2 e3 e4 e5 e6 e7 e8 e9 e10 e11 e12 e13 e14 e15 : Option DV) (G' : DH), okD (some (d, l)) G' → Dn.nx [e0, some (.ref d), e2, e3, e4, e5, e6, e7, e8, e9, e10, e11, e12, e13, e14, e15] G') :
    denSs tabs C EX [
      .asg (.n 4) (.call "_law_near_watchers" 3 3 [.v 1, .v 3, .call "_law_pick" 7 2 [.v 1, .slH (.v 5) (.int 2)]]),
      .asg (.n 5) (.bin .add (.v 5) (.lc [15] (.n 15) .rng1 [.int 14] [] (.call "_law_pick" 7 2 [.v 1, .v 4]))),
      .asg (.n 6) (.lst [.bl true, .int 7, .str "", .tup [], .tup [.tup [], .tup []], .tup [.tup []], .tup [.tup [.tup []], .tup []], .tup [.tup [.tup [.int 0]], .tup [.int 0]], .tup [.tup [.tup [.int 0, .int 0]], .tup []], .tup [.tup [.tup []], .tup [.int 0]], .v 8]),
      .for_ (.n 7) .seq [.bin .add (.v 5) (.lc [15] (.n 15) .rng1 [.int 3] [] (.call "_law_pick" 7 2 [.v 1, .v 6]))] [
        .asg (.n 10) (.call "_law_is_watcher" 8 2 [.v 3, .v 7]),
        .asg (.n 11) (.lst [.call "is_watcher" 13 2 [.v 8, .v 7], .callK "is_watcher" 13 2 0 [1, 0] ["circle", "thing"] ["thing", "circle"] [] [.v 7, .v 8]]),
        .ifs (.not (.call "_law_same" 12 2 [.v 11, .lst [.v 10, .v 10]])) [
          .ret (.bl false)] []],
      .asg (.t [.n 12, .n 13]) (.call "_law_watcher" 4 2 [.v 1, .v 3]),
      .asg (.n 7) (.lst [.bf .list [.v 12], .bf .list [.v 13]]),
      .ifs (.or [.cmp .nis (.call "is_watcher" 13 2 [.v 8, .v 7]) (.bl false), .cmp .ne (.v 7) (.lst [.bf .list [.v 12], .bf .list [.v 13]])]) [
        .ret (.bl false)] []] Dn [c0, some (.ref d), c2, some (.ref w), c4, some (.ref th), c6, c7, some (.ref c), c9, c10, c11, c12, c13, c14, c15] G := by
  have hsz : sizeLine = 16777216 := rfl
  ((first | rw [e_cons] | (dsimp only; rw [e_cons])); try simp only [dZ, dG, boR, coR, bfD, bmD, bmT, wipeD, sizeLine, Nat.reduceAdd, Nat.reducePow, Nat.reduceLeDiff, reduceIte, String.reduceBEq])
  rw [o_slL kth.2]
  refine NewO.run ok fun cl G1 e1 ok1 kcl _ => ?_
  have hcl : cutD xs none (some 2) = xs.take 2 := cut_to xs 2
  refine pick_use h7 (.inr ⟨cl, rfl, kcl⟩) (by rw [hcl]; cases xs with
    | nil => exact absurd rfl hx0
    | cons _ _ => simp) (Nat.le_trans (cut_le _ _ _) (by omega)) ok1 fun wx G2 e2 ok2 hwx => ?_
  (try simp only [dZ, dG, boR, coR, bfD, bmD, bmT, wipeD, sizeLine, Nat.reduceAdd, Nat.reducePow, Nat.reduceLeDiff, reduceIte, String.reduceBEq])
  refine SP.use h3 ((d, l), w, deeds.length, wx) ok2 ⟨rfl, rfl, hxw wx (cut_sub _ hwx), hn⟩ fun v G3 e3 ok3 ⟨nr, ns, hv, kn, hne, hl, hw⟩ => ?_
  subst hv
  have e03 := e1.trans (e2.trans e3)
  (try simp only [dZ, dG, boR, coR, bfD, bmD, bmT, wipeD, sizeLine, Nat.reduceAdd, Nat.reducePow, Nat.reduceLeDiff, reduceIte, String.reduceBEq])
  ((first | rw [e_cons] | (dsimp only; rw [e_cons])); try simp only [dZ, dG, boR, coR, bfD, bmD, bmT, wipeD, sizeLine, Nat.reduceAdd, Nat.reducePow, Nat.reduceLeDiff, reduceIte, String.reduceBEq])
  refine ⟨by decide, by decide, ?_⟩
  refine LcK.run (D := some (d, l)) (fun j l => ∀ x ∈ l, x ∈ ns) ok3 (by rw [rngD_len]; decide) (fun _ _ => by trivial) (by simp) (fun j' l' G4 x e4 ok4 hx hi => ?_) fun q G4 l' e4 ok4 kq hl' _ hi => ?_
  · (try simp only [dZ, dG, boR, coR, bfD, bmD, bmT, wipeD, sizeLine, Nat.reduceAdd, Nat.reducePow, Nat.reduceLeDiff, reduceIte, String.reduceBEq])
    refine fun K1 K2 k1 k2 => pick_use h7 (.inr ⟨nr, rfl, kn.mono e4⟩) hne (by omega) ok4 fun y G5 e5 ok5 hy => k1 y G5 e5 ok5 fun z hz => ?_
    rcases List.mem_append.mp hz with h | h
    · exact hi z h
    · rw [List.mem_singleton.mp h]; exact hy
  rw [rngD_len] at hl'
  refine o_addL (kth.mono (e03.trans e4)).2 kq.2 (by omega) ?_
  refine NewO.runQ (fun G x => WX (some (d, l)) G x) 24 ok4 (fun G5 e5 ok5 => m2 (fun x hx => w20 (by decide) ((hxw x hx).dat hn (by decide))) fun x hx => (hw x (hi x hx)).mono (e4.trans e5)) (by rw [List.length_append]; have : ((14 : Int) - 0).toNat = 14 := rfl; have : (14 : Int).toNat = 14 := rfl; omega) fun t2 G5 ts e5 ok5 kt hts htl _ => ?_
  (try simp only [dZ, dG, boR, coR, bfD, bmD, bmT, wipeD, sizeLine, Nat.reduceAdd, Nat.reducePow, Nat.reduceLeDiff, reduceIte, String.reduceBEq])
  ((first | rw [e_cons] | (dsimp only; rw [e_cons])); try simp only [dZ, dG, boR, coR, bfD, bmD, bmT, wipeD, sizeLine, Nat.reduceAdd, Nat.reducePow, Nat.reduceLeDiff, reduceIte, String.reduceBEq])
  have kc5 := kc.mono (e03.trans (e4.trans e5))
  have tyc : ∀ G', Ext (some (d, l)) G5 G' → WX (some (d, l)) G' (.ref c) := fun G' e' => by
    obtain ⟨fs, q, kvs, a1, _⟩ := kc5.mono e'
    exact .inr ⟨⟨_, rfl⟩, ⟨⟨_, y_ins a1.2, by rw [m_circle]; trivial⟩, fun a h => by cases h; exact a1.1⟩⟩
  have te : ∀ (G : DH) (n : Nat), Dat (some (d, l)) G (n + 1) (.tup []) := fun G n => dT (by simp) m0
  refine NewO.runQ (fun G x => WX (some (d, l)) G x) 11 ok5 (fun G6 e6 ok6 => mc (.inl .bl) (mc (.inl .int) (mc (.inl (.str (by decide +kernel))) (mc (w20 (by decide) (te _ 0)) (mc (w20 (by decide) (pD (te _ 0) (te _ 0))) (mc (w20 (by decide) (dT (by simp) (m1 (te _ 0)))) (mc (w20 (by decide) (pD (n := 2) (dT (by simp) (m1 (te _ 0))) (te _ 1))) (mc (w20 (by decide) (pD (n := 2) (dT (n := 1) (by simp) (m1 (dT (n := 0) (by simp) (m1 .int)))) (dT (n := 1) (by simp) (m1 .int)))) (mc (w20 (by decide) (pD (n := 2) (dT (n := 1) (by simp) (m1 (dT (n := 0) (by simp) (mc .int (m1 .int))))) (te _ 1))) (mc (w20 (by decide) (pD (n := 2) (dT (n := 1) (by simp) (m1 (te _ 0))) (dT (n := 1) (by simp) (m1 .int)))) (m1 (tyc _ e6)))))))))))) (by simp) fun sm G6 ss e6 ok6 ks hss hsl hse => ?_
  (try simp only [dZ, dG, boR, coR, bfD, bmD, bmT, wipeD, sizeLine, Nat.reduceAdd, Nat.reducePow, Nat.reduceLeDiff, reduceIte, String.reduceBEq])
  ((first | rw [e_cons] | (dsimp only; rw [e_cons])); try simp only [dZ, dG, boR, coR, bfD, bmD, bmT, wipeD, sizeLine, Nat.reduceAdd, Nat.reducePow, Nat.reduceLeDiff, reduceIte, String.reduceBEq])
  refine ⟨by decide, by decide, ?_⟩
  refine LcK.run (D := some (d, l)) (fun j l => ∀ x ∈ l, x ∈ ss) ok6 (by rw [rngD_len]; decide) (fun _ _ => by trivial) (by simp) (fun j' l' G7 x e7 ok7 hx hi => ?_) fun q2 G7 l2 e7 ok7 kq2 hl2 _ hi2 => ?_
  · (try simp only [dZ, dG, boR, coR, bfD, bmD, bmT, wipeD, sizeLine, Nat.reduceAdd, Nat.reducePow, Nat.reduceLeDiff, reduceIte, String.reduceBEq])
    refine fun K1 K2 k1 k2 => pick_use h7 (.inr ⟨sm, rfl, ks.mono e7⟩) (fun h => by rw [h] at hse; simp at hse) (by omega) ok7 fun y G8 e8 ok8 hy => k1 y G8 e8 ok8 fun z hz => ?_
    rcases List.mem_append.mp hz with h | h
    · exact hi z h
    · rw [List.mem_singleton.mp h]; exact hy
  rw [rngD_len] at hl2
  refine o_addL (kt.mono (e6.trans e7)).2 kq2.2 (by omega) ?_
  refine NewO.runQ (fun G x => WX (some (d, l)) G x) 27 ok7 (fun G5 e5 ok5 => m2 (fun x hx => (hts x hx).mono (e6.trans (e7.trans e5))) fun x hx => (hss x (hi2 x hx)).mono (e7.trans e5)) (by rw [List.length_append]; have : (3 : Int).toNat = 3 := rfl; omega) fun t3 G8 ts3 e8 ok8 kt3 hts3 htl3 _ => ?_
  have e08 := e03.trans (e4.trans (e5.trans (e6.trans (e7.trans e8))))
  have kc8 := kc.mono e08
  have wd8 := wd.mono e08
  refine ⟨_, it_kn kt3 G8 (Ext.refl _ _), ?_⟩
  refine ForK.run (fun i τ' G' => ∃ a7 a10 a11, τ' = [c0, some (.ref d), c2, some (.ref w), some (.ref nr), some (.ref t2), some (.ref sm), a7, some (.ref c), c9, a10, a11, c12, c13, c14, c15] ∧ Ext (some (d, l)) G8 G' ∧ okD (some (d, l)) G') ⟨_, _, _, rfl, Ext.refl _ _, ok8⟩ (fun _ _ G' ⟨_, _, _, _, e', _⟩ => it_kn kt3 G' e') (fun i τ' G' x hx ⟨a7, a10, a11, eτ, e', ok'⟩ => ?_) fun τ' G' ⟨a7, a10, a11, eτ, e', ok'⟩ => ?_
  · have hxx := hts3 x (List.mem_of_getElem? hx)
    subst eτ
    (try simp only [dZ, dG, boR, coR, bfD, bmD, bmT, wipeD, sizeLine, Nat.reduceAdd, Nat.reducePow, Nat.reduceLeDiff, reduceIte, String.reduceBEq])
    ((first | rw [e_cons] | (dsimp only; rw [e_cons])); try simp only [dZ, dG, boR, coR, bfD, bmD, bmT, wipeD, sizeLine, Nat.reduceAdd, Nat.reducePow, Nat.reduceLeDiff, reduceIte, String.reduceBEq])
    refine SP.use h8 (w, deeds, x) ok' ⟨rfl, wd8.mono e', hxx.mono e'⟩ fun v H1 f1 o1 hv => ?_
    subst hv
    (try simp only [dZ, dG, boR, coR, bfD, bmD, bmT, wipeD, sizeLine, Nat.reduceAdd, Nat.reducePow, Nat.reduceLeDiff, reduceIte, String.reduceBEq])
    ((first | rw [e_cons] | (dsimp only; rw [e_cons])); try simp only [dZ, dG, boR, coR, bfD, bmD, bmT, wipeD, sizeLine, Nat.reduceAdd, Nat.reducePow, Nat.reduceLeDiff, reduceIte, String.reduceBEq])
    refine SP.use h13 (c, nms, x) o1 ⟨rfl, kc8.mono (e'.trans f1), hxx.mono (e'.trans f1)⟩ fun v H2 f2 o2 hv => ?_
    subst hv
    have hp : pmV [1, 0] [] [x, DV.ref c] = [.ref c, x] := rfl
    rw [hp]
    refine ⟨rfl, ?_⟩
    refine SP.use h13 (c, nms, x) o2 ⟨rfl, kc8.mono (e'.trans (f1.trans f2)), hxx.mono (e'.trans (f1.trans f2))⟩ fun v H3 f3 o3 hv => ?_
    subst hv
    dsimp only
    rw [hnd]
    generalize isW deeds.length x = b
    refine NewO.run o3 fun p1 H4 f4 o4 k4 _ => ?_
    (try simp only [dZ, dG, boR, coR, bfD, bmD, bmT, wipeD, sizeLine, Nat.reduceAdd, Nat.reducePow, Nat.reduceLeDiff, reduceIte, String.reduceBEq])
    ((first | rw [e_cons] | (dsimp only; rw [e_cons])); try simp only [dZ, dG, boR, coR, bfD, bmD, bmT, wipeD, sizeLine, Nat.reduceAdd, Nat.reducePow, Nat.reduceLeDiff, reduceIte, String.reduceBEq])
    refine NewO.run o4 fun p2 H5 f5 o5 k5 _ => ?_
    have sm : SameL (some (d, l)) H5 49 (1 + (1 + 0)) [.bl b, .bl b] [.bl b, .bl b] := .cons .bl (.cons .bl .nil)
    refine SP.use h12 (_, .ref p1, .ref p2) o5 ⟨rfl, .lst (k4.mono f5) k5 sm (by simp), by simp⟩ fun v H6 f6 o6 hv => ?_
    subst hv
    (try simp only [dZ, dG, boR, coR, bfD, bmD, bmT, wipeD, sizeLine, Nat.reduceAdd, Nat.reducePow, Nat.reduceLeDiff, reduceIte, String.reduceBEq])
    (first | (rw [e_nil]; try dsimp only) | (dsimp only; rw [e_nil]; try dsimp only))
    (first | (rw [e_nil]; try dsimp only) | (dsimp only; rw [e_nil]; try dsimp only))
    exact ⟨_, _, _, rfl, e'.trans (f1.trans (f2.trans (f3.trans (f4.trans (f5.trans f6))))), o6⟩
  · subst eτ
    have kc9 := kc8.mono e'
    ((first | rw [e_cons] | (dsimp only; rw [e_cons])); try simp only [dZ, dG, boR, coR, bfD, bmD, bmT, wipeD, sizeLine, Nat.reduceAdd, Nat.reducePow, Nat.reduceLeDiff, reduceIte, String.reduceBEq])
    refine SP.use h4 ((d, l), w, deeds) ok' ⟨rfl, rfl, wd8.mono e', hn⟩ fun v H1 f1 o1 hv => ?_
    obtain ⟨rows, good, rfl, W⟩ := hv
    have W1 := W.le
    have W2 := W.g
    have hrd : ∀ (m : Nat) (D : Dk) (G : DH), ∀ x ∈ rows.map rowD, Dat D G (m + 1) x := fun m D G x hx => by
      obtain ⟨r, hr, rfl⟩ := List.mem_map.mp hx
      exact dT (by rw [List.length_map, (W.r r hr).1]; dsimp only; omega) dI
    (try simp only [dZ, dG, boR, coR, bfD, bmD, bmT, wipeD, sizeLine, Nat.reduceAdd, Nat.reducePow, Nat.reduceLeDiff, reduceIte, String.reduceBEq])
    ((first | rw [e_cons] | (dsimp only; rw [e_cons])); try simp only [dZ, dG, boR, coR, bfD, bmD, bmT, wipeD, sizeLine, Nat.reduceAdd, Nat.reducePow, Nat.reduceLeDiff, reduceIte, String.reduceBEq])
    rw [o_list (ys := rows.map rowD) rfl]
    refine NewO.run o1 fun a1 H2 f2 o2 ka1 _ => ?_
    rw [o_list (ys := good.map .int) rfl]
    refine NewO.run o2 fun a2 H3 f3 o3 ka2 _ => ?_
    refine NewO.run o3 fun p H4 f4 o4 kp _ => ?_
    (try simp only [dZ, dG, boR, coR, bfD, bmD, bmT, wipeD, sizeLine, Nat.reduceAdd, Nat.reducePow, Nat.reduceLeDiff, reduceIte, String.reduceBEq])
    ((first | rw [e_cons] | (dsimp only; rw [e_cons])); try simp only [dZ, dG, boR, coR, bfD, bmD, bmT, wipeD, sizeLine, Nat.reduceAdd, Nat.reducePow, Nat.reduceLeDiff, reduceIte, String.reduceBEq])
    have f04 := f1.trans (f2.trans (f3.trans f4))
    refine SP.use h13 (c, nms, .ref p) o4 ⟨rfl, kc9.mono f04, w20 (n := 4) (by decide) (Dat.lst kp (mc (Dat.lst (ka1.mono (f3.trans f4)) (hrd 1 _ _)) (m1 (Dat.lst (ka2.mono f4) dI))))⟩ fun v H5 f5 o5 hv => ?_
    subst hv
    rw [show isW (c, nms, DV.ref p).2.1.length (c, nms, DV.ref p).2.2 = false from rfl]
    (try simp only [dZ, dG, boR, coR, bfD, bmD, bmT, wipeD, sizeLine, Nat.reduceAdd, Nat.reducePow, Nat.reduceLeDiff, reduceIte, String.reduceBEq])
    rw [o_list (ys := rows.map rowD) rfl]
    refine NewO.run o5 fun b1 H6 f6 o6 kb1 _ => ?_
    rw [o_list (ys := good.map .int) rfl]
    refine NewO.run o6 fun b2 H7 f7 o7 kb2 _ => ?_
    refine NewO.run o7 fun q H8 f8 o8 kq _ => ?_
    obtain ⟨ps, hp1, hp2⟩ := omap_pd (f := toPD H8 58) (xs := rows.map rowD) fun x hx => (hrd 0 (some (d, l)) H8 x hx).pd.up (by decide)
    obtain ⟨qs, hq1, hq2⟩ := omap_pd (f := toPD H8 58) (xs := good.map DV.int) fun x hx => (dI (D := some (d, l)) (n := 58) x hx).pd
    refine o_ne_same (toPD_two (kp.mono (f5.trans (f6.trans (f7.trans f8)))).2 (ka1.mono (f3.trans (f4.trans (f5.trans (f6.trans (f7.trans f8)))))).2 (ka2.mono (f4.trans (f5.trans (f6.trans (f7.trans f8))))).2 hp1 hq1) (toPD_two kq.2 (kb1.mono (f7.trans f8)).2 (kb2.mono f8).2 hp1 hq1) (by simp [PyData.canLay0, PyData.canLayAll0, hp2, hq2]) ?_
    (try simp only [dZ, dG, boR, coR, bfD, bmD, bmT, wipeD, sizeLine, Nat.reduceAdd, Nat.reducePow, Nat.reduceLeDiff, reduceIte, String.reduceBEq])
    repeat (first | (rw [e_nil]; try dsimp only) | (dsimp only; rw [e_nil]; try dsimp only))
    exact hnx _ _ _ _ _ _ _ _ _ _ _ _ _ _ _ _ o8
end DL
end
section
set_option Elab.async false
set_option linter.all false
set_option maxRecDepth 100000
set_option autoImplicit false
set_option maxHeartbeats 400000
namespace DL
open PySem PySem.Spec PyProof.Rows L2
open PySem.PyData (strOk)
theorem deedsN_of {K : KL} {m s : Int} {nms : List Str} {deeds : List DV} (h1 : nms.length = deeds.length) (h2 : ∀ p ∈ nms.zip deeds, DeedOk K m s p.1 p.2) : DeedsN nms deeds := ⟨h1, fun p hp => by
  obtain ⟨o, need, moves, e, _⟩ := (h2 p hp).ex
  exact ⟨_, e⟩⟩
theorem law_body {C : Nat → DSp} (h3 : Has C 3 S_near) (h4 : Has C 4 S_drawnW) (h6 : Has C 6 S_code) (h7 : Has C 7 S_pick) (h8 : Has C 8 S_lisW) (h9 : Has C 9 (S_made 2)) (h10 : Has C 10 S_names) (h11 : Has C 11 S_done) (h12 : Has C 12 S_same) (h13 : Has C 13 S_isW) (h14 : Has C 14 (S_recipe 2)) (h15 : Has C 15 S_opp) (h16 : Has C 16 S_both)
    {d l w : Addr} {G : DH} {K : KL} {bn : List Str} {ops : List DV} {m s : Int} {nms : List Str} {deeds lots : List DV} {kvs : List (Key × DV)} {Dn : DEnds} {EX : DXK} {c0 c2 c4 c5 c6 c7 c8 c9 c10 c11 c12 c13 c14 c15 : Option DV}
    (ok : okD (some (d, l)) G) (W : CW (some (d, l)) G w K bn ops m s nms deeds lots kvs)
    (hnx : ∀ (e0 e2 e3 e4 e5 e6 e7 e8 e9 e10 e11 e12 e13 e14 e15 : Option DV) (G' : DH), okD (some (d, l)) G' → Dn.nx [e0, some (.ref d), e2, e3, e4, e5, e6, e7, e8, e9, e10, e11, e12, e13, e14, e15] G') :
    denSs tabs C EX [
      .par2 8 5 (.call "_law_code" 6 1 [.v 3]) (.lst [.call "_law_watcher" 4 2 [.v 1, .v 3]]),
      .ifs (.cmp .ne (.ix (.v 3) (.str "deeds")) (.tup [])) [
        .expr (.bm .append (.v 5) [.call "_law_made" 9 2 [.v 3, .call "_law_recipe" 14 3 [.v 1, .v 3, .int 2]]]),
        .asg (.n 9) (.call "_law_pick" 7 2 [.v 1, .call "_law_names" 10 1 [.v 3]]),
        .par2 14 10 (.call "done" 11 2 [.v 8, .v 9]) (.call "_law_made" 9 2 [.v 3, .tup [.str "done", .v 9]]),
        .ifs (.not (.call "_law_same" 12 2 [.v 14, .v 10])) [
          .ret (.bl false)] [],
        .asg (.n 5) (.bin .add (.v 5) (.lst [.v 14, .call "opposite" 15 2 [.v 8, .v 14], .call "both" 16 3 [.v 8, .v 14, .ix (.v 5) (.int 0)]]))] [],
      .asg (.n 4) (.call "_law_near_watchers" 3 3 [.v 1, .v 3, .call "_law_pick" 7 2 [.v 1, .slH (.v 5) (.int 2)]]),
      .asg (.n 5) (.bin .add (.v 5) (.lc [15] (.n 15) .rng1 [.int 14] [] (.call "_law_pick" 7 2 [.v 1, .v 4]))),
      .asg (.n 6) (.lst [.bl true, .int 7, .str "", .tup [], .tup [.tup [], .tup []], .tup [.tup []], .tup [.tup [.tup []], .tup []], .tup [.tup [.tup [.int 0]], .tup [.int 0]], .tup [.tup [.tup [.int 0, .int 0]], .tup []], .tup [.tup [.tup []], .tup [.int 0]], .v 8]),
      .for_ (.n 7) .seq [.bin .add (.v 5) (.lc [15] (.n 15) .rng1 [.int 3] [] (.call "_law_pick" 7 2 [.v 1, .v 6]))] [
        .asg (.n 10) (.call "_law_is_watcher" 8 2 [.v 3, .v 7]),
        .asg (.n 11) (.lst [.call "is_watcher" 13 2 [.v 8, .v 7], .callK "is_watcher" 13 2 0 [1, 0] ["circle", "thing"] ["thing", "circle"] [] [.v 7, .v 8]]),
        .ifs (.not (.call "_law_same" 12 2 [.v 11, .lst [.v 10, .v 10]])) [
          .ret (.bl false)] []],
      .asg (.t [.n 12, .n 13]) (.call "_law_watcher" 4 2 [.v 1, .v 3]),
      .asg (.n 7) (.lst [.bf .list [.v 12], .bf .list [.v 13]]),
      .ifs (.or [.cmp .nis (.call "is_watcher" 13 2 [.v 8, .v 7]) (.bl false), .cmp .ne (.v 7) (.lst [.bf .list [.v 12], .bf .list [.v 13]])]) [
        .ret (.bl false)] []] Dn [c0, some (.ref d), c2, some (.ref w), c4, c5, c6, c7, c8, c9, c10, c11, c12, c13, c14, c15] G := by
  have hsz : sizeLine = 16777216 := rfl
  have hnd := W.co.nl
  have hn := W.co.dl
  have wd : WDeeds (some (d, l)) G w deeds := ⟨kvs, W.kn, W.dd⟩
  have dN := deedsN_of hnd W.co.dk
  ((first | rw [e_cons] | (dsimp only; rw [e_cons])); try simp only [dZ, dG, boR, coR, bfD, bmD, bmT, wipeD, sizeLine, Nat.reduceAdd, Nat.reducePow, Nat.reduceLeDiff, reduceIte, String.reduceBEq])
  refine SP.use h6 (w, K, bn, ops, m, s, nms, deeds, lots, kvs) ok ⟨rfl, W⟩ fun v G1 e1 ok1 ⟨c, hv, kc⟩ => ?_
  subst hv
  (try simp only [dZ, dG, boR, coR, bfD, bmD, bmT, wipeD, sizeLine, Nat.reduceAdd, Nat.reducePow, Nat.reduceLeDiff, reduceIte, String.reduceBEq])
  refine SP.use h4 ((d, l), w, deeds) ok1 ⟨rfl, rfl, wd.mono e1, hn⟩ fun wx G2 e2 ok2 hwx => ?_
  (try simp only [dZ, dG, boR, coR, bfD, bmD, bmT, wipeD, sizeLine, Nat.reduceAdd, Nat.reducePow, Nat.reduceLeDiff, reduceIte, String.reduceBEq])
  refine NewO.run ok2 fun th G3 e3 ok3 kth fth => ?_
  have e03 := e1.trans (e2.trans e3)
  (try simp only [dZ, dG, boR, coR, bfD, bmD, bmT, wipeD, sizeLine, Nat.reduceAdd, Nat.reducePow, Nat.reduceLeDiff, reduceIte, String.reduceBEq])
  ((first | rw [e_cons] | (dsimp only; rw [e_cons])); try simp only [dZ, dG, boR, coR, bfD, bmD, bmT, wipeD, sizeLine, Nat.reduceAdd, Nat.reducePow, Nat.reduceLeDiff, reduceIte, String.reduceBEq])
  refine ix_w (W.kn.mono e03) W.dd ?_
  refine o_neE (fun x hx => ?_) ?_
  · obtain ⟨nm, hm⟩ := zip_mem_right hnd hx
    exact (W.co.dk _ hm).pd.up (by decide)
  refine ⟨_, rfl, ?_⟩
  cases hie : deeds.isEmpty with
  | true =>
    (try simp only [dZ, dG, boR, coR, bfD, bmD, bmT, wipeD, sizeLine, Nat.reduceAdd, Nat.reducePow, Nat.reduceLeDiff, reduceIte, String.reduceBEq])
    (first | (rw [e_nil]; try dsimp only) | (dsimp only; rw [e_nil]; try dsimp only))
    exact law_rest h3 h4 h7 h8 h12 h13 ok3 (kc.mono (e2.trans e3)) (wd.mono e03) hnd hn kth (by simp) (by simp) (m1 (hwx.up (by decide))) hnx
  | false =>
    have hnn : nms ≠ [] := fun h => by
      rw [h] at hnd
      cases deeds with
      | nil => cases hie
      | cons _ _ => simp at hnd
    (try simp only [dZ, dG, boR, coR, bfD, bmD, bmT, wipeD, sizeLine, Nat.reduceAdd, Nat.reducePow, Nat.reduceLeDiff, reduceIte, String.reduceBEq])
    ((first | rw [e_cons] | (dsimp only; rw [e_cons])); try simp only [dZ, dG, boR, coR, bfD, bmD, bmT, wipeD, sizeLine, Nat.reduceAdd, Nat.reducePow, Nat.reduceLeDiff, reduceIte, String.reduceBEq])
    refine ⟨ty_lst kth, ?_⟩
    refine SP.use h14 ((d, l), w, deeds, nms) ok3 ⟨rfl, rfl, wd.mono e03, dN, hn, hnn⟩ fun rc G4 e4 ok4 hrc => ?_
    (try simp only [dZ, dG, boR, coR, bfD, bmD, bmT, wipeD, sizeLine, Nat.reduceAdd, Nat.reducePow, Nat.reduceLeDiff, reduceIte, String.reduceBEq])
    refine SP.use h9 (w, deeds, nms, rc) ok4 ⟨rfl, wd.mono (e03.trans e4), dN, hn, hrc, by decide⟩ fun mx G5 e5 ok5 hmx => ?_
    (try simp only [dZ, dG, boR, coR, bfD, bmD, bmT, wipeD, sizeLine, Nat.reduceAdd, Nat.reducePow, Nat.reduceLeDiff, reduceIte, String.reduceBEq])
    refine app_step ok2 fth (e3.trans (e4.trans e5)) (kth.mono (e4.trans e5)) (by show 1 < sizeLine; decide) fun G6 e6 ok6 kth6 _ => ?_
    have e06 := e1.trans (e2.trans e6)
    have kc6 := kc.mono (e2.trans e6)
    ((first | rw [e_cons] | (dsimp only; rw [e_cons])); try simp only [dZ, dG, boR, coR, bfD, bmD, bmT, wipeD, sizeLine, Nat.reduceAdd, Nat.reducePow, Nat.reduceLeDiff, reduceIte, String.reduceBEq])
    refine SP.use h10 (w, deeds, nms) ok6 ⟨rfl, wd.mono e06, dN, hn⟩ fun v G7 e7 ok7 ⟨p, hv, kp⟩ => ?_
    subst hv
    (try simp only [dZ, dG, boR, coR, bfD, bmD, bmT, wipeD, sizeLine, Nat.reduceAdd, Nat.reducePow, Nat.reduceLeDiff, reduceIte, String.reduceBEq])
    refine pick_use h7 (.inr ⟨p, rfl, kp⟩) (by simpa using hnn) (by rw [List.length_map]; dsimp only; omega) ok7 fun sv G8 e8 ok8 hsv => ?_
    obtain ⟨nm, hnm, rfl⟩ := List.mem_map.mp hsv
    (try simp only [dZ, dG, boR, coR, bfD, bmD, bmT, wipeD, sizeLine, Nat.reduceAdd, Nat.reducePow, Nat.reduceLeDiff, reduceIte, String.reduceBEq])
    ((first | rw [e_cons] | (dsimp only; rw [e_cons])); try simp only [dZ, dG, boR, coR, bfD, bmD, bmT, wipeD, sizeLine, Nat.reduceAdd, Nat.reducePow, Nat.reduceLeDiff, reduceIte, String.reduceBEq])
    refine SP.use h11 (c, nms, nm) ok8 ⟨rfl, kc6.mono (e7.trans e8), hnm⟩ fun v G9 e9 ok9 hv => ?_
    subst hv
    (try simp only [dZ, dG, boR, coR, bfD, bmD, bmT, wipeD, sizeLine, Nat.reduceAdd, Nat.reducePow, Nat.reduceLeDiff, reduceIte, String.reduceBEq])
    refine SP.use h9 (w, deeds, nms, .tup [sD "done", .str nm]) ok9 ⟨rfl, wd.mono (e06.trans (e7.trans (e8.trans e9))), dN, hn, .done hnm, by decide⟩ fun v G10 e10 ok10 hv => ?_
    have hv2 := hv.2 nm rfl
    dsimp only at hv2
    subst hv2
    (try simp only [dZ, dG, boR, coR, bfD, bmD, bmT, wipeD, sizeLine, Nat.reduceAdd, Nat.reducePow, Nat.reduceLeDiff, reduceIte, String.reduceBEq])
    ((first | rw [e_cons] | (dsimp only; rw [e_cons])); try simp only [dZ, dG, boR, coR, bfD, bmD, bmT, wipeD, sizeLine, Nat.reduceAdd, Nat.reducePow, Nat.reduceLeDiff, reduceIte, String.reduceBEq])
    obtain ⟨wt, hwt, hst⟩ := same_done (D := some (d, l)) (G := G10) (nms := nms) (s := nm) (by omega)
    refine SP.use h12 (wt, doneD nms nm, doneD nms nm) ok10 ⟨rfl, hst, hwt⟩ fun v G11 e11 ok11 hv => ?_
    subst hv
    (try simp only [dZ, dG, boR, coR, bfD, bmD, bmT, wipeD, sizeLine, Nat.reduceAdd, Nat.reducePow, Nat.reduceLeDiff, reduceIte, String.reduceBEq])
    (first | (rw [e_nil]; try dsimp only) | (dsimp only; rw [e_nil]; try dsimp only))
    ((first | rw [e_cons] | (dsimp only; rw [e_cons])); try simp only [dZ, dG, boR, coR, bfD, bmD, bmT, wipeD, sizeLine, Nat.reduceAdd, Nat.reducePow, Nat.reduceLeDiff, reduceIte, String.reduceBEq])
    have e611 := e7.trans (e8.trans (e9.trans (e10.trans e11)))
    refine SP.use h15 (nms.length, 2, c, doneD nms nm) ok11 ⟨rfl, by show 2 ≤ 1000; decide, done_ok nms nm⟩ fun op G12 e12 ok12 hop => ?_
    have hop : WOk nms.length 2 op := hop
    (try simp only [dZ, dG, boR, coR, bfD, bmD, bmT, wipeD, sizeLine, Nat.reduceAdd, Nat.reducePow, Nat.reduceLeDiff, reduceIte, String.reduceBEq])
    rw [o_ixL (kth6.mono (e611.trans e12)).2]
    refine ⟨wx, at0, ?_⟩
    (try simp only [dZ, dG, boR, coR, bfD, bmD, bmT, wipeD, sizeLine, Nat.reduceAdd, Nat.reducePow, Nat.reduceLeDiff, reduceIte, String.reduceBEq])
    refine SP.use h16 (nms.length, 2, 4, c, doneD nms nm, wx) ok12 ⟨rfl, by dsimp only; omega, by show 2 ≤ 1000; decide, by show 4 ≤ 1000; decide, done_ok nms nm, by rw [hnd]; exact hwx⟩ fun bo G13 e13 ok13 hbo => ?_
    have hbo : WOk nms.length 8 bo := hbo
    (try simp only [dZ, dG, boR, coR, bfD, bmD, bmT, wipeD, sizeLine, Nat.reduceAdd, Nat.reducePow, Nat.reduceLeDiff, reduceIte, String.reduceBEq])
    refine NewO.run ok13 fun nl G14 e14 ok14 knl _ => ?_
    refine o_addL (kth6.mono (e611.trans (e12.trans (e13.trans e14)))).2 knl.2 (by show 5 ≤ sizeLine; decide) ?_
    refine NewO.run ok14 fun th2 G15 e15 ok15 kth2 _ => ?_
    (try simp only [dZ, dG, boR, coR, bfD, bmD, bmT, wipeD, sizeLine, Nat.reduceAdd, Nat.reducePow, Nat.reduceLeDiff, reduceIte, String.reduceBEq])
    (first | (rw [e_nil]; try dsimp only) | (dsimp only; rw [e_nil]; try dsimp only))
    have e615 := e611.trans (e12.trans (e13.trans (e14.trans e15)))
    refine law_rest h3 h4 h7 h8 h12 h13 ok15 (kc6.mono e615) (wd.mono (e06.trans e615)) hnd hn kth2 (by simp) (by simp) ?_ hnx
    rw [← hnd] at hwx ⊢
    exact m2 (m2 (m1 (hwx.up (by decide))) (m1 (hmx.1.up (by decide)))) (mc ((done_ok nms nm).up (by decide)) (mc (hop.up (by decide)) (m1 (hbo.up (by decide)))))
end DL
end
section
set_option Elab.async false
set_option linter.all false
set_option maxRecDepth 100000
set_option autoImplicit false
set_option maxHeartbeats 400000
namespace DL
open PySem PySem.Spec PyProof.Rows L2
open PySem.PyData (strOk)
theorem circ_empty {K : KL} {m s : Int} {nms : List Str} {deeds lots : List DV} (h : CircOk K m s nms deeds lots) : CircOk K m s [] [] lots :=
  ⟨h.m1, h.m2, h.s1, by simp, rfl, rfl, fun p hp => (nomatch hp), h.ll, h.lm, h.lk⟩
theorem sv_law {C : Nat → DSp} (h1 : Has C 1 S_deck) (h2 : Has C 2 S_circle) (h5 : Has C 5 S_draw) (h3 : Has C 3 S_near) (h4 : Has C 4 S_drawnW) (h6 : Has C 6 S_code) (h7 : Has C 7 S_pick) (h8 : Has C 8 S_lisW) (h9 : Has C 9 (S_made 2)) (h10 : Has C 10 S_names) (h11 : Has C 11 S_done) (h12 : Has C 12 S_same) (h13 : Has C 13 S_isW) (h14 : Has C 14 (S_recipe 2)) (h15 : Has C 15 S_opp) (h16 : Has C 16 S_both) : Serves tabs C f_law S_law := fun ds G P EX hl ⟨s, ns, e, hlen, hs, hP⟩ => by
  subst e
  show denSs tabs C EX _ _ [some s, none, none, none, none, none, none, none, none, none, none, none, none, none, none, none] G
  rw [f_law]
  ((first | rw [e_cons] | (dsimp only; rw [e_cons])); try simp only [dZ, dG, boR, coR, bfD, bmD, bmT, wipeD, sizeLine, Nat.reduceAdd, Nat.reducePow, Nat.reduceLeDiff, reduceIte, String.reduceBEq])
  refine SP.use (D := none) h1 (s, ns) trivial ⟨rfl, rfl, hs, hlen⟩ fun v G1 e1 _ ⟨d, l, hv, ok⟩ => ?_
  subst hv
  (try simp only [dZ, dG, boR, coR, bfD, bmD, bmT, wipeD, sizeLine, Nat.reduceAdd, Nat.reducePow, Nat.reduceLeDiff, reduceIte, String.reduceBEq])
  ((first | rw [e_cons] | (dsimp only; rw [e_cons])); try simp only [dZ, dG, boR, coR, bfD, bmD, bmT, wipeD, sizeLine, Nat.reduceAdd, Nat.reducePow, Nat.reduceLeDiff, reduceIte, String.reduceBEq])
  refine ⟨by decide, by decide, ?_⟩
  refine ForK.run (fun i τ' G' => ∃ e0 e2 e3 e4 e5 e6 e7 e8 e9 e10 e11 e12 e13 e14 e15 : Option DV, τ' = [e0, some (.ref d), e2, e3, e4, e5, e6, e7, e8, e9, e10, e11, e12, e13, e14, e15] ∧ okD (some (d, l)) G') ⟨_, _, _, _, _, _, _, _, _, _, _, _, _, _, _, rfl, ok⟩ (fun _ _ _ _ => by trivial) (fun i τ' G' x hx ⟨e0, e2, e3, e4, e5, e6, e7, e8, e9, e10, e11, e12, e13, e14, e15, eτ, ok'⟩ => ?_) fun τ' G' ⟨e0, e2, e3, e4, e5, e6, e7, e8, e9, e10, e11, e12, e13, e14, e15, eτ, ok'⟩ => ?_
  · subst eτ
    (try simp only [dZ, dG, boR, coR, bfD, bmD, bmT, wipeD, sizeLine, Nat.reduceAdd, Nat.reducePow, Nat.reduceLeDiff, reduceIte, String.reduceBEq])
    ((first | rw [e_cons] | (dsimp only; rw [e_cons])); try simp only [dZ, dG, boR, coR, bfD, bmD, bmT, wipeD, sizeLine, Nat.reduceAdd, Nat.reducePow, Nat.reduceLeDiff, reduceIte, String.reduceBEq])
    refine SP.use h2 (d, l) ok' ⟨rfl, rfl⟩ fun v H1 f1 o1 ⟨w, K, bn, ops, m, st, nms, deeds, lots, kvs, hv, W⟩ => ?_
    subst hv
    (try simp only [dZ, dG, boR, coR, bfD, bmD, bmT, wipeD, sizeLine, Nat.reduceAdd, Nat.reducePow, Nat.reduceLeDiff, reduceIte, String.reduceBEq])
    ((first | rw [e_cons] | (dsimp only; rw [e_cons])); try simp only [dZ, dG, boR, coR, bfD, bmD, bmT, wipeD, sizeLine, Nat.reduceAdd, Nat.reducePow, Nat.reduceLeDiff, reduceIte, String.reduceBEq])
    refine draw_use h5 (by decide) (by decide) o1 fun z H2 f2 o2 z0 z1 => ?_
    refine o_eqI ?_
    refine ⟨_, rfl, ?_⟩
    have nx : ∀ (e0 e2 e3 e4 e5 e6 e7 e8 e9 e10 e11 e12 e13 e14 e15 : Option DV) (G' : DH), okD (some (d, l)) G' → ∃ e0_1 e2_1 e3_1 e4_1 e5_1 e6_1 e7_1 e8_1 e9_1 e10_1 e11_1 e12_1 e13_1 e14_1 e15_1 : Option DV, [e0, some (.ref d), e2, e3, e4, e5, e6, e7, e8, e9, e10, e11, e12, e13, e14, e15] = [e0_1, some (.ref d), e2_1, e3_1, e4_1, e5_1, e6_1, e7_1, e8_1, e9_1, e10_1, e11_1, e12_1, e13_1, e14_1, e15_1] ∧ okD (some (d, l)) G' := fun _ _ _ _ _ _ _ _ _ _ _ _ _ _ _ _ o => ⟨_, _, _, _, _, _, _, _, _, _, _, _, _, _, _, rfl, o⟩
    have kw := W.kn.mono f2
    cases decide (z = 0) with
    | true =>
      (try simp only [dZ, dG, boR, coR, bfD, bmD, bmT, wipeD, sizeLine, Nat.reduceAdd, Nat.reducePow, Nat.reduceLeDiff, reduceIte, String.reduceBEq])
      ((first | rw [e_cons] | (dsimp only; rw [e_cons])); try simp only [dZ, dG, boR, coR, bfD, bmD, bmT, wipeD, sizeLine, Nat.reduceAdd, Nat.reducePow, Nat.reduceLeDiff, reduceIte, String.reduceBEq])
      unfold dSet
      dsimp only
      rw [kw.2]
      refine ⟨_, rfl, by have := W.w4.len; have : sizeLine = 16777216 := rfl; omega, ?_⟩
      (first | (rw [e_nil]; try dsimp only) | (dsimp only; rw [e_nil]; try dsimp only))
      have hl9 : kvs.length ≤ 10 := W.w4.len
      refine law_body h3 h4 h6 h7 h8 h9 h10 h11 h12 h13 h14 h15 h16 (o2.wr kw) (K := K) (bn := bn) (ops := ops) (m := m) (s := st) (nms := []) (deeds := []) (lots := lots) ⟨kw.wr, ⟨?_, ?_, ?_, ?_, ?_⟩, ?_, ?_, W.bk, circ_empty W.co⟩ nx
      · unfold putD
        rw [if_pos]
        · rw [List.length_map]; exact hl9
        · rw [List.any_eq_true]
          have := W.dd
          unfold valD at this
          obtain ⟨kv, h1, _⟩ := Option.map_eq_some_iff.mp this
          exact ⟨kv, List.mem_of_find?_eq_some h1, List.find?_some (p := fun kv : Key × DV => decide (kv.1 = kS "deeds")) h1⟩
      · rw [valD_put, if_neg (kS_ne (by decide))]; exact W.w4.k
      · rw [valD_put, if_neg (kS_ne (by decide))]; exact W.w4.o
      · rw [valD_put, if_neg (kS_ne (by decide))]; exact W.w4.m
      · rw [valD_put, if_neg (kS_ne (by decide))]; exact W.w4.s
      · rw [valD_put, if_pos rfl]
      · rw [valD_put, if_neg (kS_ne (by decide))]; exact W.ff
    | false =>
      (try simp only [dZ, dG, boR, coR, bfD, bmD, bmT, wipeD, sizeLine, Nat.reduceAdd, Nat.reducePow, Nat.reduceLeDiff, reduceIte, String.reduceBEq])
      (first | (rw [e_nil]; try dsimp only) | (dsimp only; rw [e_nil]; try dsimp only))
      exact law_body h3 h4 h6 h7 h8 h9 h10 h11 h12 h13 h14 h15 h16 o2 ⟨kw, W.w4, W.dd, W.ff, W.bk, W.co⟩ nx
  · subst eτ
    ((first | rw [e_cons] | (dsimp only; rw [e_cons])); try simp only [dZ, dG, boR, coR, bfD, bmD, bmT, wipeD, sizeLine, Nat.reduceAdd, Nat.reducePow, Nat.reduceLeDiff, reduceIte, String.reduceBEq])
    exact hP _
end DL
end
section
set_option Elab.async false
set_option linter.all false
set_option maxRecDepth 100000
set_option autoImplicit false
set_option maxHeartbeats 1000000
namespace DL
open PySem PySem.Spec PyProof.Rows L2
theorem sv_ascB {C : Nat → DSp} : Serves tabs C f_are_ascending_books S_ascI := SP.serves fun D x ds G EX P ok h k => by
  rcases x with is | ⟨a, ss⟩
  · obtain ⟨e, hl⟩ := h
    subst e
    show denSs tabs C EX _ _ [some _, none, none] G
    rw [f_are_ascending_books, e_cons]
    (try simp only [dZ, dG, boR, coR, bfD, bmD, bmT, wipeD, sizeLine, Nat.reduceAdd, Nat.reducePow, Nat.reduceLeDiff, reduceIte, String.reduceBEq])
    unfold dZip
    (try simp only [dZ, dG, boR, coR, bfD, bmD, bmT, wipeD, sizeLine, Nat.reduceAdd, Nat.reducePow, Nat.reduceLeDiff, reduceIte, String.reduceBEq])
    refine ⟨_, _, ⟨rfl, rfl⟩, .inl ⟨_, _, rfl, rfl, ?_⟩⟩
    rw [cut_1]
    refine LcK.all (D := D) ltD ok (Nat.lt_of_le_of_lt (zip_len _) (by simpa using hl)) (fun _ _ => trivial) (fun x hx => ?_) fun G3 e3 ok3 => k _ _ e3 ok3 (by rw [asc_i])
    rw [← List.map_tail] at hx
    obtain ⟨a, b, rfl⟩ := mem_zip_map hx
    (try simp only [dZ, dG, boR, coR, bfD, bmD, bmT, wipeD, sizeLine, Nat.reduceAdd, Nat.reducePow, Nat.reduceLeDiff, reduceIte, String.reduceBEq])
    exact fun G1 e1 ok1 K1 K2 k1 => k1 G1 (Ext.refl D G1) ok1
  · obtain ⟨e, kn, hl⟩ := h
    subst e
    show denSs tabs C EX _ _ [some _, none, none] G
    rw [f_are_ascending_books, e_cons]
    (try simp only [dZ, dG, boR, coR, bfD, bmD, bmT, wipeD, sizeLine, Nat.reduceAdd, Nat.reducePow, Nat.reduceLeDiff, reduceIte, String.reduceBEq])
    unfold dZip
    (try simp only [dZ, dG, boR, coR, bfD, bmD, bmT, wipeD, sizeLine, Nat.reduceAdd, Nat.reducePow, Nat.reduceLeDiff, reduceIte, String.reduceBEq])
    rw [o_slL kn.2]
    refine NewO.run ok fun p G2 e2 ok2 kn2 _ => ⟨_, _, ⟨rfl, rfl⟩, .inr ⟨_, _, (by simp), (by simp), seq_kn (kn.mono e2), seq_kn kn2, ?_⟩⟩
    rw [cut_1]
    rw [cut_1] at kn2
    refine LcK.all (D := D) ltD ok2 (Nat.lt_of_le_of_lt (zip_len _) (by simpa using hl)) (fun G' e' => ⟨seq_kn ((kn.mono e2).mono e'), seq_kn (kn2.mono e')⟩) (fun x hx => ?_) fun G3 e3 ok3 => k _ _ (e2.trans e3) ok3 (by rw [asc_s])
    rw [← List.map_tail] at hx
    obtain ⟨a, b, rfl⟩ := mem_zip_map hx
    (try simp only [dZ, dG, boR, coR, bfD, bmD, bmT, wipeD, sizeLine, Nat.reduceAdd, Nat.reducePow, Nat.reduceLeDiff, reduceIte, String.reduceBEq])
    exact fun G1 e1 ok1 K1 K2 k1 => k1 G1 (Ext.refl D G1) ok1
def lv (k : Nat) (S : DSp) (n : Nat) : DSp := fun ds G P EX => k ≤ n ∧ S ds G P EX
def lvr (k : Nat) (S : Nat → DSp) (n : Nat) : DSp := fun ds G P EX => ∃ dep, k + dep ≤ n ∧ S dep ds G P EX
theorem serves_lv {T : GT} {C : Nat → DSp} {d : FD} {k n : Nat} {S : DSp} (h : k ≤ n → Serves T C d S) : Serves T C d (lv k S n) := fun ds G P EX hl ⟨hk, hs⟩ => h hk ds G P EX hl hs
theorem serves_lvr {T : GT} {C : Nat → DSp} {d : FD} {k n : Nat} {S : Nat → DSp} (h : ∀ dep, k + dep ≤ n → Serves T C d (S dep)) : Serves T C d (lvr k S n) := fun ds G P EX hl ⟨dep, hk, hs⟩ => h dep hk ds G P EX hl hs
/-- the specs by levels -/
def CC (n f : Nat) : DSp := match f with
  | 0 => lv 15 S_law n
  | 1 => lv 1 S_deck n
  | 2 => lv 6 S_circle n
  | 3 => lv 2 S_near n
  | 4 => lv 2 S_drawnW n
  | 5 => lv 1 S_draw n
  | 6 => lv 14 S_code n
  | 7 => lv 2 S_pick n
  | 8 => lv 2 S_lisW n
  | 9 => lvr 2 S_made n
  | 10 => lv 1 S_names n
  | 11 => lv 2 S_done n
  | 12 => lv 1 S_same n
  | 13 => lv 3 S_isW n
  | 14 => lvr 3 S_recipe n
  | 15 => lv 1 S_opp n
  | 16 => lv 3 S_both n
  | 17 => lv 1 S_books n
  | 18 => lv 2 S_words n
  | 19 => lvr 3 S_thing n
  | 20 => lv 13 S_Circle n
  | 21 => lv 7 S_Book n
  | 22 => lv 1 S_lstand n
  | 23 => lv 1 S_deedOf n
  | 24 => lv 2 S_stand n
  | 25 => lv 2 S_isRow n
  | 26 => lv 1 S_pairR n
  | 27 => lv 2 S_pairS n
  | 28 => lv 12 S_deeds n
  | 29 => lv 9 S_firsts n
  | 30 => lv 1 S_place n
  | 31 => lv 4 S_kinds n
  | 32 => lv 6 S_openings n
  | 33 => lv 1 S_ascI n
  | 34 => lv 11 S_deed n
  | 35 => lv 8 S_isThing n
  | 36 => lv 1 S_ascI n
  | 37 => lv 3 S_kind n
  | 38 => lv 5 S_opening n
  | 39 => lv 2 S_word n
  | 40 => lv 10 S_move n
  | 41 => lvr 3 S_thingBy n
  | 42 => lv 1 S_int n
  | 43 => lv 2 S_placeB n
  | 44 => lv 4 S_need n
  | 45 => lv 1 S_short n
  | 46 => lv 9 S_show n
  | 47 => lv 2 S_name n
  | 48 => lv 3 S_single n
  | 49 => lv 2 S_members n
  | 50 => lv 1 S_lam n
  | _ => fun _ _ _ _ => False
theorem cc0 (n : Nat) : CC n 0 = lv 15 S_law n := rfl
theorem cc1 (n : Nat) : CC n 1 = lv 1 S_deck n := rfl
theorem cc2 (n : Nat) : CC n 2 = lv 6 S_circle n := rfl
theorem cc3 (n : Nat) : CC n 3 = lv 2 S_near n := rfl
theorem cc4 (n : Nat) : CC n 4 = lv 2 S_drawnW n := rfl
theorem cc5 (n : Nat) : CC n 5 = lv 1 S_draw n := rfl
theorem cc6 (n : Nat) : CC n 6 = lv 14 S_code n := rfl
theorem cc7 (n : Nat) : CC n 7 = lv 2 S_pick n := rfl
theorem cc8 (n : Nat) : CC n 8 = lv 2 S_lisW n := rfl
theorem cc9 (n : Nat) : CC n 9 = lvr 2 S_made n := rfl
theorem cc10 (n : Nat) : CC n 10 = lv 1 S_names n := rfl
theorem cc11 (n : Nat) : CC n 11 = lv 2 S_done n := rfl
theorem cc12 (n : Nat) : CC n 12 = lv 1 S_same n := rfl
theorem cc13 (n : Nat) : CC n 13 = lv 3 S_isW n := rfl
theorem cc14 (n : Nat) : CC n 14 = lvr 3 S_recipe n := rfl
theorem cc15 (n : Nat) : CC n 15 = lv 1 S_opp n := rfl
theorem cc16 (n : Nat) : CC n 16 = lv 3 S_both n := rfl
theorem cc17 (n : Nat) : CC n 17 = lv 1 S_books n := rfl
theorem cc18 (n : Nat) : CC n 18 = lv 2 S_words n := rfl
theorem cc19 (n : Nat) : CC n 19 = lvr 3 S_thing n := rfl
theorem cc20 (n : Nat) : CC n 20 = lv 13 S_Circle n := rfl
theorem cc21 (n : Nat) : CC n 21 = lv 7 S_Book n := rfl
theorem cc22 (n : Nat) : CC n 22 = lv 1 S_lstand n := rfl
theorem cc23 (n : Nat) : CC n 23 = lv 1 S_deedOf n := rfl
theorem cc24 (n : Nat) : CC n 24 = lv 2 S_stand n := rfl
theorem cc25 (n : Nat) : CC n 25 = lv 2 S_isRow n := rfl
theorem cc26 (n : Nat) : CC n 26 = lv 1 S_pairR n := rfl
theorem cc27 (n : Nat) : CC n 27 = lv 2 S_pairS n := rfl
theorem cc28 (n : Nat) : CC n 28 = lv 12 S_deeds n := rfl
theorem cc29 (n : Nat) : CC n 29 = lv 9 S_firsts n := rfl
theorem cc30 (n : Nat) : CC n 30 = lv 1 S_place n := rfl
theorem cc31 (n : Nat) : CC n 31 = lv 4 S_kinds n := rfl
theorem cc32 (n : Nat) : CC n 32 = lv 6 S_openings n := rfl
theorem cc33 (n : Nat) : CC n 33 = lv 1 S_ascI n := rfl
theorem cc34 (n : Nat) : CC n 34 = lv 11 S_deed n := rfl
theorem cc35 (n : Nat) : CC n 35 = lv 8 S_isThing n := rfl
theorem cc36 (n : Nat) : CC n 36 = lv 1 S_ascI n := rfl
theorem cc37 (n : Nat) : CC n 37 = lv 3 S_kind n := rfl
theorem cc38 (n : Nat) : CC n 38 = lv 5 S_opening n := rfl
theorem cc39 (n : Nat) : CC n 39 = lv 2 S_word n := rfl
theorem cc40 (n : Nat) : CC n 40 = lv 10 S_move n := rfl
theorem cc41 (n : Nat) : CC n 41 = lvr 3 S_thingBy n := rfl
theorem cc42 (n : Nat) : CC n 42 = lv 1 S_int n := rfl
theorem cc43 (n : Nat) : CC n 43 = lv 2 S_placeB n := rfl
theorem cc44 (n : Nat) : CC n 44 = lv 4 S_need n := rfl
theorem cc45 (n : Nat) : CC n 45 = lv 1 S_short n := rfl
theorem cc46 (n : Nat) : CC n 46 = lv 9 S_show n := rfl
theorem cc47 (n : Nat) : CC n 47 = lv 2 S_name n := rfl
theorem cc48 (n : Nat) : CC n 48 = lv 3 S_single n := rfl
theorem cc49 (n : Nat) : CC n 49 = lv 2 S_members n := rfl
theorem cc50 (n : Nat) : CC n 50 = lv 1 S_lam n := rfl
theorem has0 {n : Nat} (h : 15 ≤ n) : Has (CC n) 0 S_law := fun ds G P EX q => by rw [cc0]; exact ⟨h, q⟩
theorem has1 {n : Nat} (h : 1 ≤ n) : Has (CC n) 1 S_deck := fun ds G P EX q => by rw [cc1]; exact ⟨h, q⟩
theorem has2 {n : Nat} (h : 6 ≤ n) : Has (CC n) 2 S_circle := fun ds G P EX q => by rw [cc2]; exact ⟨h, q⟩
theorem has3 {n : Nat} (h : 2 ≤ n) : Has (CC n) 3 S_near := fun ds G P EX q => by rw [cc3]; exact ⟨h, q⟩
theorem has4 {n : Nat} (h : 2 ≤ n) : Has (CC n) 4 S_drawnW := fun ds G P EX q => by rw [cc4]; exact ⟨h, q⟩
theorem has5 {n : Nat} (h : 1 ≤ n) : Has (CC n) 5 S_draw := fun ds G P EX q => by rw [cc5]; exact ⟨h, q⟩
theorem has6 {n : Nat} (h : 14 ≤ n) : Has (CC n) 6 S_code := fun ds G P EX q => by rw [cc6]; exact ⟨h, q⟩
theorem has7 {n : Nat} (h : 2 ≤ n) : Has (CC n) 7 S_pick := fun ds G P EX q => by rw [cc7]; exact ⟨h, q⟩
theorem has8 {n : Nat} (h : 2 ≤ n) : Has (CC n) 8 S_lisW := fun ds G P EX q => by rw [cc8]; exact ⟨h, q⟩
theorem has9 {n : Nat} (m : Nat) (h : 2 + m ≤ n) : Has (CC n) 9 (S_made m) := fun ds G P EX q => by rw [cc9]; exact ⟨m, h, q⟩
theorem has10 {n : Nat} (h : 1 ≤ n) : Has (CC n) 10 S_names := fun ds G P EX q => by rw [cc10]; exact ⟨h, q⟩
theorem has11 {n : Nat} (h : 2 ≤ n) : Has (CC n) 11 S_done := fun ds G P EX q => by rw [cc11]; exact ⟨h, q⟩
theorem has12 {n : Nat} (h : 1 ≤ n) : Has (CC n) 12 S_same := fun ds G P EX q => by rw [cc12]; exact ⟨h, q⟩
theorem has13 {n : Nat} (h : 3 ≤ n) : Has (CC n) 13 S_isW := fun ds G P EX q => by rw [cc13]; exact ⟨h, q⟩
theorem has14 {n : Nat} (m : Nat) (h : 3 + m ≤ n) : Has (CC n) 14 (S_recipe m) := fun ds G P EX q => by rw [cc14]; exact ⟨m, h, q⟩
theorem has15 {n : Nat} (h : 1 ≤ n) : Has (CC n) 15 S_opp := fun ds G P EX q => by rw [cc15]; exact ⟨h, q⟩
theorem has16 {n : Nat} (h : 3 ≤ n) : Has (CC n) 16 S_both := fun ds G P EX q => by rw [cc16]; exact ⟨h, q⟩
theorem has17 {n : Nat} (h : 1 ≤ n) : Has (CC n) 17 S_books := fun ds G P EX q => by rw [cc17]; exact ⟨h, q⟩
theorem has18 {n : Nat} (h : 2 ≤ n) : Has (CC n) 18 S_words := fun ds G P EX q => by rw [cc18]; exact ⟨h, q⟩
theorem has19 {n : Nat} (m : Nat) (h : 3 + m ≤ n) : Has (CC n) 19 (S_thing m) := fun ds G P EX q => by rw [cc19]; exact ⟨m, h, q⟩
theorem has20 {n : Nat} (h : 13 ≤ n) : Has (CC n) 20 S_Circle := fun ds G P EX q => by rw [cc20]; exact ⟨h, q⟩
theorem has21 {n : Nat} (h : 7 ≤ n) : Has (CC n) 21 S_Book := fun ds G P EX q => by rw [cc21]; exact ⟨h, q⟩
theorem has22 {n : Nat} (h : 1 ≤ n) : Has (CC n) 22 S_lstand := fun ds G P EX q => by rw [cc22]; exact ⟨h, q⟩
theorem has23 {n : Nat} (h : 1 ≤ n) : Has (CC n) 23 S_deedOf := fun ds G P EX q => by rw [cc23]; exact ⟨h, q⟩
theorem has24 {n : Nat} (h : 2 ≤ n) : Has (CC n) 24 S_stand := fun ds G P EX q => by rw [cc24]; exact ⟨h, q⟩
theorem has25 {n : Nat} (h : 2 ≤ n) : Has (CC n) 25 S_isRow := fun ds G P EX q => by rw [cc25]; exact ⟨h, q⟩
theorem has26 {n : Nat} (h : 1 ≤ n) : Has (CC n) 26 S_pairR := fun ds G P EX q => by rw [cc26]; exact ⟨h, q⟩
theorem has27 {n : Nat} (h : 2 ≤ n) : Has (CC n) 27 S_pairS := fun ds G P EX q => by rw [cc27]; exact ⟨h, q⟩
theorem has28 {n : Nat} (h : 12 ≤ n) : Has (CC n) 28 S_deeds := fun ds G P EX q => by rw [cc28]; exact ⟨h, q⟩
theorem has29 {n : Nat} (h : 9 ≤ n) : Has (CC n) 29 S_firsts := fun ds G P EX q => by rw [cc29]; exact ⟨h, q⟩
theorem has30 {n : Nat} (h : 1 ≤ n) : Has (CC n) 30 S_place := fun ds G P EX q => by rw [cc30]; exact ⟨h, q⟩
theorem has31 {n : Nat} (h : 4 ≤ n) : Has (CC n) 31 S_kinds := fun ds G P EX q => by rw [cc31]; exact ⟨h, q⟩
theorem has32 {n : Nat} (h : 6 ≤ n) : Has (CC n) 32 S_openings := fun ds G P EX q => by rw [cc32]; exact ⟨h, q⟩
theorem has33 {n : Nat} (h : 1 ≤ n) : Has (CC n) 33 S_ascI := fun ds G P EX q => by rw [cc33]; exact ⟨h, q⟩
theorem has34 {n : Nat} (h : 11 ≤ n) : Has (CC n) 34 S_deed := fun ds G P EX q => by rw [cc34]; exact ⟨h, q⟩
theorem has35 {n : Nat} (h : 8 ≤ n) : Has (CC n) 35 S_isThing := fun ds G P EX q => by rw [cc35]; exact ⟨h, q⟩
theorem has36 {n : Nat} (h : 1 ≤ n) : Has (CC n) 36 S_ascI := fun ds G P EX q => by rw [cc36]; exact ⟨h, q⟩
theorem has37 {n : Nat} (h : 3 ≤ n) : Has (CC n) 37 S_kind := fun ds G P EX q => by rw [cc37]; exact ⟨h, q⟩
theorem has38 {n : Nat} (h : 5 ≤ n) : Has (CC n) 38 S_opening := fun ds G P EX q => by rw [cc38]; exact ⟨h, q⟩
theorem has39 {n : Nat} (h : 2 ≤ n) : Has (CC n) 39 S_word := fun ds G P EX q => by rw [cc39]; exact ⟨h, q⟩
theorem has40 {n : Nat} (h : 10 ≤ n) : Has (CC n) 40 S_move := fun ds G P EX q => by rw [cc40]; exact ⟨h, q⟩
theorem has41 {n : Nat} (m : Nat) (h : 3 + m ≤ n) : Has (CC n) 41 (S_thingBy m) := fun ds G P EX q => by rw [cc41]; exact ⟨m, h, q⟩
theorem has42 {n : Nat} (h : 1 ≤ n) : Has (CC n) 42 S_int := fun ds G P EX q => by rw [cc42]; exact ⟨h, q⟩
theorem has43 {n : Nat} (h : 2 ≤ n) : Has (CC n) 43 S_placeB := fun ds G P EX q => by rw [cc43]; exact ⟨h, q⟩
theorem has44 {n : Nat} (h : 4 ≤ n) : Has (CC n) 44 S_need := fun ds G P EX q => by rw [cc44]; exact ⟨h, q⟩
theorem has45 {n : Nat} (h : 1 ≤ n) : Has (CC n) 45 S_short := fun ds G P EX q => by rw [cc45]; exact ⟨h, q⟩
theorem has46 {n : Nat} (h : 9 ≤ n) : Has (CC n) 46 S_show := fun ds G P EX q => by rw [cc46]; exact ⟨h, q⟩
theorem has47 {n : Nat} (h : 2 ≤ n) : Has (CC n) 47 S_name := fun ds G P EX q => by rw [cc47]; exact ⟨h, q⟩
theorem has48 {n : Nat} (h : 3 ≤ n) : Has (CC n) 48 S_single := fun ds G P EX q => by rw [cc48]; exact ⟨h, q⟩
theorem has49 {n : Nat} (h : 2 ≤ n) : Has (CC n) 49 S_members := fun ds G P EX q => by rw [cc49]; exact ⟨h, q⟩
theorem has50 {n : Nat} (h : 1 ≤ n) : Has (CC n) 50 S_lam := fun ds G P EX q => by rw [cc50]; exact ⟨h, q⟩
theorem lev0 (n : Nat) : Serves tabs (CC n) f_law (CC (n + 1) 0) := by rw [cc0]; exact serves_lv fun hk => sv_law (has1 (by omega)) (has2 (by omega)) (has5 (by omega)) (has3 (by omega)) (has4 (by omega)) (has6 (by omega)) (has7 (by omega)) (has8 (by omega)) (has9 2 (by omega)) (has10 (by omega)) (has11 (by omega)) (has12 (by omega)) (has13 (by omega)) (has14 2 (by omega)) (has15 (by omega)) (has16 (by omega))
theorem lev1 (n : Nat) : Serves tabs (CC n) f_law_deck (CC (n + 1) 1) := by rw [cc1]; exact serves_lv fun hk => sv_deck
theorem lev2 (n : Nat) : Serves tabs (CC n) f_law_circle (CC (n + 1) 2) := by rw [cc2]; exact serves_lv fun hk => sv_circle (has5 (by omega)) (has7 (by omega)) (has17 (by omega)) (has18 (by omega)) (has19 2 (by omega))
theorem lev3 (n : Nat) : Serves tabs (CC n) f_law_near_watchers (CC (n + 1) 3) := by rw [cc3]; exact serves_lv fun hk => sv_near (has5 (by omega))
theorem lev4 (n : Nat) : Serves tabs (CC n) f_law_watcher (CC (n + 1) 4) := by rw [cc4]; exact serves_lv fun hk => sv_drawnW (has5 (by omega))
theorem lev5 (n : Nat) : Serves tabs (CC n) f_law_draw (CC (n + 1) 5) := by rw [cc5]; exact serves_lv fun hk => sv_draw
theorem lev6 (n : Nat) : Serves tabs (CC n) f_law_code (CC (n + 1) 6) := by rw [cc6]; exact serves_lv fun hk => sv_code (has20 (by omega)) (has21 (by omega))
theorem lev7 (n : Nat) : Serves tabs (CC n) f_law_pick (CC (n + 1) 7) := by rw [cc7]; exact serves_lv fun hk => sv_pick (has5 (by omega))
theorem lev8 (n : Nat) : Serves tabs (CC n) f_law_is_watcher (CC (n + 1) 8) := by rw [cc8]; exact serves_lv fun hk => sv_lisW (has22 (by omega))
theorem lev9 (n : Nat) : Serves tabs (CC n) f_law_made (CC (n + 1) 9) := by rw [cc9]; exact serves_lvr fun dep hk => sv_made dep (has10 (by omega)) (fun m hm => has9 m (by omega))
theorem lev10 (n : Nat) : Serves tabs (CC n) f_law_names (CC (n + 1) 10) := by rw [cc10]; exact serves_lv fun hk => sv_names
theorem lev11 (n : Nat) : Serves tabs (CC n) f_done (CC (n + 1) 11) := by rw [cc11]; exact serves_lv fun hk => sv_done (has23 (by omega))
theorem lev12 (n : Nat) : Serves tabs (CC n) f_law_same (CC (n + 1) 12) := by rw [cc12]; exact serves_lv fun hk => sv_same
theorem lev13 (n : Nat) : Serves tabs (CC n) f_is_watcher (CC (n + 1) 13) := by rw [cc13]; exact serves_lv fun hk => sv_isW (has25 (by omega)) (has24 (by omega))
theorem lev14 (n : Nat) : Serves tabs (CC n) f_law_recipe (CC (n + 1) 14) := by rw [cc14]; exact serves_lvr fun dep hk => sv_recipe dep (has5 (by omega)) (has7 (by omega)) (has10 (by omega)) (has4 (by omega)) (fun m hm => has14 m (by omega))
theorem lev15 (n : Nat) : Serves tabs (CC n) f_opposite (CC (n + 1) 15) := by rw [cc15]; exact serves_lv fun hk => sv_opp
theorem lev16 (n : Nat) : Serves tabs (CC n) f_both (CC (n + 1) 16) := by rw [cc16]; exact serves_lv fun hk => sv_both (has26 (by omega)) (has27 (by omega))
theorem lev17 (n : Nat) : Serves tabs (CC n) f_law_books (CC (n + 1) 17) := by rw [cc17]; exact serves_lv fun hk => sv_books
theorem lev18 (n : Nat) : Serves tabs (CC n) f_law_words (CC (n + 1) 18) := by rw [cc18]; exact serves_lv fun hk => sv_words (has5 (by omega))
theorem lev19 (n : Nat) : Serves tabs (CC n) f_law_thing (CC (n + 1) 19) := by rw [cc19]; exact serves_lvr fun dep hk => sv_thing dep (has5 (by omega)) (has7 (by omega)) (fun m hm => has19 m (by omega))
theorem lev20 (n : Nat) : Serves tabs (CC n) f_Circle___init__ (CC (n + 1) 20) := by rw [cc20]; exact serves_lv fun hk => sv_Circle (has30 (by omega)) (has28 (by omega)) (has29 (by omega))
theorem lev21 (n : Nat) : Serves tabs (CC n) f_Book___init__ (CC (n + 1) 21) := by rw [cc21]; exact serves_lv fun hk => sv_Book (has31 (by omega)) (has32 (by omega))
theorem lev22 (n : Nat) : Serves tabs (CC n) f_law_is_standing (CC (n + 1) 22) := by rw [cc22]; exact serves_lv fun hk => sv_lstand
theorem lev23 (n : Nat) : Serves tabs (CC n) f_Circle_deed (CC (n + 1) 23) := by rw [cc23]; exact serves_lv fun hk => sv_deedOf
theorem lev24 (n : Nat) : Serves tabs (CC n) f_are_standings (CC (n + 1) 24) := by rw [cc24]; exact serves_lv fun hk => sv_stand (has30 (by omega)) (has33 (by omega))
theorem lev25 (n : Nat) : Serves tabs (CC n) f_is_row (CC (n + 1) 25) := by rw [cc25]; exact serves_lv fun hk => sv_isRow (has30 (by omega))
theorem lev26 (n : Nat) : Serves tabs (CC n) f_paired_rows (CC (n + 1) 26) := by rw [cc26]; exact serves_lv fun hk => sv_pairR
theorem lev27 (n : Nat) : Serves tabs (CC n) f_paired_standings (CC (n + 1) 27) := by rw [cc27]; exact serves_lv fun hk => sv_pairS (has50 (by omega))
theorem lev28 (n : Nat) : Serves tabs (CC n) f_are_deeds (CC (n + 1) 28) := by rw [cc28]; exact serves_lv fun hk => sv_deeds (has34 (by omega)) (has33 (by omega))
theorem lev29 (n : Nat) : Serves tabs (CC n) f_are_firsts (CC (n + 1) 29) := by rw [cc29]; exact serves_lv fun hk => sv_firsts (has35 (by omega))
theorem lev30 (n : Nat) : Serves tabs (CC n) f_is_place_circles (CC (n + 1) 30) := by rw [cc30]; exact serves_lv fun hk => sv_place
theorem lev31 (n : Nat) : Serves tabs (CC n) f_are_kinds (CC (n + 1) 31) := by rw [cc31]; exact serves_lv fun hk => sv_kinds (has37 (by omega)) (has36 (by omega))
theorem lev32 (n : Nat) : Serves tabs (CC n) f_are_openings (CC (n + 1) 32) := by rw [cc32]; exact serves_lv fun hk => sv_openings (has38 (by omega)) (has36 (by omega))
theorem lev33 (n : Nat) : Serves tabs (CC n) f_are_ascending_circles (CC (n + 1) 33) := by rw [cc33]; exact serves_lv fun hk => sv_ascC
theorem lev34 (n : Nat) : Serves tabs (CC n) f_is_deed (CC (n + 1) 34) := by rw [cc34]; exact serves_lv fun hk => sv_deed (has30 (by omega)) (has35 (by omega)) (has39 (by omega)) (has40 (by omega))
theorem lev35 (n : Nat) : Serves tabs (CC n) f_Book_is_thing (CC (n + 1) 35) := by rw [cc35]; exact serves_lv fun hk => sv_isThing (has41 4 (by omega))
theorem lev36 (n : Nat) : Serves tabs (CC n) f_are_ascending_books (CC (n + 1) 36) := by rw [cc36]; exact serves_lv fun hk => sv_ascB
theorem lev37 (n : Nat) : Serves tabs (CC n) f_is_kind (CC (n + 1) 37) := by rw [cc37]; exact serves_lv fun hk => sv_kind (has39 (by omega)) (has42 (by omega))
theorem lev38 (n : Nat) : Serves tabs (CC n) f_is_opening (CC (n + 1) 38) := by rw [cc38]; exact serves_lv fun hk => sv_opening (has39 (by omega)) (has43 (by omega)) (has44 (by omega))
theorem lev39 (n : Nat) : Serves tabs (CC n) f_is_word (CC (n + 1) 39) := by rw [cc39]; exact serves_lv fun hk => sv_word (has45 (by omega))
theorem lev40 (n : Nat) : Serves tabs (CC n) f_is_move (CC (n + 1) 40) := by rw [cc40]; exact serves_lv fun hk => sv_move (has30 (by omega)) (has46 (by omega))
theorem lev41 (n : Nat) : Serves tabs (CC n) f_is_thing_by (CC (n + 1) 41) := by rw [cc41]; exact serves_lvr fun dep hk => sv_thingBy dep (has39 (by omega)) (has47 (by omega)) (fun m hm => has41 m (by omega))
theorem lev42 (n : Nat) : Serves tabs (CC n) f_is_integer (CC (n + 1) 42) := by rw [cc42]; exact serves_lv fun hk => sv_int
theorem lev43 (n : Nat) : Serves tabs (CC n) f_is_place_books (CC (n + 1) 43) := by rw [cc43]; exact serves_lv fun hk => sv_placeB (has42 (by omega))
theorem lev44 (n : Nat) : Serves tabs (CC n) f_is_need (CC (n + 1) 44) := by rw [cc44]; exact serves_lv fun hk => sv_need (has43 (by omega)) (has48 (by omega))
theorem lev45 (n : Nat) : Serves tabs (CC n) f_is_short (CC (n + 1) 45) := by rw [cc45]; exact serves_lv fun hk => sv_short
theorem lev46 (n : Nat) : Serves tabs (CC n) f_is_show (CC (n + 1) 46) := by rw [cc46]; exact serves_lv fun hk => sv_show (has35 (by omega)) (has49 (by omega))
theorem lev47 (n : Nat) : Serves tabs (CC n) f_is_name (CC (n + 1) 47) := by rw [cc47]; exact serves_lv fun hk => sv_name (has45 (by omega))
theorem lev48 (n : Nat) : Serves tabs (CC n) f_is_single (CC (n + 1) 48) := by rw [cc48]; exact serves_lv fun hk => sv_single (has39 (by omega))
theorem lev49 (n : Nat) : Serves tabs (CC n) f_are_members (CC (n + 1) 49) := by rw [cc49]; exact serves_lv fun hk => sv_members (has30 (by omega)) (has33 (by omega))
theorem lev_d : ∀ (n f : Nat) (d : FD × Loc1), pt.ds[f]? = some d → Serves pt.T (CC n) d.1 (CC (n + 1) f)
  | n, 0, d, h => by have e : some (f_law, lc "law" none) = some d := h; cases e; exact lev0 n
  | n, 1, d, h => by have e : some (f_law_deck, lc "_law_deck" none) = some d := h; cases e; exact lev1 n
  | n, 2, d, h => by have e : some (f_law_circle, lc "_law_circle" none) = some d := h; cases e; exact lev2 n
  | n, 3, d, h => by have e : some (f_law_near_watchers, lc "_law_near_watchers" none) = some d := h; cases e; exact lev3 n
  | n, 4, d, h => by have e : some (f_law_watcher, lc "_law_watcher" none) = some d := h; cases e; exact lev4 n
  | n, 5, d, h => by have e : some (f_law_draw, lc "_law_draw" none) = some d := h; cases e; exact lev5 n
  | n, 6, d, h => by have e : some (f_law_code, lc "_law_code" none) = some d := h; cases e; exact lev6 n
  | n, 7, d, h => by have e : some (f_law_pick, lc "_law_pick" none) = some d := h; cases e; exact lev7 n
  | n, 8, d, h => by have e : some (f_law_is_watcher, lc "_law_is_watcher" none) = some d := h; cases e; exact lev8 n
  | n, 9, d, h => by have e : some (f_law_made, lc "_law_made" none) = some d := h; cases e; exact lev9 n
  | n, 10, d, h => by have e : some (f_law_names, lc "_law_names" none) = some d := h; cases e; exact lev10 n
  | n, 11, d, h => by have e : some (f_done, lc "done" none) = some d := h; cases e; exact lev11 n
  | n, 12, d, h => by have e : some (f_law_same, lc "_law_same" none) = some d := h; cases e; exact lev12 n
  | n, 13, d, h => by have e : some (f_is_watcher, lc "is_watcher" none) = some d := h; cases e; exact lev13 n
  | n, 14, d, h => by have e : some (f_law_recipe, lc "_law_recipe" none) = some d := h; cases e; exact lev14 n
  | n, 15, d, h => by have e : some (f_opposite, lc "opposite" none) = some d := h; cases e; exact lev15 n
  | n, 16, d, h => by have e : some (f_both, lc "both" none) = some d := h; cases e; exact lev16 n
  | n, 17, d, h => by have e : some (f_law_books, lc "_law_books" none) = some d := h; cases e; exact lev17 n
  | n, 18, d, h => by have e : some (f_law_words, lc "_law_words" none) = some d := h; cases e; exact lev18 n
  | n, 19, d, h => by have e : some (f_law_thing, lc "_law_thing" none) = some d := h; cases e; exact lev19 n
  | n, 20, d, h => by have e : some (f_Circle___init__, lc "Circle" (some "__init__")) = some d := h; cases e; exact lev20 n
  | n, 21, d, h => by have e : some (f_Book___init__, lc "Book" (some "__init__")) = some d := h; cases e; exact lev21 n
  | n, 22, d, h => by have e : some (f_law_is_standing, lc "_law_is_standing" none) = some d := h; cases e; exact lev22 n
  | n, 23, d, h => by have e : some (f_Circle_deed, lc "Circle" (some "deed")) = some d := h; cases e; exact lev23 n
  | n, 24, d, h => by have e : some (f_are_standings, lc "are_standings" none) = some d := h; cases e; exact lev24 n
  | n, 25, d, h => by have e : some (f_is_row, lc "is_row" none) = some d := h; cases e; exact lev25 n
  | n, 26, d, h => by have e : some (f_paired_rows, lc "paired_rows" none) = some d := h; cases e; exact lev26 n
  | n, 27, d, h => by have e : some (f_paired_standings, lc "paired_standings" none) = some d := h; cases e; exact lev27 n
  | n, 28, d, h => by have e : some (f_are_deeds, lc "are_deeds" none) = some d := h; cases e; exact lev28 n
  | n, 29, d, h => by have e : some (f_are_firsts, lc "are_firsts" none) = some d := h; cases e; exact lev29 n
  | n, 30, d, h => by have e : some (f_is_place_circles, lc "is_place_circles" none) = some d := h; cases e; exact lev30 n
  | n, 31, d, h => by have e : some (f_are_kinds, lc "are_kinds" none) = some d := h; cases e; exact lev31 n
  | n, 32, d, h => by have e : some (f_are_openings, lc "are_openings" none) = some d := h; cases e; exact lev32 n
  | n, 33, d, h => by have e : some (f_are_ascending_circles, lc "are_ascending_circles" none) = some d := h; cases e; exact lev33 n
  | n, 34, d, h => by have e : some (f_is_deed, lc "is_deed" none) = some d := h; cases e; exact lev34 n
  | n, 35, d, h => by have e : some (f_Book_is_thing, lc "Book" (some "is_thing")) = some d := h; cases e; exact lev35 n
  | n, 36, d, h => by have e : some (f_are_ascending_books, lc "are_ascending_books" none) = some d := h; cases e; exact lev36 n
  | n, 37, d, h => by have e : some (f_is_kind, lc "is_kind" none) = some d := h; cases e; exact lev37 n
  | n, 38, d, h => by have e : some (f_is_opening, lc "is_opening" none) = some d := h; cases e; exact lev38 n
  | n, 39, d, h => by have e : some (f_is_word, lc "is_word" none) = some d := h; cases e; exact lev39 n
  | n, 40, d, h => by have e : some (f_is_move, lc "is_move" none) = some d := h; cases e; exact lev40 n
  | n, 41, d, h => by have e : some (f_is_thing_by, lc "is_thing_by" none) = some d := h; cases e; exact lev41 n
  | n, 42, d, h => by have e : some (f_is_integer, lc "is_integer" none) = some d := h; cases e; exact lev42 n
  | n, 43, d, h => by have e : some (f_is_place_books, lc "is_place_books" none) = some d := h; cases e; exact lev43 n
  | n, 44, d, h => by have e : some (f_is_need, lc "is_need" none) = some d := h; cases e; exact lev44 n
  | n, 45, d, h => by have e : some (f_is_short, lc "is_short" none) = some d := h; cases e; exact lev45 n
  | n, 46, d, h => by have e : some (f_is_show, lc "is_show" none) = some d := h; cases e; exact lev46 n
  | n, 47, d, h => by have e : some (f_is_name, lc "is_name" none) = some d := h; cases e; exact lev47 n
  | n, 48, d, h => by have e : some (f_is_single, lc "is_single" none) = some d := h; cases e; exact lev48 n
  | n, 49, d, h => by have e : some (f_are_members, lc "are_members" none) = some d := h; cases e; exact lev49 n
  | n, f + 50, d, h => by have e : (none : Option (FD × Loc1)) = some d := h; cases e
theorem lev_z : ∀ (f : Nat) (ds : List DV) (G : DH) (P : DK) (EX : DXK), ¬ CC 0 f ds G P EX := fun f ds G P EX h => by
  unfold CC at h
  split at h
  all_goals first
    | exact absurd h.1 (by decide)
    | (obtain ⟨dep, h1, _⟩ := h; omega)
    | exact h
theorem lev_l : ∀ (n i : Nat) (d : LD), pt.ls[i]? = some d → ServesL pt.T (CC n) d (CC (n + 1) (pt.ds.length + i))
  | n, 0, d, h => by
    have e : some lamD0 = some d := h
    cases e
    show ServesL tabs (CC n) lamD0 (CC (n + 1) 50)
    rw [cc50]
    exact fun ds G P EX hl q => sv_lam ds G P EX hl q.2
  | n, i + 1, d, h => by have e : (none : Option LD) = some d := h; cases e
theorem lev_all : Lev pt CC := ⟨lev_z, lev_d, lev_l⟩
end DL
end
section
set_option Elab.async false
set_option maxRecDepth 100000
open PySem PySem.W PySem.Calls PyProof.Rows DL
theorem PySem.Challenge.cw_circlewatch_k00_watchers_of_any_value_holds : PySem.Challenge.rw_circlewatch_k00_watchers_of_any_value.Holds :=
  k00_of (C := CC) (lev := 15) lev_all ⟨rfl, by decide, by decide⟩ fun ns G s hl _ hs => ⟨Nat.le_refl 15, s, ns, rfl, hl, hs, fun _ => rfl⟩
end
